import PyProof.Rows.All
import Wide.All
import OpenK.AllK
import Wide.FinOn
import HandS.ForMost
import HandS.Walk
import HandS.Evl
import HandS.Flow
import HandS.IsInst
import HandS.Style
import HandS.Deep
import HandS.Gcd
import HandS.Defaults
import KE.KStateDown
import HandS.Head0
import HandS.Head1
import HandS.Head2
import HandS.HeadEnd
import HandS.HeadHook1
import KE.SortData
import HandS.Wide
import HandS.HeadHook2
import HandS.HeadHook4
import HandS.WordsExc
import HandS.Conv
import PySem.Challenge.RW_wordsweighed_k67_whole_best_orders_of_jo
set_option Elab.async false
set_option linter.all false
set_option maxRecDepth 100000
set_option maxHeartbeats 4000000
namespace Rf
open PySem PySem.Spec PyProof.Rows L2

/-! ### data -/
inductive D where
  | non | bl (b : Bool) | int (i : Int) | str (s : Str) | lst (xs : List D) | tup (xs : List D) | scr (ns : List Int)
/-- sh: common; od: a list of one's own, its items common; ol, ot: a list, a tuple of one's own, of such things -/
inductive M where
  | sh (d : D) | od (xs : List D) | ol (xs : List M) | ot (xs : List M)
mutual
def M.share : M → D
  | .sh d => d
  | .od xs => .lst xs
  | .ol xs => .lst (M.shares xs)
  | .ot xs => .tup (M.shares xs)
def M.shares : List M → List D
  | [] => []
  | x :: xs => x.share :: M.shares xs
end
theorem shares_map : ∀ xs : List M, M.shares xs = xs.map M.share
  | [] => rfl
  | x :: xs => by rw [M.shares, shares_map xs]; rfl
theorem shares_len (xs : List M) : (M.shares xs).length = xs.length := by rw [shares_map, List.length_map]

/-! ### what a value is, over a heap -/
mutual
inductive Rp (K : PySem.W.Frag) (H : Hp) : V → D → Prop
  | non : Rp K H .non .non
  | bl (b : Bool) : Rp K H (.bl b) (.bl b)
  | int (i : Int) : Rp K H (.int i) (.int i)
  | str (x : Str) : Rp K H (.str x) (.str x)
  | lst {a : Addr} {xs : List V} {ds : List D} : H a = some (.lst xs) → RpL K H xs ds → Rp K H (.ref a) (.lst ds)
  | tup {a : Addr} {xs : List V} {ds : List D} : SqT K H a xs → RpL K H xs ds → Rp K H (.ref a) (.tup ds)
  | scr {a : Addr} {ns : List Int} : SqL K H a (ns.map V.int) → Rp K H (.ref a) (.scr ns)
inductive RpL (K : PySem.W.Frag) (H : Hp) : List V → List D → Prop
  | nil : RpL K H [] []
  | cons {v : V} {vs : List V} {d : D} {ds : List D} : Rp K H v d → RpL K H vs ds → RpL K H (v :: vs) (d :: ds)
end
/- m: its own parts (lists, tuples made here and held nowhere else) stand at oo in H, all else in Hb -/
mutual
inductive RpM (K : PySem.W.Frag) (H Hb : Hp) : V → M → List Addr → Prop
  | sh {v : V} {d : D} : Rp K Hb v d → RpM K H Hb v (.sh d) []
  | od {p : Addr} {vs : List V} {ds : List D} : H p = some (.lst vs) → RpL K Hb vs ds → RpM K H Hb (.ref p) (.od ds) [p]
  | ol {p : Addr} {vs : List V} {ms : List M} {oo : List Addr} : H p = some (.lst vs) → RpMs K H Hb vs ms oo → RpM K H Hb (.ref p) (.ol ms) (p :: oo)
  | ot {p : Addr} {vs : List V} {ms : List M} {oo : List Addr} : H p = some (.tup vs) → RpMs K H Hb vs ms oo → RpM K H Hb (.ref p) (.ot ms) (p :: oo)
inductive RpMs (K : PySem.W.Frag) (H Hb : Hp) : List V → List M → List Addr → Prop
  | nil : RpMs K H Hb [] [] []
  | cons {v : V} {vs : List V} {m : M} {ms : List M} {oo oo' : List Addr} : RpM K H Hb v m oo → RpMs K H Hb vs ms oo' → RpMs K H Hb (v :: vs) (m :: ms) (oo ++ oo')
end

abbrev Ex := Evl.Ex

section
variable {K : PySem.W.Frag} {H H' Hb Hb' : Hp}
mutual
theorem Rp.mono (e : Evl.Ex H H') : ∀ {v : V} {d : D}, Rp K H v d → Rp K H' v d
  | _, _, .non => .non
  | _, _, .bl b => .bl b
  | _, _, .int i => .int i
  | _, _, .str x => .str x
  | _, _, .lst h l => .lst (e _ _ h) (RpL.mono e l)
  | _, _, .tup h l => .tup (Evl.ex_t e h) (RpL.mono e l)
  | _, _, .scr h => .scr (Evl.ex_l e h)
theorem RpL.mono (e : Evl.Ex H H') : ∀ {vs : List V} {ds : List D}, RpL K H vs ds → RpL K H' vs ds
  | _, _, .nil => .nil
  | _, _, .cons h l => .cons (Rp.mono e h) (RpL.mono e l)
end
theorem RpL.len : ∀ {vs : List V} {ds : List D}, RpL K H vs ds → vs.length = ds.length
  | _, _, .nil => rfl
  | _, _, .cons _ l => by rw [List.length_cons, List.length_cons, l.len]
theorem RpL.get : ∀ {vs : List V} {ds : List D} {i : Nat} {d : D}, RpL K H vs ds → ds[i]? = some d → ∃ v, vs[i]? = some v ∧ Rp K H v d
  | _, _, i, _, .nil, e => by simp at e
  | _, _, 0, _, .cons h _, e => by simp at e; subst e; exact ⟨_, rfl, h⟩
  | _, _, i + 1, d, .cons _ l, e => by
    obtain ⟨v, h1, h2⟩ := RpL.get (i := i) (d := d) l (by simpa using e)
    exact ⟨v, by simpa using h1, h2⟩
theorem RpL.get' : ∀ {vs : List V} {ds : List D} {i : Nat} {v : V}, RpL K H vs ds → vs[i]? = some v → ∃ d, ds[i]? = some d ∧ Rp K H v d
  | _, _, i, _, .nil, e => by simp at e
  | _, _, 0, _, .cons h _, e => by simp at e; subst e; exact ⟨_, rfl, h⟩
  | _, _, i + 1, v, .cons _ l, e => by
    obtain ⟨d, h1, h2⟩ := RpL.get' (i := i) (v := v) l (by simpa using e)
    exact ⟨d, by simpa using h1, h2⟩
theorem RpL.append : ∀ {vs vs' : List V} {ds ds' : List D}, RpL K H vs ds → RpL K H vs' ds' → RpL K H (vs ++ vs') (ds ++ ds')
  | _, _, _, _, .nil, l => l
  | _, _, _, _, .cons h l, l' => .cons h (RpL.append l l')
theorem RpL.take : ∀ {vs : List V} {ds : List D} (n : Nat), RpL K H vs ds → RpL K H (vs.take n) (ds.take n)
  | _, _, 0, _ => .nil
  | _, _, _ + 1, .nil => .nil
  | _, _, n + 1, .cons h l => .cons h (RpL.take n l)
theorem RpL.drop : ∀ {vs : List V} {ds : List D} (n : Nat), RpL K H vs ds → RpL K H (vs.drop n) (ds.drop n)
  | _, _, 0, l => l
  | _, _, _ + 1, .nil => .nil
  | _, _, n + 1, .cons _ l => RpL.drop n l
theorem RpL.revAux : ∀ (vs vs' : List V) (ds ds' : List D), RpL K H vs ds → RpL K H vs' ds' → RpL K H (vs.reverseAux vs') (ds.reverseAux ds')
  | [], _, _, _, .nil, h' => h'
  | v :: vs, vs', d :: ds, ds', .cons a b, h' => RpL.revAux vs (v :: vs') ds (d :: ds') b (.cons a h')
theorem RpL.rev {vs : List V} {ds : List D} (h : RpL K H vs ds) : RpL K H vs.reverse ds.reverse := RpL.revAux vs [] ds [] h .nil
theorem RpL.set : ∀ {vs : List V} {ds : List D} {v : V} {d : D} (i : Nat), RpL K H vs ds → Rp K H v d → RpL K H (vs.set i v) (ds.set i d)
  | _, _, _, _, _, .nil, _ => .nil
  | _, _, _, _, 0, .cons _ l, h => .cons h l
  | _, _, _, _, i + 1, .cons a l, h => .cons a (RpL.set i l h)

theorem RpMs.len : ∀ {vs : List V} {ms : List M} {oo : List Addr}, RpMs K H Hb vs ms oo → vs.length = ms.length
  | _, _, _, .nil => rfl
  | _, _, _, .cons _ l => by rw [List.length_cons, List.length_cons, l.len]
mutual
theorem RpM.mono (eb : Evl.Ex Hb Hb') : ∀ {v : V} {m : M} {oo : List Addr}, RpM K H Hb v m oo → (∀ p ∈ oo, H' p = H p) → RpM K H' Hb' v m oo
  | _, _, _, .sh h, _ => .sh (h.mono eb)
  | _, _, _, .od h l, k => .od ((k _ List.mem_cons_self).trans h) (l.mono eb)
  | _, _, _, .ol h l, k => .ol ((k _ List.mem_cons_self).trans h) (RpMs.mono eb l fun q hq => k q (List.mem_cons_of_mem _ hq))
  | _, _, _, .ot h l, k => .ot ((k _ List.mem_cons_self).trans h) (RpMs.mono eb l fun q hq => k q (List.mem_cons_of_mem _ hq))
theorem RpMs.mono (eb : Evl.Ex Hb Hb') : ∀ {vs : List V} {ms : List M} {oo : List Addr}, RpMs K H Hb vs ms oo → (∀ p ∈ oo, H' p = H p) → RpMs K H' Hb' vs ms oo
  | _, _, _, .nil, _ => .nil
  | _, _, _, .cons h l, k => .cons (RpM.mono eb h fun q hq => k q (List.mem_append_left _ hq)) (RpMs.mono eb l fun q hq => k q (List.mem_append_right _ hq))
end
mutual
theorem RpM.there : ∀ {v : V} {m : M} {oo : List Addr}, RpM K H Hb v m oo → ∀ p ∈ oo, ∃ o, H p = some o
  | _, _, _, .sh _, p, hp => by simp at hp
  | _, _, _, .od h _, q, hq => by
    rcases List.mem_cons.mp hq with e | hq
    · exact ⟨_, e ▸ h⟩
    · exact absurd hq (by simp)
  | _, _, _, .ol h l, q, hq => by
    rcases List.mem_cons.mp hq with e | hq
    · exact ⟨_, e ▸ h⟩
    · exact RpMs.there l q hq
  | _, _, _, .ot h l, q, hq => by
    rcases List.mem_cons.mp hq with e | hq
    · exact ⟨_, e ▸ h⟩
    · exact RpMs.there l q hq
theorem RpMs.there : ∀ {vs : List V} {ms : List M} {oo : List Addr}, RpMs K H Hb vs ms oo → ∀ p ∈ oo, ∃ o, H p = some o
  | _, _, _, .nil, p, hp => by simp at hp
  | _, _, _, .cons h l, q, hq => by
    rcases List.mem_append.mp hq with hq | hq
    · exact RpM.there h q hq
    · exact RpMs.there l q hq
end
theorem RpM.ex {v : V} {m : M} {oo : List Addr} (h : RpM K H Hb v m oo) (e : Evl.Ex H H') (eb : Evl.Ex Hb Hb') : RpM K H' Hb' v m oo := h.mono eb fun p hp => by
  obtain ⟨o, q⟩ := h.there p hp
  rw [q, e p o q]
theorem RpMs.ex {vs : List V} {ms : List M} {oo : List Addr} (h : RpMs K H Hb vs ms oo) (e : Evl.Ex H H') (eb : Evl.Ex Hb Hb') : RpMs K H' Hb' vs ms oo := h.mono eb fun p hp => by
  obtain ⟨o, q⟩ := h.there p hp
  rw [q, e p o q]
/- given away: all of it is common from now on -/
mutual
theorem RpM.rp (eb : Evl.Ex Hb Hb') : ∀ {v : V} {m : M} {oo : List Addr}, RpM K H Hb v m oo → (∀ p ∈ oo, Hb' p = H p) → Rp K Hb' v m.share
  | _, _, _, .sh h, _ => h.mono eb
  | _, _, _, .od h l, k => .lst ((k _ List.mem_cons_self).trans h) (l.mono eb)
  | _, _, _, .ol h l, k => .lst ((k _ List.mem_cons_self).trans h) (RpMs.rp eb l fun q hq => k q (List.mem_cons_of_mem _ hq))
  | _, _, _, .ot h l, k => .tup (SqT.of ((k _ List.mem_cons_self).trans h)) (RpMs.rp eb l fun q hq => k q (List.mem_cons_of_mem _ hq))
theorem RpMs.rp (eb : Evl.Ex Hb Hb') : ∀ {vs : List V} {ms : List M} {oo : List Addr}, RpMs K H Hb vs ms oo → (∀ p ∈ oo, Hb' p = H p) → RpL K Hb' vs (M.shares ms)
  | _, _, _, .nil, _ => .nil
  | _, _, _, .cons h l, k => .cons (RpM.rp eb h fun q hq => k q (List.mem_append_left _ hq)) (RpMs.rp eb l fun q hq => k q (List.mem_append_right _ hq))
end
theorem RpM.rpH {v : V} {m : M} {oo : List Addr} (e : Evl.Ex Hb H) (h : RpM K H Hb v m oo) : Rp K H v m.share := h.rp e fun _ _ => rfl
theorem RpMs.rpH {vs : List V} {ms : List M} {oo : List Addr} (e : Evl.Ex Hb H) (h : RpMs K H Hb vs ms oo) : RpL K H vs (M.shares ms) := h.rp e fun _ _ => rfl
end

/-! ### from one state to a later one: P what must stay, Hb what is common -/
structure Up (P Hb H' Hb' : Hp) : Prop where
  keep : Evl.Ex P H'
  com : Evl.Ex Hb Hb'
  sub : Evl.Ex Hb' H'
  apart : ∀ p, P p ≠ none → Hb p = none → Hb' p = none
section
variable {P H H1 H2 Hb Hb1 Hb2 : Hp}
theorem Up.refl (e : Evl.Ex Hb H) : Up H Hb H Hb := ⟨.refl _, .refl _, e, fun _ _ h => h⟩
theorem Up.trans (a : Up P Hb H1 Hb1) (b : Up H1 Hb1 H2 Hb2) : Up P Hb H2 Hb2 :=
  ⟨a.keep.trans b.keep, a.com.trans b.com, b.sub, fun p h1 h2 => by
    refine b.apart p ?_ (a.apart p h1 h2)
    cases q : P p with
    | none => exact absurd q h1
    | some o => rw [a.keep p o q]; simp⟩
/-- a new object that is common -/
theorem Up.newC {p : Addr} {o : HO} (u : Up P Hb H1 Hb1) (h : H1 p = none) : Up P Hb (upd H1 p o) (upd Hb1 p o) := by
  have hb : Hb1 p = none := by
    cases q : Hb1 p with
    | none => rfl
    | some x => rw [u.sub p x q] at h; cases h
  refine ⟨u.keep.trans (Evl.Ex.new h), u.com.trans (Evl.Ex.new hb), fun a x e => ?_, fun q h1 h2 => ?_⟩
  · by_cases ea : a = p
    · subst ea; rw [upd_same] at e ⊢; exact e
    · rw [upd_ne ea] at e ⊢; exact u.sub a x e
  · have ne : q ≠ p := by
      rintro rfl
      cases z : P q with
      | none => exact h1 z
      | some x => rw [u.keep q x z] at h; cases h
    rw [upd_ne ne]
    exact u.apart q h1 h2
/-- a new object that is one's own -/
theorem Up.newO {p : Addr} {o : HO} (u : Up P Hb H1 Hb1) (h : H1 p = none) : Up P Hb (upd H1 p o) Hb1 :=
  ⟨u.keep.trans (Evl.Ex.new h), u.com, u.sub.trans (Evl.Ex.new h), u.apart⟩
/-- what was one's own becomes common -/
def give (H Hb : Hp) (oo : List Addr) : Hp := fun p => if p ∈ oo then H p else Hb p
theorem give_in {oo : List Addr} {p : Addr} (h : p ∈ oo) : give H Hb oo p = H p := if_pos h
theorem give_out {oo : List Addr} {p : Addr} (h : p ∉ oo) : give H Hb oo p = Hb p := if_neg h
theorem Up.give {oo : List Addr} (u : Up P Hb H1 Hb1) (hn : ∀ p ∈ oo, P p = none ∧ Hb1 p = none) : Up P Hb H1 (give H1 Hb1 oo) := by
  refine ⟨u.keep, fun p o e => ?_, fun p o e => ?_, fun p h1 h2 => ?_⟩
  · have q := u.com p o e
    rw [give_out fun hp => by rw [(hn p hp).2] at q; cases q]
    exact q
  · by_cases hp : p ∈ oo
    · rw [give_in hp] at e; exact e
    · rw [give_out hp] at e; exact u.sub p o e
  · rw [give_out fun hp => h1 (hn p hp).1]
    exact u.apart p h1 h2
theorem give_com {oo : List Addr} (hn : ∀ p ∈ oo, Hb p = none) : Evl.Ex Hb (give H Hb oo) := fun p o e => by
  rw [give_out fun hp => by rw [hn p hp] at e; cases e]
  exact e
end
end Rf

set_option Elab.async false
set_option linter.all false
set_option maxRecDepth 100000
set_option maxHeartbeats 4000000
namespace Rf
open PySem PySem.Spec PyProof.Rows L2

/-! ### the text, read -/
inductive Bi where
  | len | int | abs | max2 | min2 | sum | all | any | list | tuple | ord | sorted | gcd
  deriving DecidableEq
inductive Ty where
  | list | tuple | int | bool | str
  deriving DecidableEq
/-- a target -/
inductive Tg where
  | nm (i : Nat) | tp (is : List Nat)
  deriving DecidableEq
mutual
inductive E where
  | var (i : Nat) | gl (g : Nat) | non | bl (b : Bool) | int (i : Int) | str (s : Str)
  | bin (op : Operator) (a b : E) | neg (a : E) | not (a : E) | and (a b : E) | or (a b : E)
  | cmp (op : CmpOp) (a b : E) | chain (op op' : CmpOp) (a b c : E) | ite (t : T) (a b : E)
  | blt (f : Bi) (es : Es) | isi (a : E) (t : Ty) | call (f : Nat) (es : Es)
  | ix (a i : E) | sl (a lo hi : E) | rev (a : E) | lst (es : Es) | tup (es : Es)
  | comp (elt : E) (tg : Tg) (it : I) (t : T) (own : List Nat)
  | fl (e : E) | lrng (a : E)
inductive Es where
  | nil | cons (e : E) (es : Es)
/-- tests -/
inductive T where
  | yes | e (e : E) | not (t : T) | and (t u : T) | or (t u : T)
/-- what is walked -/
inductive I where
  | it (e : E) | r1 (a : E) | r2 (a b : E) | en (a : E) | zp (a b : E) | rv (a : E)
end

abbrev Sl := List (Option M)
def gt : Sl → Nat → Option M
  | [], _ => none
  | x :: _, 0 => x
  | _ :: S, i + 1 => gt S i
def st : Sl → Nat → Option M → Sl
  | [], _, _ => []
  | _ :: S, 0, m => m :: S
  | x :: S, i + 1, m => x :: st S i m

/-! ### operations -/
mutual
def toPy : D → PyData
  | .non => .none
  | .bl b => .bool b
  | .int i => .int i
  | .str s => .str s
  | .lst xs => .list (toPys xs)
  | .tup xs => .tuple (toPys xs)
  | .scr ns => .list (ns.map .int)
def toPys : List D → List PyData
  | [] => []
  | x :: xs => toPy x :: toPys xs
end
theorem toPys_map : ∀ xs : List D, toPys xs = xs.map toPy
  | [] => rfl
  | x :: xs => by rw [toPys, toPys_map xs]; rfl
/-- data that may be compared: no deeper than n -/
def okD : Nat → D → Bool
  | _, .non => true
  | _, .bl _ => true
  | _, .int _ => true
  | _, .str s => PyData.strOk s
  | n + 1, .lst xs => xs.all (okD n)
  | n + 1, .tup xs => xs.all (okD n)
  | _, _ => false

mutual
def eqD : D → D → Bool
  | .non, .non => true
  | .bl a, .bl b => a == b
  | .bl a, .int j => (if a then 1 else 0) == j
  | .int i, .bl b => i == (if b then 1 else 0)
  | .int i, .int j => i == j
  | .str x, .str y => x == y
  | .lst xs, .lst ys => eqDs xs ys
  | .tup xs, .tup ys => eqDs xs ys
  | _, _ => false
def eqDs : List D → List D → Bool
  | [], [] => true
  | x :: xs, y :: ys => eqD x y && eqDs xs ys
  | _, _ => false
end
def flat : D → Bool
  | .non => true
  | .bl _ => true
  | .int _ => true
  | .str _ => true
  | _ => false
abbrev big : Nat := 1000000
def okMul (i j : Int) : Prop := i.natAbs < 2 ^ 64 ∨ j.natAbs < 2 ^ 64 ∨ (i.natAbs < 2 ^ 400000 ∧ j.natAbs < 2 ^ 400000)
instance (i j : Int) : Decidable (okMul i j) := by unfold okMul; infer_instance
def okDiv (j : Int) : Prop := j ≠ 0 ∧ j.natAbs < 2 ^ 8000
instance (j : Int) : Decidable (okDiv j) := by unfold okDiv; infer_instance
def addD : D → D → Option M
  | .int i, .int j => some (.sh (.int (i + j)))
  | .str s, .str t => if s.length + t.length ≤ big then some (.sh (.str (s ++ t))) else none
  | .lst xs, .lst ys => if xs.length + ys.length ≤ big then some (.od (xs ++ ys)) else none
  | .tup xs, .tup ys => if xs ≠ [] ∧ xs.length + ys.length ≤ big then some (.sh (.tup (xs ++ ys))) else none
  | _, _ => none
def mulD : D → D → Option M
  | .int i, .int j => if okMul i j then some (.sh (.int (i * j))) else none
  | .lst xs, .int k => if -(big : Int) ≤ k ∧ k ≤ (big : Int) ∧ xs.length * k.toNat ≤ big then some (.od (List.replicate k.toNat xs).flatten) else none
  | _, _ => none
def binD (op : Operator) (a b : D) : Option M :=
  match op with
  | .Add => addD a b
  | .Sub => match a, b with
    | .int i, .int j => some (.sh (.int (i - j)))
    | _, _ => none
  | .Mult => mulD a b
  | .FloorDiv => match a, b with
    | .int i, .int j => if okDiv j then some (.sh (.int (i.fdiv j))) else none
    | _, _ => none
  | .Mod => match a, b with
    | .int i, .int j => if j ≠ 0 then some (.sh (.int (i.fmod j))) else none
    | _, _ => none
  | .Pow => match a, b with
    | .int i, .int j => if 0 ≤ j ∧ j ≤ (big : Int) ∧ i.natAbs < 2 ^ 64 then some (.sh (.int (i ^ j.toNat))) else none
    | _, _ => none
  | _ => none
def augD (op : Operator) (a b : D) : Option D :=
  match op with
  | .Add => match a, b with
    | .int i, .int j => some (.int (i + j))
    | .str s, .str t => if s.length + t.length ≤ big then some (.str (s ++ t)) else none
    | _, _ => none
  | .Sub => match a, b with
    | .int i, .int j => some (.int (i - j))
    | _, _ => none
  | .Mult => match a, b with
    | .int i, .int j => if okMul i j then some (.int (i * j)) else none
    | _, _ => none
  | _ => none
def scalD : D → D → Bool
  | .non, .non => true | .non, .int _ => true | .int _, .non => true | .non, .bl _ => true | .bl _, .non => true | .non, .str _ => true | .str _, .non => true
  | .int _, .int _ => true | .bl _, .bl _ => true | .str _, .str _ => true
  | .int _, .str _ => true | .str _, .int _ => true | .bl _, .str _ => true | .str _, .bl _ => true
  | _, _ => false
def eqM (a b : D) : Option Bool := if scalD a b = true ∨ (okD 60 a = true ∧ okD 60 b = true) then some (eqD a b) else none
def inD (a b : D) : Option Bool :=
  match b with
  | .lst ys => if (flat a = true ∧ ys.all flat = true) ∨ (okD 60 a = true ∧ okD 60 b = true) then some (ys.any fun y => eqD y a) else none
  | .tup ys => if flat a = true ∧ ys.all flat = true then some (ys.any fun y => eqD y a) else none
  | .str t => match a with
    | .str s => match s.cps.toList with
      | [c] => some (decide (c ∈ t.cps.toList))
      | _ => none
    | _ => none
  | _ => none
def isN : D → Bool
  | .non => true
  | _ => false
def cmpD (op : CmpOp) (a b : D) : Option Bool :=
  match op with
  | .Eq => eqM a b
  | .NotEq => (eqM a b).map (!·)
  | .Lt => match a, b with
    | .int i, .int j => some (decide (i < j))
    | .str s, .str t => some (decide (s.cps.toList < t.cps.toList))
    | _, _ => none
  | .LtE => match a, b with
    | .int i, .int j => some (decide (i ≤ j))
    | .str s, .str t => some (!decide (t.cps.toList < s.cps.toList))
    | _, _ => none
  | .Gt => match a, b with
    | .int i, .int j => some (decide (j < i))
    | .str s, .str t => some (decide (t.cps.toList < s.cps.toList))
    | _, _ => none
  | .GtE => match a, b with
    | .int i, .int j => some (decide (j ≤ i))
    | .str s, .str t => some (!decide (s.cps.toList < t.cps.toList))
    | _, _ => none
  | .Is => match b with
    | .non => some (isN a)
    | .bl y => match a with
      | .bl x => some (decide (x = y))
      | _ => none
    | _ => none
  | .IsNot => match b with
    | .non => some (!isN a)
    | .bl y => match a with
      | .bl x => some (!decide (x = y))
      | _ => none
    | _ => none
  | .In => inD a b
  | .NotIn => (inD a b).map (!·)
/-- truth -/
def truD : D → Option Bool
  | .non => some false
  | .bl b => some b
  | .int i => some (i != 0)
  | .str s => if s.length ≤ big then some ((s.length : Int) != 0) else none
  | .lst xs => some (!xs.isEmpty)
  | .tup xs => some (!xs.isEmpty)
  | .scr ns => none
/-- a place, from behind if below 0 -/
def pl (n : Nat) (i : Int) : Option Nat := if 0 ≤ i then (if i < n then some i.toNat else none) else if -(n : Int) ≤ i then some (i + n).toNat else none
def ixD (a i : D) : Option D :=
  match i with
  | .int k => match a with
    | .lst xs => (pl xs.length k).bind fun j => xs[j]?
    | .tup xs => (pl xs.length k).bind fun j => xs[j]?
    | .scr ns => (pl ns.length k).bind fun j => (ns[j]?).map .int
    | .str s => if s.length ≤ big then (pl s.cps.toList.length k).bind fun j => (s.cps.toList[j]?).map fun c => .str ⟨#[c]⟩ else none
    | _ => none
  | _ => none
/-- a bound of a slice -/
def bnd (n d : Nat) : D → Option Nat
  | .non => some d
  | .int i => some (if i < 0 then (i + (n : Int)).toNat else min i.toNat n)
  | _ => none
def cut {α : Type} (xs : List α) (lo hi : Nat) : List α := (xs.drop lo).take (hi - lo)
def isNon : E → Bool
  | .non => true
  | _ => false
/-- a bound that is written is a number -/
def nbM (b : Bool) (m : M) : Option M := if (b || !isN m.share) = true then some m else none
def slM (a lo hi : D) : Option M :=
  match a with
  | .lst xs => (bnd xs.length 0 lo).bind fun l => (bnd xs.length xs.length hi).bind fun h => some (.od (cut xs l h))
  | .str s => if s.length ≤ big then (bnd s.length 0 lo).bind fun l => (bnd s.length s.length hi).bind fun h => some (.sh (.str ⟨(cut s.cps.toList l h).toArray⟩)) else none
  | _ => none
def intsD : List D → Option (List Int)
  | [] => some []
  | .int i :: r => (intsD r).map (i :: ·)
  | _ => none
def blsD : List D → Option (List Bool)
  | [] => some []
  | .bl i :: r => (blsD r).map (i :: ·)
  | _ => none
/-- sorted: by Python's < of data of one shape (ints, texts, tuples of these) -/
def srtOk (ds : List D) : Prop := PySem.W.AllAlike (toPys ds) ∧ PySem.W.Sortable (toPys ds) ∧ ∀ d ∈ ds, (toPy d).depth ≤ 100
def leD (a b : D) : Bool := !PySem.W.dataLt (toPy b) (toPy a)
open Classical in
noncomputable def srtM (ds : List D) : Option (List D) := if srtOk ds then some (ds.mergeSort leD) else none
noncomputable def bltM (f : Bi) (ms : List D) : Option M :=
  match f with
  | .len => match ms with
    | [.str s] => if s.length ≤ big then some (.sh (.int s.length)) else none
    | [.lst xs] => some (.sh (.int xs.length))
    | [.tup xs] => some (.sh (.int xs.length))
    | [.scr ns] => some (.sh (.int ns.length))
    | _ => none
  | .int => match ms with
    | [.int i] => some (.sh (.int i))
    | [.bl b] => some (.sh (.int (if b then 1 else 0)))
    | _ => none
  | .abs => match ms with
    | [.int i] => some (.sh (.int (if i < 0 then -i else i)))
    | _ => none
  | .max2 => match ms with
    | [.int i, .int j] => some (.sh (.int (if j > i then j else i)))
    | _ => none
  | .min2 => match ms with
    | [.int i, .int j] => some (.sh (.int (if j < i then j else i)))
    | _ => none
  | .sum => match ms with
    | [.lst xs] => (intsD xs).map fun ns => .sh (.int ns.sum)
    | _ => none
  | .all => match ms with
    | [.lst xs] => (blsD xs).map fun bs => .sh (.bl (bs.all id))
    | _ => none
  | .any => match ms with
    | [.lst xs] => (blsD xs).map fun bs => .sh (.bl (bs.any id))
    | _ => none
  | .list => match ms with
    | [.lst xs] => some (.od xs)
    | [.tup xs] => some (.od xs)
    | _ => none
  | .tuple => match ms with
    | [.lst xs] => some (.sh (.tup xs))
    | [.tup xs] => some (.sh (.tup xs))
    | _ => none
  | .ord => match ms with
    | [.str s] => if s.length = 1 then some (.sh (.int (s.cps.getD 0 0 : Nat))) else none
    | _ => none
  | .sorted => match ms with
    | [.lst xs] => (srtM xs).map .od
    | _ => none
  | .gcd => match ms with
    | [.int a, .int b] => some (.sh (.int ((Nat.gcd a.natAbs b.natAbs : Nat) : Int)))
    | _ => none
def isiD (a : D) (t : Ty) : Bool :=
  match a, t with
  | .lst _, .list => true
  | .scr _, .list => true
  | .tup _, .tuple => true
  | .int _, .int => true
  | .bl _, .int => true
  | .bl _, .bool => true
  | .str _, .str => true
  | _, _ => false
def itD : D → Option (List D)
  | .lst xs => some xs
  | .tup xs => some xs
  | .str s => if s.length ≤ big then some (s.cps.toList.map fun c => .str ⟨#[c]⟩) else none
  | _ => none
def rngD (lo hi : Int) : List D := (List.range (hi - lo).toNat).map fun (i : Nat) => .int (lo + i)
def lstD : D → Option (List D)
  | .lst xs => some xs
  | _ => none
def enD (xs : List D) : List D := (List.range xs.length).zipWith (fun (i : Nat) x => .tup [.int i, x]) xs
def zpD (xs ys : List D) : List D := xs.zipWith (fun x y => .tup [x, y]) ys

/-! ### evaluation: c what the defs give -/
def clr : Sl → List Nat → Sl
  | S, [] => S
  | S, i :: is => st (clr S is) i none
def puts : Sl → List Nat → List D → Option Sl
  | S, [], [] => some S
  | S, i :: is, d :: ds => puts (st S i (some (.sh d))) is ds
  | _, _, _ => none
def bindT (tg : Tg) (d : D) (S : Sl) : Option Sl :=
  match tg with
  | .nm i => some (st S i (some (.sh d)))
  | .tp is => match d with
    | .tup ds => puts S is ds
    | _ => none
/-- a comprehension's turns -/
def turns (f : D → Option (Option M)) : List D → Option (List M)
  | [] => some []
  | x :: xs => (f x).bind fun o => (turns f xs).map fun ys => match o with
    | some y => y :: ys
    | none => ys
section
variable (c : Nat → List D → Option M) (G : List (Str × D))
mutual
noncomputable def ev : E → Sl → Option M
  | .var i, S => (gt S i).map fun m => .sh m.share
  | .gl g, _ => (G[g]?).map fun p => .sh p.2
  | .non, _ => some (.sh .non)
  | .bl b, _ => some (.sh (.bl b))
  | .int i, _ => some (.sh (.int i))
  | .str s, _ => some (.sh (.str s))
  | .bin op a b, S => (ev a S).bind fun x => (ev b S).bind fun y => binD op x.share y.share
  | .neg a, S => (ev a S).bind fun x => match x.share with
    | .int i => some (.sh (.int (-i)))
    | _ => none
  | .not a, S => (ev a S).bind fun x => (truD x.share).map fun b => .sh (.bl (!b))
  | .and a b, S => (ev a S).bind fun x => match x.share with
    | .bl k => if k = true then ev b S else some (.sh (.bl false))
    | _ => none
  | .or a b, S => (ev a S).bind fun x => match x.share with
    | .bl k => if k = true then some (.sh (.bl true)) else ev b S
    | _ => none
  | .cmp op a b, S => (ev a S).bind fun x => (ev b S).bind fun y => (cmpD op x.share y.share).map fun r => .sh (.bl r)
  | .chain op op' a b d, S => (ev a S).bind fun x => (ev b S).bind fun y => (cmpD op x.share y.share).bind fun r => if r = true then (ev d S).bind fun z => (cmpD op' y.share z.share).map fun r => .sh (.bl r) else some (.sh (.bl false))
  | .ite t a b, S => (evT t S).bind fun k => if k = true then ev a S else ev b S
  | .blt f es, S => (evs es S).bind fun ms => bltM f (M.shares ms)
  | .isi a t, S => (ev a S).map fun x => .sh (.bl (isiD x.share t))
  | .call f es, S => (evs es S).bind fun ms => c f (M.shares ms)
  | .ix a i, S => (ev a S).bind fun x => (ev i S).bind fun y => (ixD x.share y.share).map .sh
  | .sl a lo hi, S => (ev a S).bind fun x => ((ev lo S).bind (nbM (isNon lo))).bind fun y => ((ev hi S).bind (nbM (isNon hi))).bind fun z => slM x.share y.share z.share
  | .rev a, S => (ev a S).bind fun x => (lstD x.share).map fun xs => .od xs.reverse
  | .lst es, S => (evs es S).bind fun ms => if ms.length ≤ big then some (.ol ms) else none
  | .tup es, S => (evs es S).bind fun ms => if ms.length ≤ big then some (.ot ms) else none
  | .comp elt tg it t own, S => (evI it S).bind fun xs => (turns (fun x => (bindT tg x (clr S own)).bind fun S1 => (evT t S1).bind fun k => if k = true then (ev elt S1).map some else some none) xs).map .ol
  | .lrng a, S => (ev a S).bind fun x => match x.share with
    | .int n => if -(big : Int) ≤ n ∧ n ≤ (big : Int) then some (.od (rngD 0 n)) else none
    | _ => none
  | .fl e, S => (ev e S).bind fun x => if flat x.share = true then some (.sh x.share) else none
noncomputable def evs : Es → Sl → Option (List M)
  | .nil, _ => some []
  | .cons e es, S => (ev e S).bind fun x => (evs es S).map fun xs => x :: xs
noncomputable def evT : T → Sl → Option Bool
  | .yes, _ => some true
  | .e e, S => (ev e S).bind fun x => truD x.share
  | .not t, S => (evT t S).map (!·)
  | .and t u, S => (evT t S).bind fun b => if b = true then evT u S else some false
  | .or t u, S => (evT t S).bind fun b => if b = true then some true else evT u S
noncomputable def evI : I → Sl → Option (List D)
  | .it e, S => (ev e S).bind fun x => itD x.share
  | .r1 a, S => (ev a S).bind fun x => match x.share with
    | .int n => if -(big : Int) ≤ n ∧ n ≤ (big : Int) then some (rngD 0 n) else none
    | _ => none
  | .r2 a b, S => (ev a S).bind fun x => (ev b S).bind fun y => match x.share, y.share with
    | .int m, .int n => if (-(big : Int) ≤ m ∧ m ≤ (big : Int)) ∧ -(big : Int) ≤ n ∧ n ≤ (big : Int) then some (rngD m n) else none
    | _, _ => none
  | .en a, S => (ev a S).bind fun x => (lstD x.share).map enD
  | .zp a b, S => (ev a S).bind fun x => (ev b S).bind fun y => (lstD x.share).bind fun xs => (lstD y.share).map fun ys => zpD xs ys
  | .rv a, S => (ev a S).bind fun x => (lstD x.share).map List.reverse
end
end

/-! ### statements -/
mutual
inductive St where
  | set (i : Nat) (e : E) | setO (i : Nat) (e : E) | unp (is : List Nat) (e : E) | par (i j : Nat) (a b : E) | aug (i : Nat) (op : Operator) (e : E)
  | app (i : Nat) (e : E) | ifs (t : T) (a b : Ss) | fr (tg : Tg) (it : I) (body : Ss) (fg : List Nat)
  | ret (e : E) | retV (i : Nat) | retN | brk | cnt | pass
  | drop (is : List Nat) | shr (i : Nat)
inductive Ss where
  | nil | cons (s : St) (ss : Ss)
end
inductive Fl where
  | nx (S : Sl) | rt (m : M) | bk (S : Sl) | ct (S : Sl)
def loop (bind : D → Sl → Option Sl) (body : Sl → Option Fl) (fg : List Nat) : List D → Sl → Option Fl
  | [], S => some (.nx S)
  | x :: xs, S => (bind x S).bind fun S1 => (body S1).bind fun f => match f with
    | .nx S2 => loop bind body fg xs (clr S2 fg)
    | .ct S2 => loop bind body fg xs (clr S2 fg)
    | .bk S2 => some (.nx (clr S2 fg))
    | .rt m => some (.rt m)
section
variable (c : Nat → List D → Option M) (G : List (Str × D))
def seqF (o : Option Fl) (k : Sl → Option Fl) : Option Fl := o.bind fun f => match f with
  | .nx S => k S
  | f => some f
mutual
noncomputable def ex : St → Sl → Option Fl
  | .set i e, S => (ev c G e S).map fun m => .nx (st S i (some (.sh m.share)))
  | .setO i e, S => (ev c G e S).map fun m => .nx (st S i (some m))
  | .unp is e, S => (ev c G e S).bind fun m => (bindT (.tp is) m.share S).map .nx
  | .par i j a b, S => (ev c G a S).bind fun x => (ev c G b S).map fun y => .nx (st (st S i (some (.sh x.share))) j (some (.sh y.share)))
  | .aug i op e, S => (gt S i).bind fun m => (ev c G e S).bind fun y => (augD op m.share y.share).map fun z => .nx (st S i (some (.sh z)))
  | .app i e, S => (gt S i).bind fun m => (ev c G e S).bind fun y => match m with
    | .od xs => if xs.length < big then some (.nx (st S i (some (.od (xs ++ [y.share]))))) else none
    | .ol xs => if xs.length < big then some (.nx (st S i (some (.ol (xs ++ [y]))))) else none
    | _ => none
  | .ifs t a b, S => (evT c G t S).bind fun k => if k = true then exs a S else exs b S
  | .fr tg it body fg, S => (evI c G it S).bind fun xs => loop (bindT tg) (fun S => exs body S) fg xs S
  | .ret e, S => (ev c G e S).map .rt
  | .retV i, S => (gt S i).map .rt
  | .retN, _ => some (.rt (.sh .non))
  | .brk, S => some (.bk S)
  | .cnt, S => some (.ct S)
  | .pass, S => some (.nx S)
  | .drop is, S => some (.nx (clr S is))
  | .shr i, S => (gt S i).map fun m => .nx (st S i (some (.sh m.share)))
noncomputable def exs : Ss → Sl → Option Fl
  | .nil, S => some (.nx S)
  | .cons s ss, S => seqF (ex s S) fun S1 => exs ss S1
end
end
/-- a def of the text: its name, its parameters' number, its names by slots, those that may hold what is one's own, its body -/
structure Fd where
  nm : Str
  np : Nat
  N : List Str
  mu : List Nat
  body : Ss
def entry (f : Fd) (ds : List D) : Sl := ds.map (fun d => some (.sh d)) ++ List.replicate (f.N.length - f.np) none
noncomputable def run (T : List Fd) (G : List (Str × D)) : Nat → Nat → List D → Option M
  | 0, _, _ => none
  | k + 1, i, ds => (T[i]?).bind fun f => if ds.length = f.np then (exs (run T G k) G f.body (entry f ds)).bind fun r => match r with
    | .rt m => some m
    | .nx _ => some (.sh .non)
    | _ => none
    else none
end Rf

set_option Elab.async false
set_option linter.all false
set_option maxRecDepth 100000
set_option maxHeartbeats 4000000
namespace Rf
open PySem PySem.Spec PyProof.Rows L2

/-! ### what is got -/
structure Got (K : PySem.W.Frag) (P Hb : Hp) (v : V) (m : M) (H' Hb' : Hp) (oo : List Addr) : Prop where
  up : Up P Hb H' Hb'
  rp : RpM K H' Hb' v m oo
  nd : oo.Nodup
  new : ∀ p ∈ oo, P p = none ∧ Hb' p = none
structure GotL (K : PySem.W.Frag) (P Hb : Hp) (vs : List V) (ms : List M) (H' Hb' : Hp) (oo : List Addr) : Prop where
  up : Up P Hb H' Hb'
  rp : RpMs K H' Hb' vs ms oo
  nd : oo.Nodup
  new : ∀ p ∈ oo, P p = none ∧ Hb' p = none
section
variable {K : PySem.W.Frag} {P Hb H' Hb' : Hp} {v : V} {m : M} {vs : List V} {ms : List M} {oo : List Addr}
theorem Got.sh {d : D} (u : Up P Hb H' Hb') (h : Rp K Hb' v d) : Got K P Hb v (.sh d) H' Hb' [] := ⟨u, .sh h, .nil, fun _ h => absurd h (by simp)⟩
theorem Got.share (g : Got K P Hb v m H' Hb' oo) : ∃ Hc, Up P Hb H' Hc ∧ Evl.Ex Hb' Hc ∧ Rp K Hc v m.share := by
  have e := give_com (H := H') (oo := oo) (Hb := Hb') fun p hp => (g.new p hp).2
  exact ⟨give H' Hb' oo, g.up.give g.new, e, g.rp.rp e fun p hp => give_in hp⟩
theorem GotL.share (g : GotL K P Hb vs ms H' Hb' oo) : ∃ Hc, Up P Hb H' Hc ∧ Evl.Ex Hb' Hc ∧ RpL K Hc vs (M.shares ms) := by
  have e := give_com (H := H') (oo := oo) (Hb := Hb') fun p hp => (g.new p hp).2
  exact ⟨give H' Hb' oo, g.up.give g.new, e, g.rp.rp e fun p hp => give_in hp⟩
theorem Got.rpH (g : Got K P Hb v m H' Hb' oo) : Rp K H' v m.share := g.rp.rpH g.up.sub
/-- a new list, a new tuple of common things -/
theorem Got.od {p : Addr} {ds : List D} (u : Up P Hb H' Hb') (h : RpL K Hb' vs ds) (hp : H' p = none) : Got K P Hb (.ref p) (.od ds) (upd H' p (.lst vs)) Hb' [p] := by
  have hb : Hb' p = none := by
    cases q : Hb' p with
    | none => rfl
    | some o => rw [u.sub p o q] at hp; cases hp
  have hP : P p = none := by
    cases q : P p with
    | none => rfl
    | some o => rw [u.keep p o q] at hp; cases hp
  refine ⟨u.newO hp, .od upd_same h, by simp, fun q hq => ?_⟩
  rw [List.mem_singleton.mp hq]
  exact ⟨hP, hb⟩
theorem Got.tup {p : Addr} {ds : List D} (u : Up P Hb H' Hb') (h : RpL K Hb' vs ds) (hp : H' p = none) : Got K P Hb (.ref p) (.sh (.tup ds)) (upd H' p (.tup vs)) (upd Hb' p (.tup vs)) [] := by
  have hb : Hb' p = none := by
    cases q : Hb' p with
    | none => rfl
    | some o => rw [u.sub p o q] at hp; cases hp
  exact .sh (u.newC hp) (.tup (SqT.of upd_same) (h.mono (Evl.Ex.new hb)))
theorem Up.free {p : Addr} (u : Up P Hb H' Hb') (hp : H' p = none) : Hb' p = none ∧ P p = none := by
  refine ⟨?_, ?_⟩
  · cases q : Hb' p with
    | none => rfl
    | some o => rw [u.sub p o q] at hp; cases hp
  · cases q : P p with
    | none => rfl
    | some o => rw [u.keep p o q] at hp; cases hp
/-- a new list, a new tuple of one's own things -/
theorem Got.ol {p : Addr} (g : GotL K P Hb vs ms H' Hb' oo) (hp : H' p = none) : Got K P Hb (.ref p) (.ol ms) (upd H' p (.lst vs)) Hb' (p :: oo) := by
  obtain ⟨hb, hP⟩ := g.up.free hp
  have np : p ∉ oo := fun hm => by
    obtain ⟨o, q⟩ := RpMs.there g.rp p hm
    rw [q] at hp; cases hp
  refine ⟨g.up.newO hp, .ol upd_same (g.rp.ex (Evl.Ex.new hp) (.refl _)), List.nodup_cons.mpr ⟨np, g.nd⟩, fun q hq => ?_⟩
  rcases List.mem_cons.mp hq with e | hq
  · rw [e]; exact ⟨hP, hb⟩
  · exact g.new q hq
theorem Got.ot {p : Addr} (g : GotL K P Hb vs ms H' Hb' oo) (hp : H' p = none) : Got K P Hb (.ref p) (.ot ms) (upd H' p (.tup vs)) Hb' (p :: oo) := by
  obtain ⟨hb, hP⟩ := g.up.free hp
  have np : p ∉ oo := fun hm => by
    obtain ⟨o, q⟩ := RpMs.there g.rp p hm
    rw [q] at hp; cases hp
  refine ⟨g.up.newO hp, .ot upd_same (g.rp.ex (Evl.Ex.new hp) (.refl _)), List.nodup_cons.mpr ⟨np, g.nd⟩, fun q hq => ?_⟩
  rcases List.mem_cons.mp hq with e | hq
  · rw [e]; exact ⟨hP, hb⟩
  · exact g.new q hq
/-- what was got stays through a further step -/
theorem Got.step {H1 Hb1 : Hp} (g : Got K P Hb v m H' Hb' oo) (u : Up H' Hb' H1 Hb1) : Got K P Hb v m H1 Hb1 oo :=
  ⟨g.up.trans u, g.rp.ex u.keep u.com, g.nd, fun p hp => ⟨(g.new p hp).1, u.apart p (by obtain ⟨o, q⟩ := g.rp.there p hp; rw [q]; simp) (g.new p hp).2⟩⟩
theorem GotL.nil (u : Up P Hb H' Hb') : GotL K P Hb [] [] H' Hb' [] := ⟨u, .nil, .nil, fun _ h => absurd h (by simp)⟩
theorem GotL.cons {H1 Hb1 : Hp} {o1 : List Addr} (g : Got K P Hb v m H1 Hb1 o1) (l : GotL K H1 Hb1 vs ms H' Hb' oo) : GotL K P Hb (v :: vs) (m :: ms) H' Hb' (o1 ++ oo) := by
  have s := g.step l.up
  refine ⟨s.up, .cons s.rp l.rp, ?_, fun p hp => ?_⟩
  · refine List.nodup_append.mpr ⟨s.nd, l.nd, fun a ha b hb e => ?_⟩
    subst e
    obtain ⟨o, q⟩ := g.rp.there a ha
    rw [(l.new a hb).1] at q
    cases q
  · rcases List.mem_append.mp hp with hp | hp
    · exact s.new p hp
    · refine ⟨?_, (l.new p hp).2⟩
      cases q : P p with
      | none => rfl
      | some o => have := (l.new p hp).1; rw [g.up.keep p o q] at this; cases this
end

/-! ### slots -/
/-- the slots' values; those outside mu are common -/
structure Env1 (K : PySem.W.Frag) (mu : List Nat) (S : Sl) (σ : L2.St) (H Hb : Hp) : Prop where
  len : S.length = σ.length
  val : ∀ i m, gt S i = some m → ∃ v, σ[i]? = some (some v) ∧ Rp K H v m.share ∧ (i ∉ mu → Rp K Hb v m.share)
section
variable {K : PySem.W.Frag} {mu : List Nat} {S : Sl} {σ : L2.St} {H H' Hb Hb' : Hp}
theorem Env1.mono (e : Env1 K mu S σ H Hb) (h : Evl.Ex H H') (hb : Evl.Ex Hb Hb') : Env1 K mu S σ H' Hb' := ⟨e.len, fun i m q => by
  obtain ⟨v, h1, h2, h3⟩ := e.val i m q
  exact ⟨v, h1, h2.mono h, fun n => (h3 n).mono hb⟩⟩
theorem Env1.up (e : Env1 K mu S σ H Hb) (u : Up H Hb H' Hb') : Env1 K mu S σ H' Hb' := e.mono u.keep u.com
theorem Env1.all (e : Env1 K mu S σ H Hb) : Env1 K [] S σ H H := ⟨e.len, fun i m q => by
  obtain ⟨v, h1, h2, h3⟩ := e.val i m q
  exact ⟨v, h1, h2, fun _ => h2⟩⟩
end
theorem gt_st_same : ∀ {S : Sl} {i : Nat} {m : Option M}, i < S.length → gt (st S i m) i = m
  | [], _, _, h => absurd h (Nat.not_lt_zero _)
  | _ :: _, 0, _, _ => rfl
  | _ :: S, i + 1, m, h => gt_st_same (S := S) (Nat.lt_of_succ_lt_succ h)
theorem gt_st_ne : ∀ {S : Sl} {i j : Nat} {m : Option M}, i ≠ j → gt (st S i m) j = gt S j
  | [], _, _, _, _ => rfl
  | _ :: _, 0, 0, _, h => absurd rfl h
  | _ :: _, 0, _ + 1, _, _ => rfl
  | _ :: _, _ + 1, 0, _, _ => rfl
  | _ :: S, i + 1, j + 1, m, h => gt_st_ne (S := S) fun e => h (by rw [e])
theorem gt_st_some : ∀ {S : Sl} {i : Nat} {m m' : Option M} {x : M}, gt (st S i m) i = some x → m = some x
  | [], _, _, _, _, h => by cases h
  | _ :: _, 0, _, _, _, h => h
  | _ :: S, i + 1, m, m', x, h => gt_st_some (S := S) (m' := m') h
theorem st_len : ∀ (S : Sl) (i : Nat) (m : Option M), (st S i m).length = S.length
  | [], _, _ => rfl
  | _ :: _, 0, _ => rfl
  | _ :: S, i + 1, m => by show (st S i m).length + 1 = S.length + 1; rw [st_len S i m]
theorem gt_some_lt : ∀ {S : Sl} {i : Nat} {m : M}, gt S i = some m → i < S.length
  | [], _, _, h => by cases h
  | _ :: _, 0, _, _ => Nat.zero_lt_succ _
  | _ :: S, i + 1, m, h => Nat.succ_lt_succ (gt_some_lt (S := S) h)
theorem clr_none : ∀ {is : List Nat} {S : Sl} {i : Nat}, i ∈ is → gt (clr S is) i = none
  | j :: is, S, i, h => by
    show gt (st (clr S is) j none) i = none
    by_cases e : j = i
    · subst e
      cases q : gt (st (clr S is) j none) j with
      | none => rfl
      | some x => exact absurd (gt_st_some (m' := none) q) (by simp)
    · rw [gt_st_ne e]
      exact clr_none (List.mem_of_ne_of_mem (fun z => e z.symm) h)
theorem clr_out : ∀ {is : List Nat} {S : Sl} {i : Nat}, i ∉ is → gt (clr S is) i = gt S i
  | [], _, _, _ => rfl
  | j :: is, S, i, h => by
    show gt (st (clr S is) j none) i = _
    rw [gt_st_ne (fun e => h (by rw [e]; exact List.mem_cons_self))]
    exact clr_out fun hm => h (List.mem_cons_of_mem _ hm)
theorem clr_len : ∀ (is : List Nat) (S : Sl), (clr S is).length = S.length
  | [], _ => rfl
  | j :: is, S => by show (st (clr S is) j none).length = _; rw [st_len, clr_len is S]
theorem clr_some {is : List Nat} {S : Sl} {i : Nat} {m : M} (h : gt (clr S is) i = some m) : i ∉ is ∧ gt S i = some m := by
  by_cases hm : i ∈ is
  · rw [clr_none hm] at h; cases h
  · exact ⟨hm, by rw [← clr_out hm]; exact h⟩

/-! ### the readings -/
section
variable (K : PySem.W.Frag) (mu : List Nat)
def tS (f : Sl → Option M) : TE := fun σ H Q => ∃ S m Hb, f S = some m ∧ Evl.Ex Hb H ∧ Env1 K mu S σ H Hb ∧ ∀ v H' Hb' oo, Got K H Hb v m H' Hb' oo → Q v H'
def tT (f : Sl → Option Bool) : TT := fun σ H Q => ∃ S b Hb, f S = some b ∧ Evl.Ex Hb H ∧ Env1 K mu S σ H Hb ∧ ∀ H' Hb', Up H Hb H' Hb' → Q b H'
def tA (f : Sl → Option (List M)) : TA := fun σ H Q => ∃ S ms Hb, f S = some ms ∧ Evl.Ex Hb H ∧ Env1 K mu S σ H Hb ∧ ∀ vs H' Hb' oo, GotL K H Hb vs ms H' Hb' oo → Q vs H'
/-- ds.length turns that give ds, as long as Hb stands -/
structure WalkD (J : It) (ds : List D) (Hb : Hp) : Prop where
  goes : ∀ i H, i < ds.length → Evl.Ex Hb H → J.go i H
  stops : ∀ H, Evl.Ex Hb H → J.stop ds.length H
  yields : ∀ i H x H' P Hb0 Hc, i < ds.length → Up P Hb0 H Hc → Evl.Ex Hb Hc → J.yld i H x H' → ∃ Hc' d, ds[i]? = some d ∧ Up P Hb0 H' Hc' ∧ Up H Hc H' Hc' ∧ Rp K Hc' x d
def tI (f : Sl → Option (List D)) : TI := fun σ H R => ∃ S ds Hb, f S = some ds ∧ Evl.Ex Hb H ∧ Env1 K mu S σ H Hb ∧ ∀ J H' Hb', Up H Hb H' Hb' → WalkD K J ds Hb' → ds.length ≤ sizeLine → R J H'
/-- n things lie in a list or tuple that stands -/
def Sz (H : Hp) (n : Nat) : Prop := n ≤ sizeLine ∨ (∃ a xs, H a = some (.lst xs) ∧ n ≤ xs.length) ∨ ∃ a xs, SqT K H a xs ∧ n ≤ xs.length
def tIz (f : Sl → Option (List D)) : TI := fun σ H R => ∃ S ds Hb, f S = some ds ∧ Evl.Ex Hb H ∧ Env1 K mu S σ H Hb ∧ ∀ J H' Hb', Up H Hb H' Hb' → WalkD K J ds Hb' → Sz K H' ds.length → R J H'
end
theorem _root_.L2.PE.mono {X : Cx} {e : Expr} {t t' : TE} (h : PE X e t) (m : ∀ σ H Q, t' σ H Q → t σ H Q) : PE X e t' := ⟨fun pins s σ H Q I q => h.run pins s σ H Q I (m σ H Q q)⟩
theorem _root_.L2.PT.mono {X : Cx} {e : Expr} {t t' : TT} (h : PT X e t) (m : ∀ σ H Q, t' σ H Q → t σ H Q) : PT X e t' := ⟨fun pins s σ H Q I q => h.run pins s σ H Q I (m σ H Q q)⟩
theorem _root_.L2.PA.mono {X : Cx} {e : List Expr} {t t' : TA} (h : PA X e t) (m : ∀ σ H Q, t' σ H Q → t σ H Q) : PA X e t' := ⟨fun pos pins s σ H Q I q => h.run pos pins s σ H Q I (m σ H Q q)⟩
theorem _root_.L2.PI.mono {X : Cx} {tg e : Expr} {t t' : TI} (h : PI X tg e t) (m : ∀ σ H Q, t' σ H Q → t σ H Q) : PI X tg e t' := ⟨fun pins s σ H Q I q => h.run pins s σ H Q I (m σ H Q q)⟩
theorem _root_.L2.PS.mono {X : Cx} {e : Stmt} {t t' : TS} (h : PS X e t) (m : ∀ D σ H, t' D σ H → t D σ H) : PS X e t' := ⟨fun pins s σ H D I q => h.run pins s σ H D I (m D σ H q)⟩
theorem _root_.L2.PSs.mono {X : Cx} {e : List Stmt} {t t' : TS} (h : PSs X e t) (m : ∀ D σ H, t' D σ H → t D σ H) : PSs X e t' := ⟨fun pins s σ H D I q => h.run pins s σ H D I (m D σ H q)⟩
theorem pi_sz {X : Cx} {mu : List Nat} {tg e : Expr} {f : Sl → Option (List D)} (h : PI X tg e (tIz X.K mu f)) : PI X tg e (tI X.K mu f) := by
  refine ⟨fun pins s σ H R I q => ?_⟩
  obtain ⟨S, ds, Hb, hf, eb, en, q⟩ := q
  refine thn (h.run pins s σ H (fun J H' => ∃ Hb', Up H Hb H' Hb' ∧ WalkD X.K J ds Hb' ∧ Sz X.K H' ds.length) I ⟨S, ds, Hb, hf, eb, en, fun J H' Hb' u w z => ⟨Hb', u, w, z⟩⟩) fun v s1 h1 => thn h1 fun itv s2 h2 => ?_
  obtain ⟨it, fp, tn, J, H', e1, I2, T, st, fo, Hb', u, w, z⟩ := h2
  refine ⟨it, fp, tn, J, H', e1, I2, T, st, fo, q J H' Hb' u w ?_⟩
  rcases z with z | ⟨a, xs, ha, hn⟩ | ⟨a, xs, ha, hn⟩
  · exact z
  · obtain ⟨hz, _⟩ := I2.hok a _ ha
    exact Nat.le_trans hn hz
  · obtain ⟨_, _, _, hz⟩ := I2.tuple ha
    exact Nat.le_trans hn hz
theorem obind {α β : Type} {o : Option α} {f : α → Option β} {b : β} (h : o.bind f = some b) : ∃ a, o = some a ∧ f a = some b := Option.bind_eq_some_iff.mp h
theorem omap {α β : Type} {o : Option α} {f : α → β} {b : β} (h : o.map f = some b) : ∃ a, o = some a ∧ f a = b := Option.map_eq_some_iff.mp h

section
variable {X : Cx} {mu : List Nat} {fa fb fd : Sl → Option M} {ea eb ed : Expr} {K : PySem.W.Frag}
/-- an operation on values over common data -/
def OpD (K : PySem.W.Frag) (r : R2) (g : D → D → Option M) : Prop := ∀ P Hb0 x y dx dy m H Hb (Q : VK), Up P Hb0 H Hb → Rp K Hb x dx → Rp K Hb y dy → g dx dy = some m → (∀ v H' Hb' oo, Got K P Hb0 v m H' Hb' oo → Q v H') → r x y H Q
theorem tOp_of {r : R2} {g : D → D → Option M} (hr : OpD K r g) (σ : L2.St) (H : Hp) (Q : VK) (h : tS K mu (fun S => (fa S).bind fun x => (fb S).bind fun y => g x.share y.share) σ H Q) : tOp r (tS K mu fa) (tS K mu fb) σ H Q := by
  obtain ⟨S, m, Hb, hf, eb, en, q⟩ := h
  obtain ⟨mx, h1, hf⟩ := obind hf
  obtain ⟨my, h2, h3⟩ := obind hf
  refine ⟨S, mx, Hb, h1, eb, en, fun v1 H1 Hb1 o1 g1 => ?_⟩
  obtain ⟨Hc1, u1, e1, r1⟩ := g1.share
  refine ⟨S, my, Hc1, h2, u1.sub, en.up u1, fun v2 H2 Hb2 o2 g2 => ?_⟩
  obtain ⟨Hc2, u2, e2, r2⟩ := g2.share
  exact hr H Hb v1 v2 mx.share my.share m H2 Hc2 Q (u1.trans u2) (r1.mono u2.com) r2 h3 q
theorem pe_binS {op : Operator} {r : R2} {g : D → D → Option M} {pos : Pos} (ho : OpR X (binaryOp op) r) (hr : OpD X.K r g) (ha : PE X ea (tS X.K mu fa)) (hb : PE X eb (tS X.K mu fb)) :
    PE X (.BinOp ea op eb pos) (tS X.K mu (fun S => (fa S).bind fun x => (fb S).bind fun y => g x.share y.share)) := (pe_op ho ha hb).mono (tOp_of hr)
theorem pe_ixS {r : R2} {g : D → D → Option M} {pos : Pos} (ho : IxR X r) (hr : OpD X.K r g) (ha : PE X ea (tS X.K mu fa)) (hb : PE X eb (tS X.K mu fb)) (hs : PlainIx eb) :
    PE X (.Subscript ea eb pos) (tS X.K mu (fun S => (fa S).bind fun x => (fb S).bind fun y => g x.share y.share)) := (pe_ix ho ha hb hs).mono (tOp_of hr)
theorem pe_cmpS {op : CmpOp} {r : R2} {g : D → D → Option M} {pos : Pos} (ho : OpR X (compareOp op) r) (hr : OpD X.K r g) (ha : PE X ea (tS X.K mu fa)) (hb : PE X eb (tS X.K mu fb)) (hm : behindInMarks op eb = false) :
    PE X (.Compare ea [op] [eb] pos) (tS X.K mu (fun S => (fa S).bind fun x => (fb S).bind fun y => g x.share y.share)) := (pe_cmpR ho ha hb hm).mono (tOp_of hr)
end
end Rf

set_option Elab.async false
set_option linter.all false
set_option maxRecDepth 100000
set_option maxHeartbeats 4000000
namespace Rf
open PySem PySem.Spec PyProof.Rows L2

theorem big_le {n : Nat} (h : n ≤ big) : n ≤ sizeLine := by rw [sizeLine_eq]; exact Nat.le_trans h (by decide)
theorem big_lt {n : Nat} (h : n < big) : n < sizeLine := by rw [sizeLine_eq]; exact Nat.lt_of_lt_of_le h (by decide)
section
variable {X : Cx} {K : PySem.W.Frag} {H Hb : Hp}
theorem OpD.or1 {r r' : R2} {g : D → D → Option M} (h : OpD K r g) : OpD K (fun x y H Q => r x y H Q ∨ r' x y H Q) g := fun P Hb0 x y dx dy m H Hb Q u hx hy e q => .inl (h P Hb0 x y dx dy m H Hb Q u hx hy e q)
/-! ### arithmetic -/
theorem op_mulF : OpR X (binaryOp .Mult) (rI okMul fun i j => .int (i * j)) := opI fun i j _ _ _ _ _ hc q => by
  rcases hc with h | h | ⟨h1, h2⟩
  · exact mul_int q (CMul.ok (.inl ⟨by omega, by omega⟩))
  · exact mul_int q (CMul.ok (.inr ⟨by omega, by omega⟩))
  · exact mul_int q (wide_mul h1 h2 (by decide) (by decide) (by decide)).ok
theorem op_fdivF : OpR X (binaryOp .FloorDiv) (rI (fun _ j => okDiv j) fun i j => .int (i.fdiv j)) := opI fun i j _ _ _ _ _ hc q =>
  floordiv_int hc.1 q (.inl (PyProof.noPylong_of_log2 (Nat.lt_of_lt_of_le (PySem.Flt.log2_lt_of (by decide) hc.2) (by decide))))
def rAddA (K : PySem.W.Frag) : R2 := fun x y H Q => rI0 (fun i j => .int (i + j)) x y H Q ∨ (∃ i j, x = .str i ∧ y = .str j ∧ i.length + j.length ≤ sizeLine ∧ Q (.str (i ++ j)) H) ∨ rCat x y H Q ∨ rCatT K x y H Q
theorem op_addA : OpR X (binaryOp .Add) (rAddA X.K) := op_add.or (op_add_str.or (op_cat.or op_catT))
theorem Up.hb {P Hb0 H Hb : Hp} (u : Up P Hb0 H Hb) : Evl.Ex Hb H := u.sub
theorem op_addD : OpD K (rAddA K) addD := by
  intro P Hb0 x y dx dy m H Hb Q u hx hy e q
  cases hx with
  | int i => cases hy with
    | int j => cases e; exact .inl ⟨i, j, rfl, rfl, q _ _ _ _ (.sh u (.int _))⟩
    | _ => cases e
  | str s => cases hy with
    | str t =>
      simp only [addD] at e
      split at e
      · cases e
        exact .inr (.inl ⟨s, t, rfl, rfl, big_le (by assumption), q _ _ _ _ (.sh u (.str _))⟩)
      · cases e
    | _ => cases e
  | @lst a xs ds ha la => cases hy with
    | @lst b ys es hb lb =>
      simp only [addD] at e
      split at e
      · cases e
        refine .inr (.inr (.inl ⟨a, b, xs, ys, rfl, rfl, u.sub _ _ ha, u.sub _ _ hb, big_le (by rw [la.len, lb.len]; assumption), fun p hp => q _ _ _ _ (.od u (la.append lb) hp)⟩))
      · cases e
    | _ => cases e
  | @tup a xs ds ha la => cases hy with
    | @tup b ys es hb lb =>
      simp only [addD] at e
      split at e
      · rename_i hc
        cases e
        refine .inr (.inr (.inr ⟨a, b, xs, ys, rfl, rfl, Evl.ex_t u.sub ha, Evl.ex_t u.sub hb, ?_, big_le (by rw [la.len, lb.len]; exact hc.2), fun z => ?_, fun _ p hp => q _ _ _ _ (.tup u (la.append lb) hp)⟩))
        · intro z
          subst z
          have := la.len
          cases ds with
          | nil => exact hc.1 rfl
          | cons _ _ => simp at this
        · subst z
          cases lb
          rw [List.append_nil] at q
          exact q _ _ _ _ (.sh u (.tup ha la))
      · cases e
    | _ => cases e
  | _ => cases e
def rMulA : R2 := fun x y H Q => rI okMul (fun i j => .int (i * j)) x y H Q ∨ rRep x y H Q
theorem op_mulA : OpR X (binaryOp .Mult) rMulA := op_mulF.or op_rep
theorem RpL.rep {K : PySem.W.Frag} {H : Hp} {vs : List V} {ds : List D} (h : RpL K H vs ds) : ∀ k : Nat, RpL K H (List.replicate k vs).flatten (List.replicate k ds).flatten
  | 0 => .nil
  | k + 1 => by
    rw [List.replicate_succ, List.replicate_succ, List.flatten_cons, List.flatten_cons]
    exact h.append (RpL.rep h k)
theorem op_mulD : OpD K rMulA mulD := by
  intro P Hb0 x y dx dy m H Hb Q u hx hy e q
  cases hx with
  | int i => cases hy with
    | int j =>
      simp only [mulD] at e
      split at e
      · cases e
        exact .inl ⟨i, j, rfl, rfl, by assumption, q _ _ _ _ (.sh u (.int _))⟩
      · cases e
    | _ => cases e
  | @lst a xs ds ha la => cases hy with
    | int k =>
      simp only [mulD] at e
      split at e
      · rename_i hc
        cases e
        obtain ⟨h1, h2, h3⟩ := hc
        have hb : (big : Int) = 1000000 := rfl
        exact .inr ⟨a, k, xs, rfl, rfl, u.sub _ _ ha, by omega, by omega, big_le (by rw [la.len]; exact h3), fun p hp => q _ _ _ _ (.od u (la.rep _) hp)⟩
      · cases e
    | _ => cases e
  | _ => cases e
/-- an operation of two ints -/
theorem op_intD {C : Int → Int → Prop} {g : Int → Int → Int} {f : D → D → Option M} (hf : ∀ a b m, f a b = some m → ∃ i j, a = .int i ∧ b = .int j ∧ C i j ∧ m = .sh (.int (g i j))) : OpD K (rI C fun i j => .int (g i j)) f := by
  intro P Hb0 x y dx dy m H Hb Q u hx hy e q
  obtain ⟨i, j, rfl, rfl, hc, rfl⟩ := hf _ _ _ e
  cases hx
  cases hy
  exact ⟨i, j, rfl, rfl, hc, q _ _ _ _ (.sh u (.int _))⟩
theorem op_intD0 {g : Int → Int → Int} {f : D → D → Option M} (hf : ∀ a b m, f a b = some m → ∃ i j, a = .int i ∧ b = .int j ∧ m = .sh (.int (g i j))) : OpD K (rI0 fun i j => .int (g i j)) f := by
  intro P Hb0 x y dx dy m H Hb Q u hx hy e q
  obtain ⟨i, j, rfl, rfl, rfl⟩ := hf _ _ _ e
  cases hx
  cases hy
  exact ⟨i, j, rfl, rfl, q _ _ _ _ (.sh u (.int _))⟩
/-- every operator of the table -/
theorem op_bin (op : Operator) : ∃ r, OpR X (binaryOp op) r ∧ OpD X.K r (binD op) := by
  cases op with
  | Add => exact ⟨_, op_addA, op_addD⟩
  | Mult => exact ⟨_, op_mulA, op_mulD⟩
  | Sub =>
    refine ⟨_, op_sub, op_intD0 fun a b m e => ?_⟩
    cases a <;> cases b <;> cases e
    exact ⟨_, _, rfl, rfl, rfl⟩
  | FloorDiv =>
    refine ⟨_, op_fdivF, op_intD fun a b m e => ?_⟩
    cases a <;> cases b <;> try (cases e; done)
    simp only [binD] at e
    split at e
    · cases e; exact ⟨_, _, rfl, rfl, by assumption, rfl⟩
    · cases e
  | Mod =>
    refine ⟨_, op_modN, op_intD fun a b m e => ?_⟩
    cases a <;> cases b <;> try (cases e; done)
    simp only [binD] at e
    split at e
    · cases e; exact ⟨_, _, rfl, rfl, by assumption, rfl⟩
    · cases e
  | Pow =>
    refine ⟨_, op_pow, op_intD fun a b m e => ?_⟩
    cases a <;> cases b <;> try (cases e; done)
    simp only [binD] at e
    split at e
    · cases e
      rename_i hc
      have hb : (big : Int) = 1000000 := rfl
      exact ⟨_, _, rfl, rfl, ⟨hc.1, by omega, hc.2.2⟩, rfl⟩
    · cases e
  | _ => exact ⟨fun _ _ _ _ => False, fun _ _ _ _ _ _ _ _ _ _ _ _ h => h.elim, fun _ _ _ _ _ _ _ _ _ _ _ _ _ e _ => by cases e⟩

/-! ### comparisons -/
theorem toPys_len (xs : List D) : (toPys xs).length = xs.length := by rw [toPys_map, List.length_map]
theorem okD_scr {n : Nat} {ns : List Int} : okD n (.scr ns) = false := by cases n <;> rfl
theorem okD_scalar {n : Nat} {d : D} (h : flat d = true) : okD n d = (match d with | .str s => PyData.strOk s | _ => true) := by
  cases d <;> first | (cases n <;> rfl) | cases h
mutual
theorem okD_py : ∀ (n : Nat) (d : D), okD n d = true → (toPy d).canLay0 = true ∧ (toPy d).depth ≤ n
  | n, .non, _ => ⟨by simp [toPy, PyData.canLay0], by simp [toPy, PyData.depth]⟩
  | n, .bl _, _ => ⟨by simp [toPy, PyData.canLay0], by simp [toPy, PyData.depth]⟩
  | n, .int _, _ => ⟨by simp [toPy, PyData.canLay0], by simp [toPy, PyData.depth]⟩
  | n, .str s, h => ⟨by
      have h' : PyData.strOk s = true := by cases n <;> exact h
      simpa [toPy, PyData.canLay0] using h', by simp [toPy, PyData.depth]⟩
  | 0, .lst _, h => by cases h
  | 0, .tup _, h => by cases h
  | n + 1, .lst xs, h => by
    have q := okDs_py n xs (List.all_eq_true.mp h)
    exact ⟨by simpa [toPy, PyData.canLay0] using q.1, by simpa [toPy, PyData.depth] using q.2⟩
  | n + 1, .tup xs, h => by
    have q := okDs_py n xs (List.all_eq_true.mp h)
    exact ⟨by simpa [toPy, PyData.canLay0] using q.1, by simpa [toPy, PyData.depth] using q.2⟩
  | n, .scr _, h => by rw [okD_scr] at h; cases h
theorem okDs_py : ∀ (n : Nat) (ds : List D), (∀ d ∈ ds, okD n d = true) → PyData.canLayAll0 (toPys ds) = true ∧ PyData.depthAll (toPys ds) ≤ n
  | n, [], _ => ⟨by simp [toPys, PyData.canLayAll0], by simp [toPys, PyData.depthAll]⟩
  | n, d :: ds, h => by
    have q1 := okD_py n d (h d List.mem_cons_self)
    have q2 := okDs_py n ds fun x hx => h x (List.mem_cons_of_mem _ hx)
    refine ⟨?_, ?_⟩
    · rw [toPys, PyData.canLayAll0, q1.1, q2.1]; rfl
    · rw [toPys, PyData.depthAll]
      exact Nat.max_le.mpr ⟨q1.2, q2.2⟩
end
theorem okD_shaped {d : D} (h : okD 60 d = true) : SeqAt.shaped (toPy d) = true := by
  obtain ⟨h1, h2⟩ := okD_py 60 d h
  unfold SeqAt.shaped
  rw [h1, decide_eq_true (by omega)]
  rfl
mutual
theorem eqv_D : ∀ (n : Nat) (a b : D), okD n a = true → okD n b = true → PyData.eqv (toPy a) (toPy b) = eqD a b
  | n, .scr _, b, h, _ => by rw [okD_scr] at h; cases h
  | 0, .lst _, _, h, _ => by cases h
  | 0, .tup _, _, h, _ => by cases h
  | n, a, .scr _, _, h => by rw [okD_scr] at h; cases h
  | 0, a, .lst _, _, h => by cases h
  | 0, a, .tup _, _, h => by cases h
  | n, .non, .non, _, _ => by simp [toPy, PyData.eqv, eqD]
  | n, .non, .bl _, _, _ => by simp [toPy, PyData.eqv, eqD]
  | n, .non, .int _, _, _ => by simp [toPy, PyData.eqv, eqD]
  | n, .non, .str _, _, _ => by simp [toPy, PyData.eqv, eqD]
  | n + 1, .non, .lst _, _, _ => by simp [toPy, PyData.eqv, eqD]
  | n + 1, .non, .tup _, _, _ => by simp [toPy, PyData.eqv, eqD]
  | n, .bl _, .non, _, _ => by simp [toPy, PyData.eqv, eqD]
  | n, .bl _, .bl _, _, _ => by simp [toPy, PyData.eqv, eqD]
  | n, .bl _, .int _, _, _ => by simp [toPy, PyData.eqv, eqD]
  | n, .bl _, .str _, _, _ => by simp [toPy, PyData.eqv, eqD]
  | n + 1, .bl _, .lst _, _, _ => by simp [toPy, PyData.eqv, eqD]
  | n + 1, .bl _, .tup _, _, _ => by simp [toPy, PyData.eqv, eqD]
  | n, .int _, .non, _, _ => by simp [toPy, PyData.eqv, eqD]
  | n, .int _, .bl _, _, _ => by simp [toPy, PyData.eqv, eqD]
  | n, .int _, .int _, _, _ => by simp [toPy, PyData.eqv, eqD]
  | n, .int _, .str _, _, _ => by simp [toPy, PyData.eqv, eqD]
  | n + 1, .int _, .lst _, _, _ => by simp [toPy, PyData.eqv, eqD]
  | n + 1, .int _, .tup _, _, _ => by simp [toPy, PyData.eqv, eqD]
  | n, .str _, .non, _, _ => by simp [toPy, PyData.eqv, eqD]
  | n, .str _, .bl _, _, _ => by simp [toPy, PyData.eqv, eqD]
  | n, .str _, .int _, _, _ => by simp [toPy, PyData.eqv, eqD]
  | n, .str _, .str _, _, _ => by simp [toPy, PyData.eqv, eqD]
  | n + 1, .str _, .lst _, _, _ => by simp [toPy, PyData.eqv, eqD]
  | n + 1, .str _, .tup _, _, _ => by simp [toPy, PyData.eqv, eqD]
  | n + 1, .lst _, .non, _, _ => by simp [toPy, PyData.eqv, eqD]
  | n + 1, .lst _, .bl _, _, _ => by simp [toPy, PyData.eqv, eqD]
  | n + 1, .lst _, .int _, _, _ => by simp [toPy, PyData.eqv, eqD]
  | n + 1, .lst _, .str _, _, _ => by simp [toPy, PyData.eqv, eqD]
  | n + 1, .lst xs, .lst ys, h, h' => by
    have q := eqv_Ds n xs ys (List.all_eq_true.mp h) (List.all_eq_true.mp h')
    simpa [toPy, PyData.eqv, eqD] using q
  | n + 1, .lst _, .tup _, _, _ => by simp [toPy, PyData.eqv, eqD]
  | n + 1, .tup _, .non, _, _ => by simp [toPy, PyData.eqv, eqD]
  | n + 1, .tup _, .bl _, _, _ => by simp [toPy, PyData.eqv, eqD]
  | n + 1, .tup _, .int _, _, _ => by simp [toPy, PyData.eqv, eqD]
  | n + 1, .tup _, .str _, _, _ => by simp [toPy, PyData.eqv, eqD]
  | n + 1, .tup _, .lst _, _, _ => by simp [toPy, PyData.eqv, eqD]
  | n + 1, .tup xs, .tup ys, h, h' => by
    have q := eqv_Ds n xs ys (List.all_eq_true.mp h) (List.all_eq_true.mp h')
    simpa [toPy, PyData.eqv, eqD] using q
theorem eqv_Ds : ∀ (n : Nat) (xs ys : List D), (∀ d ∈ xs, okD n d = true) → (∀ d ∈ ys, okD n d = true) → PyData.eqvAll (toPys xs) (toPys ys) = eqDs xs ys
  | n, [], [], _, _ => by simp [toPys, PyData.eqvAll, eqDs]
  | n, [], _ :: _, _, _ => by simp [toPys, PyData.eqvAll, eqDs]
  | n, _ :: _, [], _, _ => by simp [toPys, PyData.eqvAll, eqDs]
  | n, x :: xs, y :: ys, h, h' => by
    have q1 := eqv_D n x y (h x List.mem_cons_self) (h' y List.mem_cons_self)
    have q2 := eqv_Ds n xs ys (fun d hd => h d (List.mem_cons_of_mem _ hd)) fun d hd => h' d (List.mem_cons_of_mem _ hd)
    simp [toPys, PyData.eqvAll, eqDs, q1, q2]
end
theorem dp_ints : ∀ ns : List Int, DpAll K H (ns.map V.int) (ns.map PyData.int)
  | [] => .nil
  | n :: ns => .cons (.int n) (dp_ints ns)
mutual
theorem Rp.dp : ∀ {v : V} {d : D}, Rp K H v d → Dp K H v (toPy d)
  | _, _, .non => by rw [toPy]; exact .non
  | _, _, .bl b => by rw [toPy]; exact .bl b
  | _, _, .int i => by rw [toPy]; exact .int i
  | _, _, .str x => by rw [toPy]; exact .str x
  | _, _, .lst h l => by rw [toPy]; exact .lst (SqL.of h) (RpL.dp l)
  | _, _, .tup h l => by rw [toPy]; exact .tup h (RpL.dp l)
  | _, _, .scr h => by rw [toPy]; exact .lst h (dp_ints _)
theorem RpL.dp : ∀ {vs : List V} {ds : List D}, RpL K H vs ds → DpAll K H vs (toPys ds)
  | _, _, .nil => by rw [toPys]; exact .nil
  | _, _, .cons h l => by rw [toPys]; exact .cons (Rp.dp h) (RpL.dp l)
end
theorem flat_V {v : V} {d : D} (h : Rp K H v d) (f : flat d = true) : flatV v = true := by
  cases h <;> first | rfl | cases f
theorem flats_V : ∀ {vs : List V} {ds : List D}, RpL K H vs ds → ds.all flat = true → vs.all flatV = true
  | _, _, .nil, _ => rfl
  | _, _, .cons h l, f => by
    rw [List.all_cons, Bool.and_eq_true] at f
    rw [List.all_cons, flat_V h f.1, flats_V l f.2]
    rfl
theorem eqV_D {v v' : V} {d d' : D} (h : Rp K H v d) (h' : Rp K H v' d') (f : flat d = true) (f' : flat d' = true) : eqV v v' = eqD d d' := by
  cases h <;> cases h' <;> first | rfl | (simp [eqV, eqD]; done) | cases f | cases f'
theorem inV_D {v : V} {d : D} (h : Rp K H v d) (f : flat d = true) : ∀ {vs : List V} {ds : List D}, RpL K H vs ds → ds.all flat = true → inV v vs = ds.any fun y => eqD y d
  | _, _, .nil, _ => rfl
  | _, _, .cons (v := w) (vs := ws) (d := e) (ds := es) a l, fs => by
    rw [List.all_cons, Bool.and_eq_true] at fs
    have ih := inV_D h f l fs.2
    have q := eqV_D a h fs.1 f
    show (eqV w v || inV v ws) = _
    rw [List.any_cons, q, ih]
theorem scal_V {v v' : V} {d d' : D} (h : Rp K H v d) (h' : Rp K H v' d') (f : scalD d d' = true) : scal v v' = true ∧ decide (v = v') = eqD d d' := by
  cases h <;> cases h' <;> first | exact (Bool.false_ne_true f).elim | (refine ⟨rfl, ?_⟩; simp [eqD]; done) | (refine ⟨rfl, ?_⟩; rw [Bool.eq_iff_iff]; simp [eqD])
theorem any_py {d : D} (h : okD 60 d = true) : ∀ ds : List D, (∀ x ∈ ds, okD 60 x = true) → ((toPys ds).any fun z => PyData.eqv z (toPy d)) = ds.any fun y => eqD y d
  | [], _ => by rw [toPys]; rfl
  | x :: xs, hx => by
    rw [toPys, List.any_cons, List.any_cons, any_py h xs fun y hy => hx y (List.mem_cons_of_mem _ hy), eqv_D 60 x d (hx x List.mem_cons_self) h]
theorem okD_up : ∀ (n m : Nat) (d : D), n ≤ m → okD n d = true → okD m d = true
  | n, m, .non, _, _ => by cases m <;> rfl
  | n, m, .bl _, _, _ => by cases m <;> rfl
  | n, m, .int _, _, _ => by cases m <;> rfl
  | n, m, .str s, _, h => by
    have h' : PyData.strOk s = true := by cases n <;> exact h
    cases m <;> exact h'
  | 0, m, .lst _, _, h => by cases h
  | 0, m, .tup _, _, h => by cases h
  | n + 1, 0, _, h, _ => absurd h (by omega)
  | n + 1, m + 1, .lst xs, h, q => by
    have q' := List.all_eq_true.mp q
    exact List.all_eq_true.mpr fun x hx => okD_up n m x (by omega) (q' x hx)
  | n + 1, m + 1, .tup xs, h, q => by
    have q' := List.all_eq_true.mp q
    exact List.all_eq_true.mpr fun x hx => okD_up n m x (by omega) (q' x hx)
  | n, m, .scr _, _, h => by rw [okD_scr] at h; cases h
end
section
variable {X : Cx} {K : PySem.W.Frag}
/-- a comparison's answer -/
def cmpM (op : CmpOp) (a b : D) : Option M := (cmpD op a b).map fun r => .sh (.bl r)
theorem cmp_got {P Hb0 H Hb : Hp} {k : Bool} {Q : VK} (u : Up P Hb0 H Hb) (q : ∀ v H' Hb' oo, Got K P Hb0 v (.sh (.bl k)) H' Hb' oo → Q v H') : Q (.bl k) H := q _ _ _ _ (.sh u (.bl k))
def rEqA (K : PySem.W.Frag) : R2 := fun x y H Q => rEq x y H Q ∨ rEqD K x y H Q
def rNeA (K : PySem.W.Frag) : R2 := fun x y H Q => rNe x y H Q ∨ rNeD K x y H Q
theorem eqM_of {a b : D} {r : Bool} (h : eqM a b = some r) : r = eqD a b ∧ (scalD a b = true ∨ (okD 60 a = true ∧ okD 60 b = true)) := by
  unfold eqM at h
  split at h
  · cases h; exact ⟨rfl, by assumption⟩
  · cases h
theorem op_eqA : OpD K (rEqA K) (cmpM .Eq) := by
  intro P Hb0 x y dx dy m H Hb Q u hx hy e q
  obtain ⟨r, e1, rfl⟩ := omap e
  obtain ⟨rfl, h⟩ := eqM_of e1
  rcases h with h | ⟨h1, h2⟩
  · obtain ⟨s1, s2⟩ := scal_V hx hy h
    exact .inl ⟨s1, by rw [s2]; exact cmp_got u q⟩
  · exact .inr ⟨_, _, (hx.mono u.sub).dp, (hy.mono u.sub).dp, okD_shaped h1, okD_shaped h2, by rw [eqv_D 60 _ _ h1 h2]; exact cmp_got u q⟩
theorem op_neA : OpD K (rNeA K) (cmpM .NotEq) := by
  intro P Hb0 x y dx dy m H Hb Q u hx hy e q
  obtain ⟨r1, e1, rfl⟩ := omap e
  obtain ⟨r, e2, rfl⟩ := omap e1
  obtain ⟨rfl, h⟩ := eqM_of e2
  rcases h with h | ⟨h1, h2⟩
  · obtain ⟨s1, s2⟩ := scal_V hx hy h
    exact .inl ⟨s1, by rw [s2]; exact cmp_got u q⟩
  · exact .inr ⟨_, _, (hx.mono u.sub).dp, (hy.mono u.sub).dp, okD_shaped h1, okD_shaped h2, by rw [eqv_D 60 _ _ h1 h2]; exact cmp_got u q⟩
/-- an order of two ints or two texts -/
theorem op_ordA {op : CmpOp} {p : Int → Int → Bool} {t : Str → Str → Bool} (hi : ∀ i j, cmpD op (.int i) (.int j) = some (p i j)) (hs : ∀ i j, cmpD op (.str i) (.str j) = some (t i j))
    (hn : ∀ a b r, cmpD op a b = some r → (∃ i j, a = .int i ∧ b = .int j) ∨ ∃ i j, a = .str i ∧ b = .str j) :
    OpD K (fun x y H Q => rI0 (fun i j => .bl (p i j)) x y H Q ∨ ∃ i j, x = .str i ∧ y = .str j ∧ Q (.bl (t i j)) H) (cmpM op) := by
  intro P Hb0 x y dx dy m H Hb Q u hx hy e q
  obtain ⟨r, e1, rfl⟩ := omap e
  rcases hn _ _ _ e1 with ⟨i, j, rfl, rfl⟩ | ⟨i, j, rfl, rfl⟩
  · cases hx; cases hy
    rw [hi] at e1
    cases e1
    exact .inl ⟨i, j, rfl, rfl, cmp_got u q⟩
  · cases hx; cases hy
    rw [hs] at e1
    cases e1
    exact .inr ⟨i, j, rfl, rfl, cmp_got u q⟩
def rIsA : R2 := fun x y H Q => (y = .non ∧ Q (.bl (decide (x = .non))) H) ∨ rIsB x y H Q
def rNotA : R2 := fun x y H Q => (y = .non ∧ Q (.bl (!decide (x = .non))) H) ∨ rNotB x y H Q
theorem isN_V {H : Hp} {v : V} {d : D} (h : Rp K H v d) : decide (v = .non) = isN d := by
  cases h <;> simp [isN]
theorem op_isA : OpD K rIsA (cmpM .Is) := by
  intro P Hb0 x y dx dy m H Hb Q u hx hy e q
  obtain ⟨r, e1, rfl⟩ := omap e
  cases hy with
  | non => cases e1; exact .inl ⟨rfl, by rw [isN_V hx]; exact cmp_got u q⟩
  | bl y => cases hx with
    | bl x => cases e1; exact .inr ⟨x, y, rfl, rfl, cmp_got u q⟩
    | _ => cases e1
  | _ => cases e1
theorem op_isNA : OpD K rNotA (cmpM .IsNot) := by
  intro P Hb0 x y dx dy m H Hb Q u hx hy e q
  obtain ⟨r, e1, rfl⟩ := omap e
  cases hy with
  | non => cases e1; exact .inl ⟨rfl, by rw [isN_V hx]; exact cmp_got u q⟩
  | bl y => cases hx with
    | bl x => cases e1; exact .inr ⟨x, y, rfl, rfl, cmp_got u q⟩
    | _ => cases e1
  | _ => cases e1
def rInA (K : PySem.W.Frag) : R2 := fun x y H Q => rIn K false x y H Q ∨ rInD K x y H Q ∨ ∃ (c : Nat) (z : Str), x = .str ⟨#[c]⟩ ∧ y = .str z ∧ Q (.bl (decide (c ∈ z.cps.toList))) H
def rNotInA (K : PySem.W.Frag) : R2 := fun x y H Q => rIn K true x y H Q ∨ rNotInD K x y H Q ∨ ∃ (c : Nat) (z : Str), x = .str ⟨#[c]⟩ ∧ y = .str z ∧ Q (.bl (!decide (c ∈ z.cps.toList))) H
theorem in_of {P Hb0 H Hb : Hp} {x y : V} {dx dy : D} {r : Bool} (u : Up P Hb0 H Hb) (hx : Rp K Hb x dx) (hy : Rp K Hb y dy) (e : Rf.inD dx dy = some r) :
    (∃ p xs, y = .ref p ∧ (SqL K H p xs ∨ SqT K H p xs) ∧ flatV x = true ∧ xs.all flatV = true ∧ inV x xs = r) ∨
    (∃ d ds, Dp K H x d ∧ Dp K H y (.list ds) ∧ SeqAt.shaped d = true ∧ SeqAt.shaped (.list ds) = true ∧ (ds.any fun z => PyData.eqv z d) = r) ∨
    ∃ (c : Nat) (z : Str), x = .str ⟨#[c]⟩ ∧ y = .str z ∧ decide (c ∈ z.cps.toList) = r := by
  cases hy with
  | @lst a xs ds ha la =>
    simp only [Rf.inD] at e
    split at e
    · rename_i hc
      cases e
      rcases hc with ⟨h1, h2⟩ | ⟨h1, h2⟩
      · exact .inl ⟨a, xs, rfl, .inl (SqL.of (u.sub _ _ ha)), flat_V hx h1, flats_V la h2, inV_D hx h1 la h2⟩
      · refine .inr (.inl ⟨_, _, (hx.mono u.sub).dp, ?_, okD_shaped h1, ?_, any_py h1 ds ?_⟩)
        · have q := (Rp.lst (K := K) ha la).mono u.sub |>.dp
          rw [toPy] at q
          exact q
        · have q := okD_shaped h2
          rw [toPy] at q
          exact q
        · intro z hz
          have h3 : ds.all (okD 59) = true := h2
          exact okD_up 59 60 z (by omega) (List.all_eq_true.mp h3 z hz)
    · cases e
  | @tup a xs ds ha la =>
    simp only [Rf.inD] at e
    split at e
    · rename_i hc
      cases e
      exact .inl ⟨a, xs, rfl, .inr (Evl.ex_t u.sub ha), flat_V hx hc.1, flats_V la hc.2, inV_D hx hc.1 la hc.2⟩
    · cases e
  | str z => cases hx with
    | str s =>
      obtain ⟨⟨l⟩⟩ := s
      match l, e with
      | [c], e => cases e; exact .inr (.inr ⟨c, z, rfl, rfl, rfl⟩)
      | [], e => cases e
      | _ :: _ :: _, e => cases e
    | _ => cases e
  | _ => cases e
theorem op_inA : OpD K (rInA K) (cmpM .In) := by
  intro P Hb0 x y dx dy m H Hb Q u hx hy e q
  obtain ⟨r, e1, rfl⟩ := omap e
  rcases in_of u hx hy e1 with ⟨p, xs, h1, h2, h3, h4, h5⟩ | ⟨d, ds, h1, h2, h3, h4, h5⟩ | ⟨c, z, h1, h2, h3⟩
  · exact .inl ⟨p, xs, h1, h2, h3, h4, by rw [if_neg Bool.false_ne_true, h5]; exact cmp_got u q⟩
  · exact .inr (.inl ⟨d, ds, h1, h2, h3, h4, by rw [h5]; exact cmp_got u q⟩)
  · exact .inr (.inr ⟨c, z, h1, h2, by rw [h3]; exact cmp_got u q⟩)
theorem op_notInA : OpD K (rNotInA K) (cmpM .NotIn) := by
  intro P Hb0 x y dx dy m H Hb Q u hx hy e q
  obtain ⟨r1, e1, rfl⟩ := omap e
  obtain ⟨r, e2, rfl⟩ := omap e1
  rcases in_of u hx hy e2 with ⟨p, xs, h1, h2, h3, h4, h5⟩ | ⟨d, ds, h1, h2, h3, h4, h5⟩ | ⟨c, z, h1, h2, h3⟩
  · exact .inl ⟨p, xs, h1, h2, h3, h4, by rw [if_pos rfl, h5]; exact cmp_got u q⟩
  · exact .inr (.inl ⟨d, ds, h1, h2, h3, h4, by rw [h5]; exact cmp_got u q⟩)
  · exact .inr (.inr ⟨c, z, h1, h2, by rw [h3]; exact cmp_got u q⟩)
theorem op_cmp (hu : X.A.units + 65 < cLine) (op : CmpOp) : ∃ r, OpR X (compareOp op) r ∧ OpD X.K r (cmpM op) := by
  cases op with
  | Eq => exact ⟨_, op_eq.or (op_eqD (by omega)), op_eqA⟩
  | NotEq => exact ⟨_, op_ne.or (op_neD (by omega)), op_neA⟩
  | Lt => exact ⟨_, op_lt.or op_lt_str, op_ordA (fun _ _ => rfl) (fun _ _ => rfl) fun a b r e => by cases a <;> cases b <;> first | cases e; done | exact .inl ⟨_, _, rfl, rfl⟩ | exact .inr ⟨_, _, rfl, rfl⟩⟩
  | LtE => exact ⟨_, op_le.or op_le_str, op_ordA (fun _ _ => rfl) (fun _ _ => rfl) fun a b r e => by cases a <;> cases b <;> first | cases e; done | exact .inl ⟨_, _, rfl, rfl⟩ | exact .inr ⟨_, _, rfl, rfl⟩⟩
  | Gt => exact ⟨_, op_gt.or op_gt_str, op_ordA (fun _ _ => rfl) (fun _ _ => rfl) fun a b r e => by cases a <;> cases b <;> first | cases e; done | exact .inl ⟨_, _, rfl, rfl⟩ | exact .inr ⟨_, _, rfl, rfl⟩⟩
  | GtE => exact ⟨_, op_ge.or op_ge_str, op_ordA (fun _ _ => rfl) (fun _ _ => rfl) fun a b r e => by cases a <;> cases b <;> first | cases e; done | exact .inl ⟨_, _, rfl, rfl⟩ | exact .inr ⟨_, _, rfl, rfl⟩⟩
  | Is => exact ⟨_, op_isN.or op_isBl, op_isA⟩
  | IsNot => exact ⟨_, op_notN.or op_notBl, op_isNA⟩
  | In => exact ⟨_, op_in_seq.or ((op_inD hu).or op_in_sign), op_inA⟩
  | NotIn => exact ⟨_, op_notIn_seq.or ((op_notInD hu).or op_notIn_sign), op_notInA⟩

/-! ### items -/
def ixM (a i : D) : Option M := (ixD a i).map .sh
theorem op_ixA : OpD K (rIx K) ixM := by
  intro P Hb0 x y dx dy m H Hb Q u hx hy e q
  obtain ⟨d, e1, rfl⟩ := omap e
  cases hy with
  | int k => cases hx with
    | @lst a xs ds ha la =>
      have e' : atI ds k = some d := e1
      unfold atI at e'
      obtain ⟨j, h1, h2⟩ := obind e'
      obtain ⟨v, h3, h4⟩ := la.get h2
      exact .inl ⟨a, xs, k, v, rfl, rfl, SqL.of (u.sub _ _ ha), by unfold atI; rw [la.len, h1]; exact h3, q _ _ _ _ (.sh u h4)⟩
    | @tup a xs ds ha la =>
      have e' : atI ds k = some d := e1
      unfold atI at e'
      obtain ⟨j, h1, h2⟩ := obind e'
      obtain ⟨v, h3, h4⟩ := la.get h2
      exact .inr (.inl ⟨a, xs, k, v, rfl, rfl, Evl.ex_t u.sub ha, by unfold atI; rw [la.len, h1]; exact h3, q _ _ _ _ (.sh u h4)⟩)
    | @scr a ns ha =>
      obtain ⟨j, h1, h2⟩ := obind (show (pl ns.length k).bind _ = _ from e1)
      obtain ⟨i, h3, e3⟩ := omap h2
      cases e3
      exact .inl ⟨a, ns.map V.int, k, .int i, rfl, rfl, Evl.ex_l u.sub ha, by
        show (ixN (ns.map V.int).length k).bind _ = _
        rw [List.length_map, show ixN ns.length k = some j from h1]
        show (ns.map V.int)[j]? = _
        rw [List.getElem?_map, h3]
        rfl, q _ _ _ _ (.sh u (.int i))⟩
    | str s =>
      simp only [ixD] at e1
      split at e1
      · obtain ⟨j, h1, h2⟩ := obind e1
        obtain ⟨c, h3, e3⟩ := omap h2
        cases e3
        exact .inr (.inr ⟨s, k, c, rfl, rfl, big_le (by assumption), by
          show (ixN s.cps.toList.length k).bind _ = _
          rw [show ixN s.cps.toList.length k = some j from h1]
          exact h3, q _ _ _ _ (.sh u (.str _))⟩)
      · cases e1
    | _ => cases e1
  | _ => cases hx <;> cases e1
end
end Rf

set_option Elab.async false
set_option linter.all false
set_option maxRecDepth 100000
set_option maxHeartbeats 4000000
namespace Rf
open PySem PySem.Spec PyProof.Rows L2
open PySem.W (EachIs)

section
variable {X : Cx} {K : PySem.W.Frag}
def CallD (K : PySem.W.Frag) (r : List V → Hp → VK → Prop) (g : List D → Option M) : Prop := ∀ P Hb0 vs ds m H Hb (Q : VK), Up P Hb0 H Hb → RpL K Hb vs ds → g ds = some m → (∀ v H' Hb' oo, Got K P Hb0 v m H' Hb' oo → Q v H') → r vs H Q
theorem _root_.L2.CallR.imp {f : Value} {r r' : List V → Hp → VK → Prop} (h : CallR X f r) (i : ∀ vs H Q, r' vs H Q → r vs H Q) : CallR X f r' := fun pins s σ H vs us Q I rv q => h pins s σ H vs us Q I rv (i vs H Q q)

/-! ### sorted -/
def PairD (K : PySem.W.Frag) (H : Hp) (b : V × D) : Prop := Rp K H b.1 b.2
def rSortD (K : PySem.W.Frag) : List V → Hp → VK → Prop := fun vs H Q => ∃ (a : Addr) (bs : List (V × D)), vs = [.ref a] ∧ SqL K H a (bs.map (·.1)) ∧ (∀ b ∈ bs, Dp K H b.1 (toPy b.2)) ∧ srtOk (bs.map (·.2)) ∧
  ∀ p, H p = none → Q (.ref p) (upd H p (.lst ((bs.mergeSort fun x y => leD x.2 y.2).map (·.1))))
theorem rd_each {pins : List (Addr × Obj)} {σ : L2.St} {H : Hp} {s : Shared} (I : Inv X pins σ H s) : ∀ {bs : List (V × D)} {us : List Value}, Vals (bs.map (·.1)) us → (∀ b ∈ bs, Dp X.K H b.1 (toPy b.2)) →
    EachIs (fun u (b : V × D) => RelV b.1 u) us bs ∧ EachIs (fun u (b : V × D) => ∃ as, Reads s.heap u (toPy b.2) as) us bs
  | [], _, .nil, _ => ⟨.nil, .nil⟩
  | b :: bs, _, .cons r t, h => by
    obtain ⟨h1, h2⟩ := rd_each I t fun x hx => h x (List.mem_cons_of_mem _ hx)
    exact ⟨.cons r h1, .cons (Dp.reads I _ _ _ (h b List.mem_cons_self) r) h2⟩
theorem vals_each : ∀ {bs : List (V × D)} {us : List Value}, EachIs (fun u (b : V × D) => RelV b.1 u) us bs → Vals (bs.map (·.1)) us
  | _, _, .nil => .nil
  | _, _, .cons r t => .cons r (vals_each t)
theorem cr_sortD (hu : X.A.units + 102 < cLine) : CallR X (.builtin "sorted") (rSortD X.K) := by
  intro pins s σ H vs us Q I r h
  obtain ⟨a, bs, rfl, hs, hd, ⟨h1, h2, h3⟩, q⟩ := h
  obtain ⟨its, rv, hl, hz⟩ := I.list hs
  rw [Vals.ref1 r]
  obtain ⟨e1, e2⟩ := rd_each I rv hd
  have em : bs.map (fun b => toPy b.2) = toPys (bs.map (·.2)) := by rw [toPys_map, List.map_map]; rfl
  have hlen : bs.length ≤ sizeLine := by rw [List.length_map] at hz; exact hz
  refine PySem.W.sorted_data (enc := fun b => toPy b.2) hl.isList e1 e2 (by rw [em]; exact h1) (by rw [em]; exact h2) hlen (fun b hb => ?_) fun out ho eo => ?_
  · have := h3 b.2 (List.mem_map.mpr ⟨b, hb, rfl⟩)
    omega
  · obtain ⟨ep, he'⟩ := PyProof.Rows.sortedAll_at s.heap its out.toArray
    have rvo := vals_each eo
    have lo : ((bs.mergeSort fun x y => leD x.2 y.2).map (·.1)).length ≤ sizeLine := by rw [List.length_map, List.length_mergeSort]; exact hlen
    exact ⟨.ref _, upd H (s.heap.objs.size + 1) (.lst ((bs.mergeSort fun x y => leD x.2 y.2).map (·.1))), I.laid (t' := s.toks) (fun _ _ => PyProof.Rows.sortedAll_old) (Nat.le_succ _) ⟨lo, out, ep, rvo, he'⟩, rfl, q _ (I.hok.fresh (Nat.le_succ _))⟩
theorem RpL.zip {H : Hp} : ∀ {vs : List V} {ds : List D}, RpL K H vs ds → (vs.zip ds).map (·.1) = vs ∧ (vs.zip ds).map (·.2) = ds ∧ ∀ b ∈ vs.zip ds, Rp K H b.1 b.2
  | _, _, .nil => ⟨rfl, rfl, fun _ h => absurd h (by simp)⟩
  | _, _, .cons (v := v) (d := d) h l => by
    obtain ⟨h1, h2, h3⟩ := RpL.zip l
    refine ⟨by rw [List.zip_cons_cons, List.map_cons, h1], by rw [List.zip_cons_cons, List.map_cons, h2], fun b hb => ?_⟩
    rw [List.zip_cons_cons] at hb
    rcases List.mem_cons.mp hb with e | hb
    · rw [e]; exact h
    · exact h3 b hb
theorem RpL.of_pairs {H : Hp} : ∀ {bs : List (V × D)}, (∀ b ∈ bs, Rp K H b.1 b.2) → RpL K H (bs.map (·.1)) (bs.map (·.2))
  | [], _ => .nil
  | b :: bs, h => .cons (h b List.mem_cons_self) (RpL.of_pairs fun x hx => h x (List.mem_cons_of_mem _ hx))
theorem sort_D : CallD K (rSortD K) (bltM .sorted) := by
  intro P Hb0 vs ds m H Hb Q u hv e q
  match ds, hv, e with
  | [.lst xs], .cons (.lst (a := a) (xs := ws) ha la) .nil, e =>
    obtain ⟨ys, e1, rfl⟩ := omap (show (srtM xs).map M.od = some m from e)
    unfold srtM at e1
    split at e1
    · rename_i hc
      cases e1
      obtain ⟨z1, z2, z3⟩ := la.zip
      refine ⟨a, ws.zip xs, rfl, by rw [z1]; exact SqL.of (u.sub _ _ ha), fun b hb => ((z3 b hb).mono u.sub).dp, by rw [z2]; exact hc, fun p hp => ?_⟩
      have em : ((ws.zip xs).mergeSort fun x y => leD x.2 y.2).map (·.2) = xs.mergeSort leD := by
        rw [List.map_mergeSort (s := leD) (fun _ _ _ _ => rfl), z2]
      have rp : RpL K Hb (((ws.zip xs).mergeSort fun x y => leD x.2 y.2).map (·.1)) (xs.mergeSort leD) := by
        rw [← em]
        exact RpL.of_pairs fun b hb => z3 b (List.mem_mergeSort.mp hb)
      exact q _ _ _ _ (.od u rp hp)
    · cases e1

/-! ### len, int, abs .. -/
theorem RpL.one {H : Hp} {vs : List V} {d : D} (h : RpL K H vs [d]) : ∃ v, vs = [v] ∧ Rp K H v d := by
  cases h with
  | cons a b => cases b; exact ⟨_, rfl, a⟩
theorem RpL.two {H : Hp} {vs : List V} {d d' : D} (h : RpL K H vs [d, d']) : ∃ v v', vs = [v, v'] ∧ Rp K H v d ∧ Rp K H v' d' := by
  cases h with
  | cons a b => cases b with | cons a' b' => cases b'; exact ⟨_, _, rfl, a, a'⟩
theorem len_D : CallD K (fun xs H Q => ∃ x n, xs = [x] ∧ LenV K x H n ∧ Q (.int n) H) (bltM .len) := by
  intro P Hb0 vs ds m H Hb Q u hv e q
  match ds, e with
  | [.str s], e =>
    obtain ⟨v, rfl, hr⟩ := hv.one
    cases hr
    simp only [bltM] at e
    split at e
    · cases e
      exact ⟨_, _, rfl, ⟨big_le (by assumption), rfl⟩, q _ _ _ _ (.sh u (.int _))⟩
    · cases e
  | [.lst xs], e =>
    obtain ⟨v, rfl, hr⟩ := hv.one
    cases hr with
    | @lst a ws ds ha la =>
      cases e
      exact ⟨_, _, rfl, .inl ⟨ws, SqL.of (u.sub _ _ ha), rfl⟩, by rw [la.len]; exact q _ _ _ _ (.sh u (.int _))⟩
  | [.tup xs], e =>
    obtain ⟨v, rfl, hr⟩ := hv.one
    cases hr with
    | @tup a ws ds ha la =>
      cases e
      exact ⟨_, _, rfl, .inr ⟨ws, Evl.ex_t u.sub ha, rfl⟩, by rw [la.len]; exact q _ _ _ _ (.sh u (.int _))⟩
  | [.scr ns], e =>
    obtain ⟨v, rfl, hr⟩ := hv.one
    cases hr with
    | @scr a ns ha =>
      cases e
      exact ⟨_, _, rfl, .inl ⟨_, Evl.ex_l u.sub ha, rfl⟩, by rw [List.length_map]; exact q _ _ _ _ (.sh u (.int _))⟩
theorem int_D : CallD K (fun xs H Q => (∃ i, xs = [.int i] ∧ Q (.int i) H) ∨ ∃ k, xs = [.bl k] ∧ Q (.int (if k then 1 else 0)) H) (bltM .int) := by
  intro P Hb0 vs ds m H Hb Q u hv e q
  match ds, e with
  | [.int i], e =>
    obtain ⟨v, rfl, hr⟩ := hv.one
    cases hr; cases e
    exact .inl ⟨i, rfl, q _ _ _ _ (.sh u (.int _))⟩
  | [.bl i], e =>
    obtain ⟨v, rfl, hr⟩ := hv.one
    cases hr; cases e
    exact .inr ⟨i, rfl, q _ _ _ _ (.sh u (.int _))⟩
theorem abs_D : CallD K (fun xs H Q => ∃ i, xs = [.int i] ∧ Q (.int (if i < 0 then -i else i)) H) (bltM .abs) := by
  intro P Hb0 vs ds m H Hb Q u hv e q
  match ds, e with
  | [.int i], e =>
    obtain ⟨v, rfl, hr⟩ := hv.one
    cases hr; cases e
    exact ⟨i, rfl, q _ _ _ _ (.sh u (.int _))⟩
theorem max2_D : CallD K (fun xs H Q => ∃ i j, xs = [.int i, .int j] ∧ Q (.int (if j > i then j else i)) H) (bltM .max2) := by
  intro P Hb0 vs ds m H Hb Q u hv e q
  match ds, e with
  | [.int i, .int j], e =>
    obtain ⟨v, w, rfl, hr, hr'⟩ := hv.two
    cases hr; cases hr'; cases e
    exact ⟨i, j, rfl, q _ _ _ _ (.sh u (.int _))⟩
theorem min2_D : CallD K (fun xs H Q => ∃ i j, xs = [.int i, .int j] ∧ Q (.int (if j < i then j else i)) H) (bltM .min2) := by
  intro P Hb0 vs ds m H Hb Q u hv e q
  match ds, e with
  | [.int i, .int j], e =>
    obtain ⟨v, w, rfl, hr, hr'⟩ := hv.two
    cases hr; cases hr'; cases e
    exact ⟨i, j, rfl, q _ _ _ _ (.sh u (.int _))⟩
theorem ints_of {H : Hp} : ∀ {ds : List D} {ns : List Int} {vs : List V}, intsD ds = some ns → RpL K H vs ds → vs = ns.map V.int
  | [], _, _, e, .nil => by cases e; rfl
  | .int i :: r, ns, _, e, .cons (.int _) l => by
    obtain ⟨ms, e1, rfl⟩ := omap (show (intsD r).map (i :: ·) = some ns from e)
    rw [ints_of e1 l]
    rfl
theorem bls_of {H : Hp} : ∀ {ds : List D} {ns : List Bool} {vs : List V}, blsD ds = some ns → RpL K H vs ds → vs = ns.map V.bl
  | [], _, _, e, .nil => by cases e; rfl
  | .bl i :: r, ns, _, e, .cons (.bl _) l => by
    obtain ⟨ms, e1, rfl⟩ := omap (show (blsD r).map (i :: ·) = some ns from e)
    rw [bls_of e1 l]
    rfl
theorem sum_D : CallD K (rSum K) (bltM .sum) := by
  intro P Hb0 vs ds m H Hb Q u hv e q
  match ds, e with
  | [.lst xs], e =>
    obtain ⟨v, rfl, hr⟩ := hv.one
    cases hr with
    | @lst a ws ds ha la =>
      obtain ⟨ns, e1, rfl⟩ := omap (show (intsD xs).map _ = some m from e)
      exact ⟨a, ns, rfl, by rw [← ints_of e1 la]; exact SqL.of (u.sub _ _ ha), q _ _ _ _ (.sh u (.int _))⟩
theorem all_D : CallD K (rAll K) (bltM .all) := by
  intro P Hb0 vs ds m H Hb Q u hv e q
  match ds, e with
  | [.lst xs], e =>
    obtain ⟨v, rfl, hr⟩ := hv.one
    cases hr with
    | @lst a ws ds ha la =>
      obtain ⟨ns, e1, rfl⟩ := omap (show (blsD xs).map _ = some m from e)
      exact ⟨a, ns, rfl, by rw [← bls_of e1 la]; exact SqL.of (u.sub _ _ ha), q _ _ _ _ (.sh u (.bl _))⟩
theorem any_D : CallD K (rAny K) (bltM .any) := by
  intro P Hb0 vs ds m H Hb Q u hv e q
  match ds, e with
  | [.lst xs], e =>
    obtain ⟨v, rfl, hr⟩ := hv.one
    cases hr with
    | @lst a ws ds ha la =>
      obtain ⟨ns, e1, rfl⟩ := omap (show (blsD xs).map _ = some m from e)
      exact ⟨a, ns, rfl, by rw [← bls_of e1 la]; exact SqL.of (u.sub _ _ ha), q _ _ _ _ (.sh u (.bl _))⟩
theorem list_D : CallD K (fun xs H Q => ∃ p ys, xs = [.ref p] ∧ (SqL K H p ys ∨ SqT K H p ys) ∧ ∀ l, H l = none → Q (.ref l) (upd H l (.lst ys))) (bltM .list) := by
  intro P Hb0 vs ds m H Hb Q u hv e q
  match ds, e with
  | [.lst xs], e =>
    obtain ⟨v, rfl, hr⟩ := hv.one
    cases hr with
    | @lst a ws ds ha la => cases e; exact ⟨a, ws, rfl, .inl (SqL.of (u.sub _ _ ha)), fun p hp => q _ _ _ _ (.od u la hp)⟩
  | [.tup xs], e =>
    obtain ⟨v, rfl, hr⟩ := hv.one
    cases hr with
    | @tup a ws ds ha la => cases e; exact ⟨a, ws, rfl, .inr (Evl.ex_t u.sub ha), fun p hp => q _ _ _ _ (.od u la hp)⟩
theorem tuple_D : CallD K (fun xs H Q => ∃ p ys, xs = [.ref p] ∧ ((SqL K H p ys ∧ ∀ l, H l = none → Q (.ref l) (upd H l (.tup ys))) ∨ (SqT K H p ys ∧ Q (.ref p) H))) (bltM .tuple) := by
  intro P Hb0 vs ds m H Hb Q u hv e q
  match ds, e with
  | [.lst xs], e =>
    obtain ⟨v, rfl, hr⟩ := hv.one
    cases hr with
    | @lst a ws ds ha la => cases e; exact ⟨a, ws, rfl, .inl ⟨SqL.of (u.sub _ _ ha), fun p hp => q _ _ _ _ (.tup u la hp)⟩⟩
  | [.tup xs], e =>
    obtain ⟨v, rfl, hr⟩ := hv.one
    cases hr with
    | @tup a ws ds ha la => cases e; exact ⟨a, ws, rfl, .inr ⟨Evl.ex_t u.sub ha, q _ _ _ _ (.sh u (.tup ha la))⟩⟩
theorem ord_D : CallD K (fun xs H Q => ∃ x, xs = [.str x] ∧ x.length = 1 ∧ Q (.int (x.cps.getD 0 0 : Nat)) H) (bltM .ord) := by
  intro P Hb0 vs ds m H Hb Q u hv e q
  match ds, e with
  | [.str s], e =>
    obtain ⟨v, rfl, hr⟩ := hv.one
    cases hr
    simp only [bltM] at e
    split at e
    · cases e
      exact ⟨s, rfl, by assumption, q _ _ _ _ (.sh u (.int _))⟩
    · cases e
theorem gcd_D : CallD K rGcd (bltM .gcd) := by
  intro P Hb0 vs ds m H Hb Q u hv e q
  match ds, e with
  | [.int i, .int j], e =>
    obtain ⟨v, w, rfl, hr, hr'⟩ := hv.two
    cases hr; cases hr'; cases e
    exact ⟨i, j, rfl, q _ _ _ _ (.sh u (.int _))⟩
def Bi.val : Bi → Value
  | .len => .builtin "len" | .int => .type "int" | .abs => .builtin "abs" | .max2 => .builtin "max" | .min2 => .builtin "min" | .sum => .builtin "sum" | .all => .builtin "all" | .any => .builtin "any"
  | .list => .type "list" | .tuple => .type "tuple" | .ord => .builtin "ord" | .sorted => .builtin "sorted" | .gcd => .builtin "math.gcd"
theorem cr_blt (hc : X.calm = true) (hu : X.A.units + 102 < cLine) (f : Bi) : ∃ r, CallR X f.val r ∧ CallD X.K r (bltM f) := by
  cases f with
  | len => exact ⟨_, call_len, len_D⟩
  | int => exact ⟨_, call_int1, int_D⟩
  | abs => exact ⟨_, call_abs, abs_D⟩
  | max2 => exact ⟨_, call_max2 hc, max2_D⟩
  | min2 => exact ⟨_, call_min2 hc, min2_D⟩
  | sum => exact ⟨_, cr_sum hc, sum_D⟩
  | all => exact ⟨_, cr_all hc, all_D⟩
  | any => exact ⟨_, cr_any hc, any_D⟩
  | list => exact ⟨_, call_list_of, list_D⟩
  | tuple => exact ⟨_, call_tuple_of, tuple_D⟩
  | ord => exact ⟨_, call_ord, ord_D⟩
  | sorted => exact ⟨_, cr_sortD hu, sort_D⟩
  | gcd => exact ⟨_, cr_gcd, gcd_D⟩
end
end Rf

set_option Elab.async false
set_option linter.all false
set_option maxRecDepth 100000
set_option maxHeartbeats 4000000
namespace Rf
open PySem PySem.Spec PyProof.Rows L2

/-! ### targets -/
def gTs : List Nat → TGs
  | [] => gNil
  | i :: is => gCons (gName i) (gTs is)
def gT (K : PySem.W.Frag) : Tg → TG
  | .nm i => gName i
  | .tp is => gTup K is.length (gTs is)
def Tg.is : Tg → List Nat
  | .nm i => [i]
  | .tp is => is
theorem wipe_at {σ : L2.St} (own : List Nat) (j : Nat) : (wipe σ own)[j]? = if j ∈ own then (σ[j]?).map (fun _ => none) else σ[j]? := by
  induction own with
  | nil => simp [wipe]
  | cons v vs ih =>
    unfold wipe
    by_cases e : v = j
    · subst e
      rw [if_pos List.mem_cons_self]
      by_cases hv : v < σ.length
      · rw [List.getElem?_set_self (by rw [wipe_length]; exact hv), List.getElem?_eq_getElem hv]
        rfl
      · rw [List.getElem?_eq_none (by rw [List.length_set, wipe_length]; omega), List.getElem?_eq_none (by omega)]
        rfl
    · rw [List.getElem?_set_ne e, ih]
      by_cases hm : j ∈ vs
      · rw [if_pos hm, if_pos (List.mem_cons_of_mem _ hm)]
      · rw [if_neg hm, if_neg (fun h => (List.mem_cons.mp h).elim (fun z => e z.symm) hm)]
theorem wipe_set {σ : L2.St} {own : List Nat} {i : Nat} {x : Option V} (h : i ∈ own) : wipe (σ.set i x) own = wipe σ own := by
  apply List.ext_getElem?
  intro j
  rw [wipe_at, wipe_at]
  by_cases hj : j ∈ own
  · rw [if_pos hj, if_pos hj]
    by_cases e : i = j
    · subst e
      by_cases hi : i < σ.length
      · rw [List.getElem?_set_self hi, List.getElem?_eq_getElem hi]; rfl
      · rw [List.getElem?_eq_none (by rw [List.length_set]; omega), List.getElem?_eq_none (by omega)]
    · rw [List.getElem?_set_ne e]
  · rw [if_neg hj, if_neg hj, List.getElem?_set_ne (fun e => hj (by rw [← e]; exact h))]
section
variable {K : PySem.W.Frag} {mu : List Nat} {H Hb : Hp}
theorem Env1.put {S : Sl} {σ : L2.St} {i : Nat} {v : V} {d : D} (e : Env1 K mu S σ H Hb) (eb : Evl.Ex Hb H) (h : Rp K Hb v d) : Env1 K mu (st S i (some (.sh d))) (σ.set i (some v)) H Hb := by
  refine ⟨by rw [st_len, List.length_set, e.len], fun j m q => ?_⟩
  by_cases ej : i = j
  · subst ej
    have hi : i < σ.length := by rw [← e.len, ← st_len S i (some (.sh d))]; exact gt_some_lt q
    have q' := gt_st_some (m' := none) q
    cases q'
    exact ⟨v, List.getElem?_set_self hi, h.mono eb, fun _ => h⟩
  · rw [gt_st_ne ej] at q
    obtain ⟨w, h1, h2⟩ := e.val j m q
    exact ⟨w, by rw [List.getElem?_set_ne ej]; exact h1, h2⟩
theorem Env1.clr {S : Sl} {σ : L2.St} (e : Env1 K mu S σ H Hb) (own : List Nat) : Env1 K mu (clr S own) (wipe σ own) H Hb := by
  refine ⟨by rw [clr_len, wipe_length, e.len], fun j m q => ?_⟩
  obtain ⟨h1, h2⟩ := clr_some q
  obtain ⟨v, h3, h4⟩ := e.val j m h2
  exact ⟨v, by rw [wipe_out h1]; exact h3, h4⟩
theorem gTs_ok (eb : Evl.Ex Hb H) : ∀ (is : List Nat) (S S' : Sl) (σ : L2.St) (ds : List D) (vs : List V), puts S is ds = some S' → RpL K Hb vs ds → Env1 K mu S σ H Hb →
    ∃ σ', (∀ Q, Q σ' H → gTs is vs σ H Q) ∧ Env1 K mu S' σ' H Hb ∧ (∀ own, (∀ i ∈ is, i ∈ own) → wipe σ' own = wipe σ own)
  | [], S, S', σ, [], _, e, .nil, en => by
    cases e
    exact ⟨σ, fun Q q => ⟨rfl, q⟩, en, fun _ _ => rfl⟩
  | i :: is, S, S', σ, d :: ds, _, e, .cons (v := v) (vs := vs) h l, en => by
    obtain ⟨σ', h1, h2, h3⟩ := gTs_ok eb is (st S i (some (.sh d))) S' (σ.set i (some v)) ds vs e l (en.put eb h)
    refine ⟨σ', fun Q q => ⟨v, vs, rfl, h1 Q q⟩, h2, fun own ho => ?_⟩
    rw [h3 own fun j hj => ho j (List.mem_cons_of_mem _ hj), wipe_set (ho i List.mem_cons_self)]
  | [], _, _, _, _ :: _, _, e, _, _ => by cases e
  | _ :: _, _, _, _, [], _, e, _, _ => by cases e
theorem puts_len : ∀ {is : List Nat} {S S' : Sl} {ds : List D}, puts S is ds = some S' → is.length = ds.length
  | [], _, _, [], _ => rfl
  | _ :: _, _, _, _ :: _, e => congrArg (· + 1) (puts_len e)
  | [], _, _, _ :: _, e => by cases e
  | _ :: _, _, _, [], e => by cases e
theorem gT_ok {tg : Tg} {d : D} {S S' : Sl} {σ : L2.St} {v : V} (e : bindT tg d S = some S') (h : Rp K Hb v d) (eb : Evl.Ex Hb H) (en : Env1 K mu S σ H Hb) :
    ∃ σ', (∀ Q, Q σ' H → gT K tg v σ H Q) ∧ Env1 K mu S' σ' H Hb ∧ (∀ own, (∀ i ∈ tg.is, i ∈ own) → wipe σ' own = wipe σ own) := by
  cases tg with
  | nm i =>
    cases e
    exact ⟨_, fun Q q => q, en.put eb h, fun own ho => wipe_set (ho i List.mem_cons_self)⟩
  | tp is =>
    cases h with
    | @tup a xs ds ha la =>
      obtain ⟨σ', h1, h2, h3⟩ := gTs_ok eb is S S' σ ds xs e la en
      exact ⟨σ', fun Q q => ⟨a, xs, rfl, Evl.ex_t eb ha, by rw [la.len, puts_len e], h1 Q q⟩, h2, h3⟩
    | _ => cases e
end

/-! ### what is walked -/
section
variable {K : PySem.W.Frag} {Hb : Hp} {ds es : List D} {xs ys : List V}
theorem RpL.nth {i : Nat} (h : RpL K Hb xs ds) (hi : i < ds.length) : ∃ v d, xs[i]? = some v ∧ ds[i]? = some d ∧ Rp K Hb v d := by
  obtain ⟨v, h1, h2⟩ := h.get (List.getElem?_eq_getElem hi)
  exact ⟨v, _, h1, List.getElem?_eq_getElem hi, h2⟩
theorem walkD_list {a : Addr} (ha : Hb a = some (.lst xs)) (h : RpL K Hb xs ds) : WalkD K (Itl K a) ds Hb := by
  refine ⟨fun i H hi e => ?_, fun H e => ⟨xs, SqL.of (e _ _ ha), by rw [h.len]; exact Nat.le_refl _⟩, fun i H x H' P Hb0 Hc hi u e y => ?_⟩
  · obtain ⟨v, d, h1, _, _⟩ := h.nth hi
    exact ⟨xs, v, SqL.of (e _ _ ha), h1⟩
  · obtain ⟨rfl, y⟩ := y
    obtain ⟨v, d, h1, h2, h3⟩ := h.nth hi
    have q := y xs (SqL.of ((e.trans u.sub) _ _ ha))
    rw [h1] at q; cases q
    exact ⟨Hc, d, h2, u, .refl u.sub, h3.mono e⟩
theorem walkD_tup {a : Addr} (ha : SqT K Hb a xs) (h : RpL K Hb xs ds) : WalkD K (Itt K a) ds Hb := by
  refine ⟨fun i H hi e => ?_, fun H e => ⟨xs, Evl.ex_t e ha, by rw [h.len]; exact Nat.le_refl _⟩, fun i H x H' P Hb0 Hc hi u e y => ?_⟩
  · obtain ⟨v, d, h1, _, _⟩ := h.nth hi
    exact ⟨xs, v, Evl.ex_t e ha, h1⟩
  · obtain ⟨rfl, y⟩ := y
    obtain ⟨v, d, h1, h2, h3⟩ := h.nth hi
    have q := y xs (Evl.ex_t (e.trans u.sub) ha)
    rw [h1] at q; cases q
    exact ⟨Hc, d, h2, u, .refl u.sub, h3.mono e⟩
theorem walkD_str {s : Str} : WalkD K (Its s) (s.cps.toList.map fun c => .str ⟨#[c]⟩) Hb := by
  have hl : (s.cps.toList.map fun c => D.str ⟨#[c]⟩).length = s.cps.size := by rw [List.length_map, Array.length_toList]
  refine ⟨fun i H hi e => ?_, fun H e => ?_, fun i H x H' P Hb0 Hc hi u e y => ?_⟩
  · rw [hl] at hi; exact hi
  · rw [hl]; exact Nat.le_refl _
  · obtain ⟨rfl, c, h1, rfl⟩ := y
    exact ⟨Hc, _, by rw [List.getElem?_map, Array.getElem?_toList, h1]; rfl, u, .refl u.sub, .str _⟩
theorem walkD_rng {lo : Int} {n : Nat} : WalkD K (Itr lo n) ((List.range n).map fun (i : Nat) => .int (lo + i)) Hb := by
  have hl : ((List.range n).map fun (i : Nat) => D.int (lo + i)).length = n := by rw [List.length_map, List.length_range]
  refine ⟨fun i H hi e => ?_, fun H e => ?_, fun i H x H' P Hb0 Hc hi u e y => ?_⟩
  · rw [hl] at hi; exact hi
  · rw [hl]; exact Nat.le_refl _
  · obtain ⟨rfl, rfl⟩ := y
    rw [hl] at hi
    exact ⟨Hc, .int (lo + i), by rw [List.getElem?_map, List.getElem?_range hi]; rfl, u, .refl u.sub, .int _⟩
theorem walkD_rev {a : Addr} (ha : Hb a = some (.lst xs)) (h : RpL K Hb xs ds) : WalkD K (Itv K a xs.length) ds.reverse Hb := by
  have hr := h.rev
  have hl := h.len
  refine ⟨fun i H hi e => ?_, fun H e => by rw [List.length_reverse, ← hl]; exact Nat.le_refl _, fun i H x H' P Hb0 Hc hi u e y => ?_⟩
  · rw [List.length_reverse, ← hl] at hi
    exact ⟨hi, xs, xs[xs.length - 1 - i]'(by omega), SqL.of (e _ _ ha), List.getElem?_eq_getElem _⟩
  · obtain ⟨rfl, y⟩ := y
    obtain ⟨v, d, h1, h2, h3⟩ := hr.nth hi
    have q := y xs (SqL.of ((e.trans u.sub) _ _ ha))
    rw [List.length_reverse, ← hl] at hi
    rw [List.getElem?_reverse hi] at h1
    rw [h1] at q; cases q
    exact ⟨Hc, d, h2, u, .refl u.sub, h3.mono e⟩
/-- a new pair each turn -/
theorem pair_new {P Hb0 H Hc : Hp} {T : Addr} {v w : V} {d d' : D} (u : Up P Hb0 H Hc) (hT : H T = none) (h : Rp K Hc v d) (h' : Rp K Hc w d') :
    ∃ Hc', Up P Hb0 (upd H T (.tup [v, w])) Hc' ∧ Up H Hc (upd H T (.tup [v, w])) Hc' ∧ Rp K Hc' (.ref T) (.tup [d, d']) := by
  refine ⟨upd Hc T (.tup [v, w]), u.newC hT, (Up.refl u.sub).newC hT, ?_⟩
  have e : Evl.Ex Hc (upd Hc T (.tup [v, w])) := Evl.Ex.new (u.free hT).1
  exact .tup (SqT.of upd_same) (.cons (h.mono e) (.cons (h'.mono e) .nil))
theorem walkD_en {a : Addr} (ha : Hb a = some (.lst xs)) (h : RpL K Hb xs ds) : WalkD K (Ite K a) (enD ds) Hb := by
  have hl : (enD ds).length = ds.length := by unfold enD; rw [List.length_zipWith, List.length_range, Nat.min_self]
  refine ⟨fun i H hi e => ?_, fun H e => ⟨xs, SqL.of (e _ _ ha), by rw [h.len, hl]; exact Nat.le_refl _⟩, fun i H x H' P Hb0 Hc hi u e y => ?_⟩
  · rw [hl] at hi
    obtain ⟨v, d, h1, _, _⟩ := h.nth hi
    exact ⟨xs, v, SqL.of (e _ _ ha), h1⟩
  · rw [hl] at hi
    obtain ⟨T, v, rfl, hT, rfl, y⟩ := y
    obtain ⟨w, d, h1, h2, h3⟩ := h.nth hi
    have q := y xs (SqL.of ((e.trans u.sub) _ _ ha))
    rw [h1] at q; cases q
    obtain ⟨Hc', u1, u2, r⟩ := pair_new u hT (.int (i : Nat)) (h3.mono e)
    refine ⟨Hc', _, ?_, u1, u2, r⟩
    unfold enD
    rw [List.getElem?_zipWith, List.getElem?_range hi, h2]
theorem walkD_zp {a b : Addr} (ha : Hb a = some (.lst xs)) (h : RpL K Hb xs ds) (hb : Hb b = some (.lst ys)) (h' : RpL K Hb ys es) : WalkD K (Itz K a b) (zpD ds es) Hb := by
  have hl : (zpD ds es).length = min ds.length es.length := by unfold zpD; rw [List.length_zipWith]
  refine ⟨fun i H hi e => ?_, fun H e => ⟨xs, ys, SqL.of (e _ _ ha), SqL.of (e _ _ hb), by rw [h.len, h'.len, hl]; omega⟩, fun i H x H' P Hb0 Hc hi u e y => ?_⟩
  · rw [hl] at hi
    obtain ⟨v, d, h1, _, _⟩ := h.nth (i := i) (by omega)
    obtain ⟨w, d', h2, _, _⟩ := h'.nth (i := i) (by omega)
    exact ⟨xs, ys, v, w, SqL.of (e _ _ ha), SqL.of (e _ _ hb), h1, h2⟩
  · rw [hl] at hi
    obtain ⟨T, v, w, rfl, hT, rfl, y1, y2⟩ := y
    obtain ⟨v', d, h1, h2, h3⟩ := h.nth (i := i) (by omega)
    obtain ⟨w', d', k1, k2, k3⟩ := h'.nth (i := i) (by omega)
    have q := y1 xs (SqL.of ((e.trans u.sub) _ _ ha))
    rw [h1] at q; cases q
    have q := y2 ys (SqL.of ((e.trans u.sub) _ _ hb))
    rw [k1] at q; cases q
    obtain ⟨Hc', u1, u2, r⟩ := pair_new u hT (h3.mono e) (k3.mono e)
    refine ⟨Hc', _, ?_, u1, u2, r⟩
    unfold zpD
    rw [List.getElem?_zipWith, h2, k2]
end
theorem _root_.L2.PI.or {X : Cx} {tg e : Expr} {t t' : TI} (h : PI X tg e t) (h' : PI X tg e t') : PI X tg e (fun σ H R => t σ H R ∨ t' σ H R) := ⟨fun pins s σ H R I q => q.elim (h.run pins s σ H R I) (h'.run pins s σ H R I)⟩
section
variable {X : Cx} {mu : List Nat} {fa fb : Sl → Option M} {ea eb tg : Expr}
/-- what is got, given away: the one step that most readings need -/
theorem tS_use {K : PySem.W.Frag} {f : Sl → Option M} {S : Sl} {m : M} {σ : L2.St} {H Hb : Hp} {R : VK} (hf : f S = some m) (eb : Evl.Ex Hb H) (en : Env1 K mu S σ H Hb) (q : ∀ v H' Hb', Up H Hb H' Hb' → Rp K Hb' v m.share → R v H') : tS K mu f σ H R :=
  ⟨S, m, Hb, hf, eb, en, fun v H' Hb' oo g => by
    obtain ⟨Hc, u, _, r⟩ := g.share
    exact q v H' Hc u r⟩
theorem pi_it (ha : PE X ea (tS X.K mu fa)) : PI X tg ea (tIz X.K mu fun S => (fa S).bind fun x => itD x.share) := by
  refine ((pi_list ha).or ((pi_tup ha).or (pi_str ha))).mono fun σ H R h => ?_
  obtain ⟨S, ds, Hb, hf, eb, en, q⟩ := h
  obtain ⟨m, h1, h2⟩ := obind hf
  match hm : m.share, h2 with
  | .lst xs, h2 =>
    cases h2
    refine .inl (tS_use h1 eb en fun v H' Hb' u r => ?_)
    rw [hm] at r
    cases r with
    | @lst a ws ds' ha' la => exact ⟨a, rfl, ⟨ws, SqL.of (u.sub _ _ ha')⟩, q _ H' Hb' u (walkD_list ha' la) (.inr (.inl ⟨a, ws, u.sub _ _ ha', by rw [la.len]; exact Nat.le_refl _⟩))⟩
  | .tup xs, h2 =>
    cases h2
    refine .inr (.inl (tS_use h1 eb en fun v H' Hb' u r => ?_))
    rw [hm] at r
    cases r with
    | @tup a ws ds' ha' la => exact ⟨a, rfl, ⟨ws, Evl.ex_t u.sub ha'⟩, q _ H' Hb' u (walkD_tup ha' la) (.inr (.inr ⟨a, ws, Evl.ex_t u.sub ha', by rw [la.len]; exact Nat.le_refl _⟩))⟩
  | .str s, h2 =>
    simp only [itD] at h2
    split at h2
    · rename_i hl
      cases h2
      refine .inr (.inr (tS_use h1 eb en fun v H' Hb' u r => ?_))
      rw [hm] at r
      cases r
      exact ⟨s, rfl, q _ H' Hb' u walkD_str (.inl (by rw [List.length_map, Array.length_toList]; exact big_le hl))⟩
    · cases h2
/-- arguments -/
theorem pa_nilS : PA X [] (tA X.K mu fun _ => some []) := pa_nil.mono fun σ H Q h => by
  obtain ⟨S, ms, Hb, hf, eb, en, q⟩ := h
  cases hf
  exact q _ _ _ _ (.nil (.refl eb))
theorem pa_consS {es : List Expr} {f : Sl → Option (List M)} (ha : PE X ea (tS X.K mu fa)) (hr : PA X es (tA X.K mu f)) (hs : starEach (ea :: es) X.env = (false, eval ea X.env) :: starEach es X.env) :
    PA X (ea :: es) (tA X.K mu fun S => (fa S).bind fun x => (f S).map fun xs => x :: xs) := (pa_cons ha hr hs).mono fun σ H Q h => by
  obtain ⟨S, ms, Hb, hf, eb, en, q⟩ := h
  obtain ⟨m, h1, hf⟩ := obind hf
  obtain ⟨ms', h2, rfl⟩ := omap hf
  exact ⟨S, m, Hb, h1, eb, en, fun v H1 Hb1 o1 g1 => ⟨S, ms', Hb1, h2, g1.up.sub, en.up g1.up, fun vs H2 Hb2 o2 g2 => q _ _ _ _ (.cons g1 g2)⟩⟩
/-- one argument, two arguments, given away -/
theorem pa_1 (ha : PE X ea (tS X.K mu fa)) (hs : starEach [ea] X.env = [(false, eval ea X.env)]) : PA X [ea] (tCons (tS X.K mu fa) tNil) := pa_cons ha pa_nil hs
theorem pi_r1 {p pos : Pos} (hg : Gl X "range") (hm : X.mg "range" = none) (ha : PE X ea (tS X.K [] fa)) (hs : starEach [ea] X.env = [(false, eval ea X.env)]) :
    PI X tg (.Call (.Name "range" p) [ea] [] pos) (tIz X.K mu fun S => (fa S).bind fun x => match x.share with
      | .int n => if -(big : Int) ≤ n ∧ n ≤ (big : Int) then some (rngD 0 n) else none
      | _ => none) := (pi_range1 hg hm (pa_1 ha hs) hs).mono fun σ H R h => by
  obtain ⟨S, ds, Hb, hf, eb, en, q⟩ := h
  obtain ⟨m, h1, h2⟩ := obind hf
  refine tS_use h1 (.refl _) en.all fun v H' Hc' u0 r => ?_
  have u : Up H Hb H' Hb := ⟨u0.keep, .refl _, eb.trans u0.keep, fun _ _ z => z⟩
  have hb : (big : Int) = 1000000 := rfl
  match hm : m.share, h2, r with
  | .int n, h2, .int _ =>
    simp only at h2
    split at h2
    · cases h2
      refine ⟨n, rfl, by omega, by omega, q _ _ _ u ?_ (.inl ?_)⟩
      rotate_left
      · unfold rngD
        rw [List.length_map, List.length_range, sizeLine_eq]
        omega
      have e : rngD 0 n = (List.range n.toNat).map fun (i : Nat) => .int (0 + i) := by unfold rngD; rw [Int.sub_zero]
      rw [e]
      exact walkD_rng
    · cases h2
theorem pi_r2 {p pos : Pos} (hg : Gl X "range") (hm : X.mg "range" = none) (ha : PE X ea (tS X.K [] fa)) (hb : PE X eb (tS X.K [] fb)) (hs : starEach [ea, eb] X.env = [(false, eval ea X.env), (false, eval eb X.env)]) (hs2 : starEach [eb] X.env = [(false, eval eb X.env)]) :
    PI X tg (.Call (.Name "range" p) [ea, eb] [] pos) (tIz X.K mu fun S => (fa S).bind fun x => (fb S).bind fun y => match x.share, y.share with
      | .int m, .int n => if (-(big : Int) ≤ m ∧ m ≤ (big : Int)) ∧ -(big : Int) ≤ n ∧ n ≤ (big : Int) then some (rngD m n) else none
      | _, _ => none) := (pi_range2 hg hm (pa_cons ha (pa_1 hb hs2) (by rw [hs, hs2])) hs hs2).mono fun σ H R h => by
  obtain ⟨S, ds, Hb, hf, eb, en, q⟩ := h
  obtain ⟨m, h1, hf⟩ := obind hf
  obtain ⟨m', h2, h3⟩ := obind hf
  refine tS_use h1 (.refl _) en.all fun v H1 Hb1 u1 r1 => ?_
  refine tS_use h2 (.refl _) (en.mono u1.keep (.refl _)).all fun w H2 Hb2 u2 r2 => ?_
  have u : Up H Hb H2 Hb := ⟨u1.keep.trans u2.keep, .refl _, eb.trans (u1.keep.trans u2.keep), fun _ _ z => z⟩
  have hb : (big : Int) = 1000000 := rfl
  match hm : m.share, hm' : m'.share, h3, r1, r2 with
  | .int i, .int n, h3, .int _, .int _ =>
    simp only at h3
    split at h3
    · cases h3
      exact ⟨i, n, rfl, by omega, q _ _ _ u walkD_rng (.inl (by rw [sizeLine_eq]; unfold rngD; rw [List.length_map, List.length_range]; omega))⟩
    · cases h3
theorem lstD_of {d : D} {xs : List D} (h : lstD d = some xs) : d = .lst xs := by
  cases d <;> cases h
  rfl
theorem pi_enS {p pos tpos : Pos} {elts : List Expr} {kk : Nat} (hg : Gl X "enumerate") (hm : X.mg "enumerate" = none) (ha : PE X ea (tS X.K mu fa)) (hs : starEach [ea] X.env = [(false, eval ea X.env)]) :
    PI X (.Tuple elts kk tpos) (.Call (.Name "enumerate" p) [ea] [] pos) (tIz X.K mu fun S => (fa S).bind fun x => (lstD x.share).map enD) := (pi_enum hg hm (pa_1 ha hs) hs).mono fun σ H R h => by
  obtain ⟨S, ds, Hb, hf, eb, en, q⟩ := h
  obtain ⟨m, h1, h2⟩ := obind hf
  obtain ⟨xs, h3, rfl⟩ := omap h2
  refine tS_use h1 eb en fun v H' Hb' u r => ?_
  rw [lstD_of h3] at r
  cases r with
  | @lst a ws ds' ha' la => exact ⟨a, ws, rfl, SqL.of (u.sub _ _ ha'), q _ _ _ u (walkD_en ha' la) (.inr (.inl ⟨a, ws, u.sub _ _ ha', by unfold enD; rw [List.length_zipWith, List.length_range, la.len]; exact Nat.min_le_left _ _⟩))⟩
theorem pi_rvS {p pos : Pos} (hg : Gl X "reversed") (hm : X.mg "reversed" = none) (ha : PE X ea (tS X.K mu fa)) (hs : starEach [ea] X.env = [(false, eval ea X.env)]) :
    PI X tg (.Call (.Name "reversed" p) [ea] [] pos) (tIz X.K mu fun S => (fa S).bind fun x => (lstD x.share).map List.reverse) := (pi_reversed hg hm (pa_1 ha hs) hs).mono fun σ H R h => by
  obtain ⟨S, ds, Hb, hf, eb, en, q⟩ := h
  obtain ⟨m, h1, h2⟩ := obind hf
  obtain ⟨xs, h3, rfl⟩ := omap h2
  refine tS_use h1 eb en fun v H' Hb' u r => ?_
  rw [lstD_of h3] at r
  cases r with
  | @lst a ws ds' ha' la => exact ⟨a, ws, rfl, SqL.of (u.sub _ _ ha'), q _ _ _ u (walkD_rev ha' la) (.inr (.inl ⟨a, ws, u.sub _ _ ha', by rw [List.length_reverse, la.len]; exact Nat.le_refl _⟩))⟩
theorem pi_zpS {p pos tpos : Pos} {elts : List Expr} {kk : Nat} (hg : Gl X "zip") (hm : X.mg "zip" = none) (ha : PE X ea (tS X.K mu fa)) (hb : PE X eb (tS X.K mu fb)) (hs : starEach [ea, eb] X.env = (false, eval ea X.env) :: starEach [eb] X.env) (hs2 : starEach [eb] X.env = [(false, eval eb X.env)]) :
    PI X (.Tuple elts kk tpos) (.Call (.Name "zip" p) [ea, eb] [] pos) (tIz X.K mu fun S => (fa S).bind fun x => (fb S).bind fun y => (lstD x.share).bind fun xs => (lstD y.share).map fun ys => zpD xs ys) := (pi_zip hg hm (pa_cons ha (pa_1 hb hs2) hs) hs (by rw [hs2]; rfl)).mono fun σ H R h => by
  obtain ⟨S, ds, Hb, hf, eb, en, q⟩ := h
  obtain ⟨m, h1, hf⟩ := obind hf
  obtain ⟨m', h2, hf⟩ := obind hf
  obtain ⟨xs, h3, hf⟩ := obind hf
  obtain ⟨ys, h4, rfl⟩ := omap hf
  refine tS_use h1 eb en fun v H1 Hb1 u1 r1 => ?_
  refine tS_use h2 u1.sub (en.up u1) fun w H2 Hb2 u2 r2 => ?_
  rw [lstD_of h3] at r1
  rw [lstD_of h4] at r2
  cases r1 with
  | @lst a ws ds' ha' la => cases r2 with
    | @lst b ws' ds'' hb' lb => exact ⟨a, b, ws, ws', rfl, SqL.of (u2.keep _ _ (u1.sub _ _ ha')), SqL.of (u2.sub _ _ hb'), q _ _ _ (u1.trans u2) (walkD_zp (u2.com _ _ ha') (la.mono u2.com) hb' lb) (.inr (.inl ⟨b, ws', u2.sub _ _ hb', by unfold zpD; rw [List.length_zipWith, lb.len]; exact Nat.min_le_right _ _⟩))⟩
end
end Rf

set_option Elab.async false
set_option linter.all false
set_option maxRecDepth 100000
set_option maxHeartbeats 4000000
namespace Rf
open PySem PySem.Spec PyProof.Rows L2

section
variable {K : PySem.W.Frag} {mu : List Nat}
theorem RpMs.snoc {K : PySem.W.Frag} {H Hb : Hp} {v : V} {m : M} {o1 : List Addr} (h : RpM K H Hb v m o1) : ∀ {vs : List V} {ms : List M} {oo : List Addr}, RpMs K H Hb vs ms oo → RpMs K H Hb (vs ++ [v]) (ms ++ [m]) (oo ++ o1)
  | _, _, _, .nil => by
    have q := RpMs.cons h .nil
    rw [List.append_nil] at q
    exact q
  | _, _, _, .cons a l => by
    rw [List.append_assoc]
    exact .cons a (RpMs.snoc h l)
/-- a step at an address that is nobody's -/
theorem Up.at {P Hb H' Hb' : Hp} {L : Addr} {o : HO} (u : Up P Hb H' Hb') (hP : P L = none) (hb : Hb' L = none) : Up P Hb (upd H' L o) Hb' :=
  ⟨fun p x e => by rw [upd_ne (ne_of_none e hP)]; exact u.keep p x e, u.com, fun p x e => by rw [upd_ne (ne_of_none e hb)]; exact u.sub p x e, u.apart⟩
/-- a list comprehension -/
theorem lc_of {fI : Sl → Option (List D)} {fT : Sl → Option Bool} {fE : Sl → Option M} {tg : Tg} {own : List Nat} (ho : ∀ i ∈ tg.is, i ∈ own) (σ : L2.St) (H : Hp) (Q : VK)
    (h : tS K mu (fun S => (fI S).bind fun xs => (turns (fun x => (bindT tg x (clr S own)).bind fun S1 => (fT S1).bind fun k => if k = true then (fE S1).map some else some none) xs).map .ol) σ H Q) :
    tLc (tI K mu fI) (gT K tg) (tT K mu fT) (tS K mu fE) own σ H Q := by
  obtain ⟨S, m, Hb, hf, eb, en, q⟩ := h
  obtain ⟨ds, h1, hf⟩ := obind hf
  obtain ⟨all, h2, rfl⟩ := omap hf
  refine ⟨S, ds, Hb, h1, eb, en, fun J H1 Hb1 u1 w hz => ?_⟩
  intro L hL
  obtain ⟨hLb, hLH⟩ := u1.free hL
  generalize hft : (fun x => (bindT tg x (clr S own)).bind fun S1 => (fT S1).bind fun k => if k = true then (fE S1).map some else some none) = ft at h2
  let St : Nat → Hp → Prop := fun i Hh => ∃ (Hc : Hp) (vs : List V) (ys zs : List M) (oo : List Addr), Hh L = some (.lst vs) ∧ vs.length ≤ i ∧ Up H Hb Hh Hc ∧ Evl.Ex Hb1 Hc ∧ Hc L = none ∧ RpMs K Hh Hc vs ys oo ∧ oo.Nodup ∧ L ∉ oo ∧
    (∀ p ∈ oo, H p = none ∧ Hc p = none) ∧ turns ft (ds.drop i) = some zs ∧ ys ++ zs = all
  refine ⟨fun i n Hh => n = ds.length - i ∧ i ≤ ds.length ∧ St i Hh, ⟨ds.length, by simp, Nat.zero_le _, Hb1, [], [], all, [], upd_same, Nat.le_refl _, u1.at hLH hLb, .refl _, hLb, .nil, .nil, by simp, fun _ h => absurd h (by simp), h2, rfl⟩, fun i n Hh hW => ?_⟩
  obtain ⟨rfl, hi, Hc, vs, ys, zs, oo, a1, a2, a3, a4, a5, a6, a7, a8, a9, a10, a11⟩ := hW
  by_cases hlt : i < ds.length
  · refine .inr ⟨w.goes i Hh hlt (a4.trans a3.sub), fun H' => St (i + 1) H', fun H' hs => ⟨ds.length - (i + 1), by omega, rfl, hlt, hs⟩, fun x H2 y => ?_⟩
    obtain ⟨Hc2, d, b1, b2, b3, b4⟩ := w.yields i Hh x H2 H Hb Hc hlt a3 a4 y
    have hdrop : ds.drop i = d :: ds.drop (i + 1) := by
      rw [List.drop_eq_getElem_cons hlt]
      rw [List.getElem?_eq_getElem hlt] at b1
      rw [Option.some.inj b1]
    rw [hdrop] at a10
    obtain ⟨o, c1, c2⟩ := obind a10
    obtain ⟨zs', c3, c4⟩ := omap c2
    rw [← hft] at c1
    obtain ⟨S1, d1, c1⟩ := obind c1
    obtain ⟨k, d2, c1⟩ := obind c1
    have en2 : Env1 K mu (clr S own) (wipe σ own) H2 Hc2 := (en.clr own).mono b2.keep b2.com
    obtain ⟨σ', g1, g2, g3⟩ := gT_ok d1 b4 b2.sub en2
    have wp : wipe σ' own = wipe σ own := by
      rw [g3 own ho]
      apply List.ext_getElem?
      intro j
      rw [wipe_at, wipe_at]
      by_cases hj : j ∈ own
      · rw [if_pos hj, if_pos hj]
        cases σ[j]? <;> rfl
      · rw [if_neg hj, if_neg hj]
    have eH2 : Evl.Ex Hh H2 := b3.keep
    have eC2 : Evl.Ex Hc Hc2 := b3.com
    have l2 : H2 L = some (.lst vs) := eH2 _ _ a1
    have nC2 : Hc2 L = none := b3.apart L (by rw [a1]; simp) a5
    have new2 : ∀ p ∈ oo, H p = none ∧ Hc2 p = none := fun p hp => ⟨(a9 p hp).1, b3.apart p (by obtain ⟨o, z⟩ := a6.there p hp; rw [z]; simp) (a9 p hp).2⟩
    refine g1 _ ⟨wp, S1, k, Hc2, d2, b2.sub, g2, fun H3 Hc3 u3 => ?_⟩
    have l3 : H3 L = some (.lst vs) := u3.keep _ _ l2
    have nC3 : Hc3 L = none := u3.apart L (by rw [l2]; simp) nC2
    have new3 : ∀ p ∈ oo, H p = none ∧ Hc3 p = none := fun p hp => ⟨(a9 p hp).1, u3.apart p (by obtain ⟨o, z⟩ := a6.there p hp; rw [eH2 _ _ z]; simp) (new2 p hp).2⟩
    have r3 : RpMs K H3 Hc3 vs ys oo := (a6.ex eH2 eC2).ex u3.keep u3.com
    cases k with
    | false =>
      dsimp only
      rw [if_neg Bool.false_ne_true]
      rw [if_neg Bool.false_ne_true] at c1
      cases c1
      subst c4
      exact ⟨Hc3, vs, ys, zs', oo, l3, by omega, b2.trans u3, (a4.trans eC2).trans u3.com, nC3, r3, a7, a8, new3, c3, a11⟩
    | true =>
      dsimp only
      rw [if_pos rfl]
      rw [if_pos rfl] at c1
      obtain ⟨y, c5, c6⟩ := omap c1
      subst c6
      subst c4
      refine ⟨S1, y, Hc3, c5, u3.sub, g2.mono u3.keep u3.com, fun v H4 Hc4 o4 g4 => ⟨vs, g4.up.keep _ _ l3, ?_, ?_⟩⟩
      · exact Nat.lt_of_lt_of_le (Nat.lt_of_le_of_lt a2 hlt) hz
      · have l4 : H4 L = some (.lst vs) := g4.up.keep _ _ l3
        have nC4 : Hc4 L = none := g4.up.apart L (by rw [l3]; simp) nC3
        have n4 : L ∉ o4 := fun hm => by
          have := (g4.new L hm).1
          rw [l3] at this
          cases this
        have nupd : ∀ p ∈ oo, upd H4 L (.lst (vs ++ [v])) p = H3 p := fun p hp => by
          rw [upd_ne (fun e => a8 (by rw [← e]; exact hp))]
          obtain ⟨o, z⟩ := r3.there p hp
          rw [z, g4.up.keep _ _ z]
        have r4 : RpMs K (upd H4 L (.lst (vs ++ [v]))) Hc4 vs ys oo := r3.mono g4.up.com nupd
        have r5 : RpM K (upd H4 L (.lst (vs ++ [v]))) Hc4 v y o4 := g4.rp.mono (.refl _) fun p hp => upd_ne (fun e => n4 (by rw [← e]; exact hp))
        refine ⟨Hc4, vs ++ [v], ys ++ [y], zs', oo ++ o4, upd_same, by rw [List.length_append]; simp; omega, ((b2.trans u3).trans g4.up).at hLH nC4, ((a4.trans eC2).trans u3.com).trans g4.up.com, nC4, RpMs.snoc r5 r4, ?_, ?_, ?_, c3, by rw [List.append_assoc]; exact a11⟩
        · refine List.nodup_append.mpr ⟨a7, g4.nd, fun a ha b hb e => ?_⟩
          subst e
          obtain ⟨o, z⟩ := r3.there a ha
          have := (g4.new a hb).1
          rw [z] at this
          cases this
        · intro hm
          rcases List.mem_append.mp hm with hm | hm
          · exact a8 hm
          · exact n4 hm
        · intro p hp
          rcases List.mem_append.mp hp with hp | hp
          · refine ⟨(a9 p hp).1, g4.up.apart p ?_ (new3 p hp).2⟩
            obtain ⟨o, z⟩ := r3.there p hp
            rw [z]; simp
          · refine ⟨?_, (g4.new p hp).2⟩
            cases z : H p with
            | none => rfl
            | some o =>
              have := (g4.new p hp).1
              rw [(b2.trans u3).keep p o z] at this
              cases this
  · have e : i = ds.length := by omega
    subst e
    rw [List.drop_length] at a10
    cases a10
    rw [List.append_nil] at a11
    subst a11
    refine .inl ⟨w.stops Hh (a4.trans a3.sub), q (.ref L) Hh Hc (L :: oo) ⟨a3, .ol a1 a6, List.nodup_cons.mpr ⟨a8, a7⟩, fun p hp => ?_⟩⟩
    rcases List.mem_cons.mp hp with e | hp
    · rw [e]; exact ⟨hLH, a5⟩
    · exact a9 p hp
end
end Rf

set_option Elab.async false
set_option linter.all false
set_option maxRecDepth 100000
set_option maxHeartbeats 4000000
namespace Rf
open PySem PySem.Spec PyProof.Rows L2

/-! ### does the reading fit the text? -/
structure Ck where
  T : List Fd
  G : List (Str × D)
  mods : List Bi
  N : List Str
def visB (sc : Scope) (x : Str) : Bool := (match sc.names.lookup x with | some .local => true | some .cell => true | some .free => true | _ => false) && !(x == ("__debug__" : Str)) && !(x == ("__classdict__" : Str))
def locB (sc : Scope) (x : Str) : Bool := match sc.names.lookup x with | some .local => true | some .cell => true | _ => false
def glB (sc : Scope) (x : Str) : Bool := decide (sc.names.lookup x = some .globalImplicit) && !(x == ("__debug__" : Str))
def noStar : Expr → Bool
  | .Starred .. => false
  | _ => true
def noSlice : Expr → Bool
  | .Slice .. => false
  | _ => true
def noSet : Expr → Bool
  | .Set .. => false
  | _ => true
/-- its test is its value's truth -/
def plainT : Expr → Bool
  | .UnaryOp .Not _ _ => false
  | .BoolOp .. => false
  | .IfExp .. => false
  | .Compare .. => false
  | _ => true
def Bi.nm : Bi → Str
  | .len => "len" | .int => "int" | .abs => "abs" | .max2 => "max" | .min2 => "min" | .sum => "sum" | .all => "all" | .any => "any"
  | .list => "list" | .tuple => "tuple" | .ord => "ord" | .sorted => "sorted" | .gcd => "gcd"
/-- one of Python's own names (not one of a module) -/
def Bi.own : Bi → Bool
  | .gcd => false
  | _ => true
def Bi.flat : Bi → Bool
  | .list => false | .tuple => false | .sorted => false
  | _ => true
def Ty.nm : Ty → String
  | .list => "list" | .tuple => "tuple" | .int => "int" | .bool => "bool" | .str => "str"
def chkNames (N : List Str) (sc : Scope) : List Nat → List Expr → Bool
  | [], [] => true
  | i :: is, .Name x _ :: es => decide (N[i]? = some x) && locB sc x && chkNames N sc is es
  | _, _ => false
def chkTg (N : List Str) (sc : Scope) (tg : Tg) (e : Expr) : Bool :=
  match tg, e with
  | .nm i, .Name x _ => decide (N[i]? = some x) && locB sc x
  | .tp is, .Tuple es _ _ => chkNames N sc is es
  | _, _ => false
def isTup : Expr → Bool
  | .Tuple .. => true
  | _ => false
def ownOf (N : List Str) (own : List Nat) : List (Str × Nat) := own.map fun i => (N.getD i "", i)
section
variable (C : Ck)
mutual
def chkE : Nat → Scope → E → Expr → Bool
  | 0, _, _, _ => false
  | n + 1, sc, ie, e =>
    match ie with
    | .var i => (match e with
      | .Name x _ => decide (C.N[i]? = some x) && visB sc x
      | _ => false)
    | .gl g => (match e with
      | .Name x _ => decide ((C.G[g]?).map (·.1) = some x) && glB sc x
      | _ => false)
    | .non => (match e with
      | .Constant .none _ _ => true
      | _ => false)
    | .bl b => (match e with
      | .Constant (.bool b') _ _ => b == b'
      | _ => false)
    | .int i => (match e with
      | .Constant (.int j) _ _ => decide (i = j)
      | _ => false)
    | .str s => (match e with
      | .Constant (.str t) _ _ => decide (s = t)
      | _ => false)
    | .bin op a b => (match e with
      | .BinOp ea op' eb _ => decide (op = op') && chkE n sc a ea && chkE n sc b eb
      | _ => false)
    | .neg a => (match e with
      | .UnaryOp .USub ea _ => chkE n sc a ea
      | _ => false)
    | .not a => (match e with
      | .UnaryOp .Not ea _ => chkE n sc a ea
      | _ => false)
    | .and a b => (match e with
      | .BoolOp .And (ea :: es) _ => chkE n sc a ea && chkB n sc .And b es
      | _ => false)
    | .or a b => (match e with
      | .BoolOp .Or (ea :: es) _ => chkE n sc a ea && chkB n sc .Or b es
      | _ => false)
    | .cmp op a b => (match e with
      | .Compare ea [op'] [eb] _ => decide (op = op') && chkE n sc a ea && chkE n sc b eb && noSet eb
      | _ => false)
    | .chain op1 op2 a b d => (match e with
      | .Compare ea [op1', op2'] [eb, ed] _ => decide (op1 = op1') && decide (op2 = op2') && chkE n sc a ea && chkE n sc b eb && chkE n sc d ed && noSet eb && noSet ed
      | _ => false)
    | .ite t a b => (match e with
      | .IfExp et ea eb _ => chkT n sc t et && chkE n sc a ea && chkE n sc b eb
      | _ => false)
    | .blt f es => (match e with
      | .Call (.Name x _) (a :: as) [] _ => decide (x = f.nm) && (f.own || C.mods.contains f) && glB sc x && chkEs n sc es (a :: as)
      | _ => false)
    | .isi a t => (match e with
      | .Call (.Name x _) [ea, .Name y _] [] _ => decide (x = ("isinstance" : Str)) && decide (y = Str.ofString t.nm) && glB sc x && glB sc y && chkE n sc a ea && noStar ea
      | _ => false)
    | .call f es => (match e with
      | .Call (.Name x _) as [] _ => decide ((C.T[f]?).map (·.nm) = some x) && glB sc x && chkEs n sc es as
      | _ => false)
    | .ix a i => (match e with
      | .Subscript ea ei _ => chkE n sc a ea && chkE n sc i ei && noSlice ei
      | _ => false)
    | .sl a lo hi => (match e with
      | .Subscript ea (.Slice elo ehi none _) _ => chkE n sc a ea && chkP n sc lo elo && chkP n sc hi ehi
      | _ => false)
    | .rev a => (match e with
      | .Subscript ea (.Slice none none (some (.UnaryOp .USub (.Constant (.int j) _ _) _)) _) _ => decide (j = 1) && chkE n sc a ea
      | _ => false)
    | .lst es => (match e with
      | .List as _ => chkEs n sc es as
      | _ => false)
    | .tup es => (match e with
      | .Tuple as _ _ => chkEs n sc es as
      | _ => false)
    | .comp elt tg it t own => (match e with
      | .ListComp eelt [⟨etg, eit, ifs, asy⟩] scope _ => decide (asy = 0) && blkC C.N sc scope (ownOf C.N own) && chkTg C.N scope tg etg && chkI n sc it eit (isTup etg) && noSet eit && chkIfs n (relS scope sc) t ifs && chkE n (relS scope sc) elt eelt && tg.is.all (own.contains ·)
      | _ => false)
    | .lrng a => (match e with
      | .Call (.Name x _) [.Call (.Name y _) [ea] [] _] [] _ => decide (x = ("list" : Str)) && decide (y = ("range" : Str)) && glB sc x && glB sc y && chkE n sc a ea && noStar ea
      | _ => false)
    | .fl a => chkE n sc a e
def chkEs : Nat → Scope → Es → List Expr → Bool
  | 0, _, _, _ => false
  | n + 1, sc, es, as =>
    match es with
    | .nil => (match as with
      | [] => true
      | _ => false)
    | .cons e es => (match as with
      | a :: as => chkE n sc e a && noStar a && chkEs n sc es as
      | _ => false)
/-- the rest of a row of and, or -/
def chkB : Nat → Scope → BoolOp → E → List Expr → Bool
  | 0, _, _, _, _ => false
  | n + 1, sc, op, b, es =>
    match es with
    | [e] => chkE n sc b e
    | e :: e' :: es => (match op with
      | .And => (match b with
        | .and a b => chkE n sc a e && chkB n sc op b (e' :: es)
        | _ => false)
      | .Or => (match b with
        | .or a b => chkE n sc a e && chkB n sc op b (e' :: es)
        | _ => false))
    | [] => false
def chkT : Nat → Scope → T → Expr → Bool
  | 0, _, _, _ => false
  | n + 1, sc, t, e =>
    match t with
    | .yes => false
    | .e ie => (match e with
      | .Compare _ [_] [_] _ => (match ie with
        | .cmp _ _ _ => chkE n sc ie e
        | _ => false)
      | .Compare _ [_, _] [_, _] _ => (match ie with
        | .chain _ _ _ _ _ => chkE n sc ie e
        | _ => false)
      | e => plainT e && chkE n sc ie e)
    | .not t => (match e with
      | .UnaryOp .Not a _ => chkT n sc t a
      | _ => false)
    | .and t u => (match e with
      | .BoolOp .And (a :: es) _ => chkT n sc t a && chkTB n sc .And u es
      | _ => false)
    | .or t u => (match e with
      | .BoolOp .Or (a :: es) _ => chkT n sc t a && chkTB n sc .Or u es
      | _ => false)
def chkTB : Nat → Scope → BoolOp → T → List Expr → Bool
  | 0, _, _, _, _ => false
  | n + 1, sc, op, b, es =>
    match es with
    | [e] => chkT n sc b e
    | e :: e' :: es => (match op with
      | .And => (match b with
        | .and a b => chkT n sc a e && chkTB n sc op b (e' :: es)
        | _ => false)
      | .Or => (match b with
        | .or a b => chkT n sc a e && chkTB n sc op b (e' :: es)
        | _ => false))
    | [] => false
def chkIfs : Nat → Scope → T → List Expr → Bool
  | 0, _, _, _ => false
  | n + 1, sc, t, es =>
    match es with
    | [] => (match t with
      | .yes => true
      | _ => false)
    | [e] => chkT n sc t e
    | _ => false
/-- a bound of a slice -/
def chkP : Nat → Scope → E → Option Expr → Bool
  | 0, _, _, _ => false
  | n + 1, sc, ie, o =>
    match o with
    | none => isNon ie
    | some e => !isNon ie && chkE n sc ie e
def chkI : Nat → Scope → I → Expr → Bool → Bool
  | 0, _, _, _, _ => false
  | n + 1, sc, it, e, tp =>
    match it with
    | .it ie => chkE n sc ie e && noSet e
    | .r1 a => (match e with
      | .Call (.Name x _) [ea] [] _ => decide (x = ("range" : Str)) && glB sc x && chkE n sc a ea && noStar ea
      | _ => false)
    | .r2 a b => (match e with
      | .Call (.Name x _) [ea, eb] [] _ => decide (x = ("range" : Str)) && glB sc x && chkE n sc a ea && chkE n sc b eb && noStar ea && noStar eb
      | _ => false)
    | .en a => (match e with
      | .Call (.Name x _) [ea] [] _ => tp && decide (x = ("enumerate" : Str)) && glB sc x && chkE n sc a ea && noStar ea
      | _ => false)
    | .zp a b => (match e with
      | .Call (.Name x _) [ea, eb] [] _ => tp && decide (x = ("zip" : Str)) && glB sc x && chkE n sc a ea && chkE n sc b eb && noStar ea && noStar eb
      | _ => false)
    | .rv a => (match e with
      | .Call (.Name x _) [ea] [] _ => decide (x = ("reversed" : Str)) && glB sc x && chkE n sc a ea && noStar ea
      | _ => false)
end
end
/-! ### what an expression hands on: no slot that may hold what is one's own -/
mutual
def lkE (mu : List Nat) : E → Bool
  | .var i => !mu.contains i
  | .bin _ a b => lkE mu a && lkE mu b
  | .and a b => lkE mu a && lkE mu b
  | .or a b => lkE mu a && lkE mu b
  | .ite _ a b => lkE mu a && lkE mu b
  | .blt f es => f.flat || lkEs mu es
  | .call _ es => lkEs mu es
  | .ix a _ => lkE mu a
  | .sl a _ _ => lkE mu a
  | .rev a => lkE mu a
  | .lst es => lkEs mu es
  | .tup es => lkEs mu es
  | .comp elt _ it _ _ => lkE mu elt && lkI mu it
  | _ => true
def lkEs (mu : List Nat) : Es → Bool
  | .nil => true
  | .cons e es => lkE mu e && lkEs mu es
def lkI (mu : List Nat) : I → Bool
  | .it e => lkE mu e
  | .en a => lkE mu a
  | .zp a b => lkE mu a && lkE mu b
  | .rv a => lkE mu a
  | _ => true
end
mutual
theorem lk_nil : ∀ e : E, lkE [] e = true
  | .var i => by simp [lkE]
  | .gl _ => by simp [lkE]
  | .non => by simp [lkE]
  | .bl _ => by simp [lkE]
  | .int _ => by simp [lkE]
  | .str _ => by simp [lkE]
  | .bin _ a b => by simp [lkE, lk_nil a, lk_nil b]
  | .neg _ => by simp [lkE]
  | .not _ => by simp [lkE]
  | .and a b => by simp [lkE, lk_nil a, lk_nil b]
  | .or a b => by simp [lkE, lk_nil a, lk_nil b]
  | .cmp _ _ _ => by simp [lkE]
  | .chain _ _ _ _ _ => by simp [lkE]
  | .ite _ a b => by simp [lkE, lk_nil a, lk_nil b]
  | .blt f es => by simp [lkE, lks_nil es]
  | .isi _ _ => by simp [lkE]
  | .call _ es => by simp [lkE, lks_nil es]
  | .ix a _ => by simp [lkE, lk_nil a]
  | .sl a _ _ => by simp [lkE, lk_nil a]
  | .rev a => by simp [lkE, lk_nil a]
  | .lst es => by simp [lkE, lks_nil es]
  | .tup es => by simp [lkE, lks_nil es]
  | .comp elt _ it _ _ => by simp [lkE, lk_nil elt, lkI_nil it]
  | .fl _ => by simp [lkE]
  | .lrng _ => by simp [lkE]
theorem lks_nil : ∀ es : Es, lkEs [] es = true
  | .nil => by simp [lkEs]
  | .cons e es => by simp [lkEs, lk_nil e, lks_nil es]
theorem lkI_nil : ∀ it : I, lkI [] it = true
  | .it e => by simp [lkI, lk_nil e]
  | .r1 _ => by simp [lkI]
  | .r2 _ _ => by simp [lkI]
  | .en a => by simp [lkI, lk_nil a]
  | .zp a b => by simp [lkI, lk_nil a, lk_nil b]
  | .rv a => by simp [lkI, lk_nil a]
end

/-! ### where the text stands -/
/-- a def's promise, by what c gives -/
def spC (K : PySem.W.Frag) (c : Nat → List D → Option M) (i np : Nat) : Sp := fun vs H Q _ => vs.length = np ∧ ∃ ds Hb m, Evl.Ex Hb H ∧ RpL K Hb vs ds ∧ c i ds = some m ∧ ∀ v H' Hb' oo, Got K H Hb v m H' Hb' oo → Q v H'
structure DefAt (K : PySem.W.Frag) (mg : Str → Option Value) (P : Program) (w : World) (base : Heap) (c : Nat → List D → Option M) (k i : Nat) (f : Fd) : Prop where
  ex : ∃ a fd ps, FnOk P w K mg base CX0 k a fd ps (spC K c i f.np) ∧ mg f.nm = some (.ref a) ∧ PySem.W.keepIn K (.ref a) = true ∧ Binds K fd ps []
structure Ctx (C : Ck) (c : Nat → List D → Option M) (k : Nat) (X : Cx) : Prop where
  N : X.N = C.N
  nd : X.N.Nodup
  calm : X.calm = true
  room : Room k X.A
  defs : ∀ (i : Nat) (f : Fd), C.T[i]? = some f → DefAt X.K X.mg X.prog X.w X.base c k i f
  glob : ∀ (i : Nat) (x : Str) (d : D), C.G[i]? = some (x, d) → ∃ u v, X.mg x = some u ∧ RelV v u ∧ ∀ H, Rp X.K H v d
  bis : ∀ f : Bi, f.own = true → X.mg f.nm = none
  mods : ∀ f : Bi, f ∈ C.mods → f.own = false → X.mg f.nm = some f.val
  tys : ∀ t : Ty, X.mg (Str.ofString t.nm) = none
  isi : X.mg "isinstance" = none
  rng : X.mg "range" = none
  enu : X.mg "enumerate" = none
  zip : X.mg "zip" = none
  rvd : X.mg "reversed" = none
  cl : ∀ (i : Nat) (f : Fd) (ds : List D) (m : M), C.T[i]? = some f → c i ds = some m → ds.length = f.np
end Rf

set_option Elab.async false
set_option linter.all false
set_option maxRecDepth 100000
set_option maxHeartbeats 4000000
namespace Rf
open PySem PySem.Spec PyProof.Rows L2

theorem ba {a b : Bool} (h : (a && b) = true) : a = true ∧ b = true := Bool.and_eq_true_iff.mp h
section
variable {X : Cx} {K : PySem.W.Frag} {mu : List Nat}
theorem visB_of {sc : Scope} {x : Str} (h : visB sc x = true) : Vis sc x ∧ (x == ("__debug__" : Str)) = false ∧ (x == ("__classdict__" : Str)) = false := by
  obtain ⟨h, h3⟩ := ba h
  obtain ⟨h1, h2⟩ := ba h
  refine ⟨?_, by simpa using h2, by simpa using h3⟩
  split at h1
  · exact .inl (by assumption)
  · exact .inr (.inl (by assumption))
  · exact .inr (.inr (by assumption))
  · cases h1
theorem locB_of {sc : Scope} {x : Str} (h : locB sc x = true) : Loc sc x := by
  unfold locB at h
  split at h
  · exact .inl (by assumption)
  · exact .inr (by assumption)
  · cases h
theorem glB_of {X : Cx} {x : Str} (h : glB X.env.scope x = true) : Gl X x ∧ (x == ("__debug__" : Str)) = false := by
  obtain ⟨h1, h2⟩ := ba h
  have q : X.env.scope.names.lookup x = some .globalImplicit := of_decide_eq_true h1
  exact ⟨q, by simpa using h2⟩
theorem star_of {e : Expr} (h : noStar e = true) (es : List Expr) (env : Env) : starEach (e :: es) env = (false, eval e env) :: starEach es env := by
  cases e <;> first | rfl | cases h
theorem slice_of {e : Expr} (h : noSlice e = true) : PlainIx e := fun o i => by
  cases e <;> first | rfl | cases h
theorem set_of {e : Expr} (h : noSet e = true) (op : CmpOp) : behindInMarks op e = false := by
  cases e <;> first | rfl | cases h
theorem fold_of {e : Expr} (h : noSet e = true) (env : Env) (x : Value) : foldedSetIterable e env x = pure x := by
  cases e <;> first | rfl | cases h
theorem plain_of {e : Expr} (h : plainT e = true) (env : Env) (whole : Sem Value) : isTrue e env whole = (do let v ← whole; standAt e.pos; holding [v] (truthy v)) := by
  cases e <;> first | rfl | cases h | (rename_i op _ _; cases op <;> first | rfl | cases h)

/-! ### the small steps -/
theorem tT_nil {f : Sl → Option Bool} (σ : L2.St) (H : Hp) (Q : Bool → Hp → Prop) (h : tT K mu f σ H Q) : tT K [] f σ H Q := by
  obtain ⟨S, b, Hb, hf, eb, en, q⟩ := h
  exact ⟨S, b, H, hf, .refl _, en.all, fun H' Hb' u => q H' Hb ⟨u.keep, .refl _, eb.trans u.keep, fun _ _ z => z⟩⟩
theorem tS_flat {f : Sl → Option M} (hfl : ∀ S m, f S = some m → ∃ d, m = .sh d ∧ flat d = true) (σ : L2.St) (H : Hp) (Q : VK) (h : tS K mu f σ H Q) : tS K [] f σ H Q := by
  obtain ⟨S, m, Hb, hf, eb, en, q⟩ := h
  obtain ⟨d, rfl, hd⟩ := hfl S m hf
  refine ⟨S, _, H, hf, .refl _, en.all, fun v H' Hb' oo g => ?_⟩
  have u : Up H Hb H' Hb := ⟨g.up.keep, .refl _, eb.trans g.up.keep, fun _ _ z => z⟩
  cases g.rp with
  | sh r => refine q v H' Hb [] (.sh u ?_); cases r <;> first | exact (Bool.false_ne_true hd).elim | constructor
theorem snd_var {i : Nat} {x : Str} {pos : Pos} {fv : Sl → Option M} (hfv : ∀ S, fv S = (gt S i).map fun m => .sh m.share) (hN : X.N[i]? = some x) (hv : Vis X.env.scope x) (hd : (x == ("__debug__" : Str)) = false) (hc : (x == ("__classdict__" : Str)) = false) (hl : i ∉ mu) :
    PE X (.Name x pos) (tS X.K mu fv) := (pe_var hN hv hd hc).mono fun σ H Q h => by
  obtain ⟨S, m, Hb, hf, eb, en, q⟩ := h
  rw [hfv] at hf
  obtain ⟨m', h1, rfl⟩ := omap hf
  obtain ⟨v, h2, h3, h4⟩ := en.val i m' h1
  exact ⟨v, h2, q _ _ _ _ (.sh (.refl eb) (h4 hl))⟩
theorem snd_c {e : Expr} {v : V} {d : D} (h : PE X e (tC v)) (r : ∀ H, Rp X.K H v d) : PE X e (tS X.K mu fun _ => some (.sh d)) := h.mono fun σ H Q h => by
  obtain ⟨S, m, Hb, hf, eb, en, q⟩ := h
  cases hf
  exact q _ _ _ _ (.sh (.refl eb) (r _))
theorem snd_tup {es : List Expr} {k : Nat} {pos : Pos} {f : Sl → Option (List M)} (h : PA X es (tA X.K mu f)) : PE X (.Tuple es k pos) (tS X.K mu fun S => (f S).bind fun ms => if ms.length ≤ big then some (.ot ms) else none) := (pe_tup h).mono fun σ H Q h => by
  obtain ⟨S, m, Hb, hf, eb, en, q⟩ := h
  obtain ⟨ms, h1, h2⟩ := obind hf
  split at h2
  · rename_i hl
    cases h2
    exact ⟨S, ms, Hb, h1, eb, en, fun vs H' Hb' oo g => ⟨big_le (by rw [g.rp.len]; exact hl), fun p hp => q _ _ _ _ (.ot g hp)⟩⟩
  · cases h2
theorem snd_lst {es : List Expr} {pos : Pos} {f : Sl → Option (List M)} (h : PA X es (tA X.K mu f)) : PE X (.List es pos) (tS X.K mu fun S => (f S).bind fun ms => if ms.length ≤ big then some (.ol ms) else none) := (pe_lst h).mono fun σ H Q h => by
  obtain ⟨S, m, Hb, hf, eb, en, q⟩ := h
  obtain ⟨ms, h1, h2⟩ := obind hf
  split at h2
  · rename_i hl
    cases h2
    exact ⟨S, ms, Hb, h1, eb, en, fun vs H' Hb' oo g => ⟨big_le (by rw [g.rp.len]; exact hl), fun p hp => q _ _ _ _ (.ol g hp)⟩⟩
  · cases h2
/-- arguments, given away -/
theorem tA_use {f : Sl → Option (List M)} {S : Sl} {ms : List M} {σ : L2.St} {H Hb : Hp} {R : List V → Hp → Prop} (hf : f S = some ms) (eb : Evl.Ex Hb H) (en : Env1 K mu S σ H Hb) (q : ∀ vs H' Hb', Up H Hb H' Hb' → RpL K Hb' vs (M.shares ms) → R vs H') : tA K mu f σ H R :=
  ⟨S, ms, Hb, hf, eb, en, fun vs H' Hb' oo g => by
    obtain ⟨Hc, u, _, r⟩ := g.share
    exact q vs H' Hc u r⟩
theorem tCB_of {r : List V → Hp → VK → Prop} {g : List D → Option M} {f : Sl → Option (List M)} (hr : CallD K r g) (σ : L2.St) (H : Hp) (Q : VK) (h : tS K mu (fun S => (f S).bind fun ms => g (M.shares ms)) σ H Q) : tCB r (tA K mu f) σ H Q := by
  obtain ⟨S, m, Hb, hf, eb, en, q⟩ := h
  obtain ⟨ms, h1, h2⟩ := obind hf
  exact tA_use h1 eb en fun vs H' Hb' u rl => hr H Hb vs _ m H' Hb' Q u rl h2 q
theorem tCall_of {c : Nat → List D → Option M} {i np : Nat} {f : Sl → Option (List M)} (hl : ∀ S ms m, f S = some ms → c i (M.shares ms) = some m → ms.length = np) (σ : L2.St) (H : Hp) (Q : VK) (h : tS K mu (fun S => (f S).bind fun ms => c i (M.shares ms)) σ H Q) :
    tCall (spC K c i np) [] E0 (tA K mu f) σ H Q := by
  obtain ⟨S, m, Hb, hf, eb, en, q⟩ := h
  obtain ⟨ms, h1, h2⟩ := obind hf
  refine tA_use h1 eb en fun vs H' Hb' u rl => ?_
  show spC K c i np (vs ++ []) H' Q E0
  rw [List.append_nil]
  refine ⟨by rw [rl.len, shares_len]; exact hl S ms m h1 h2, M.shares ms, Hb', m, u.sub, rl, h2, fun v H2 Hb2 oo g => q v H2 Hb2 oo ⟨u.trans g.up, g.rp, g.nd, fun p hp => ⟨(u.free (g.new p hp).1).2, (g.new p hp).2⟩⟩⟩
theorem snd_ite {et ea eb : Expr} {pos : Pos} {ft : Sl → Option Bool} {fa fb : Sl → Option M} (ht : PT X et (tT X.K mu ft)) (ha : PE X ea (tS X.K mu fa)) (hb : PE X eb (tS X.K mu fb)) :
    PE X (.IfExp et ea eb pos) (tS X.K mu fun S => (ft S).bind fun k => if k = true then fa S else fb S) := (pe_ifExp ht ha hb).mono fun σ H Q h => by
  obtain ⟨S, m, Hb, hf, eb, en, q⟩ := h
  obtain ⟨k, h1, h2⟩ := obind hf
  refine ⟨S, k, Hb, h1, eb, en, fun H' Hb' u => ?_⟩
  have go : ∀ {f : Sl → Option M}, f S = some m → tS X.K mu f σ H' Q := fun hf => ⟨S, m, Hb', hf, u.sub, en.up u, fun v H2 Hb2 oo g => q v H2 Hb2 oo ⟨u.trans g.up, g.rp, g.nd, fun p hp => ⟨(u.free (g.new p hp).1).2, (g.new p hp).2⟩⟩⟩
  cases k with
  | true => exact go (by simpa using h2)
  | false => exact go (by simpa using h2)
/-- and, or: the first answer, then perhaps the second one -/
theorem tS_then {f : Sl → Option M} {S : Sl} {m : M} {σ : L2.St} {H H' Hb Hb' : Hp} {Q : VK} (u : Up H Hb H' Hb') (en : Env1 K mu S σ H Hb) (hf : f S = some m) (q : ∀ v H' Hb' oo, Got K H Hb v m H' Hb' oo → Q v H') : tS K mu f σ H' Q :=
  ⟨S, m, Hb', hf, u.sub, en.up u, fun v H2 Hb2 oo g => q v H2 Hb2 oo ⟨u.trans g.up, g.rp, g.nd, fun p hp => ⟨(u.free (g.new p hp).1).2, (g.new p hp).2⟩⟩⟩
theorem snd_and {e : Expr} {es : List Expr} {pos : Pos} {fa fb : Sl → Option M} (ha : PE X e (tS X.K mu fa)) (hne : es ≠ []) (hb : PE X (.BoolOp .And es pos) (tS X.K mu fb)) :
    PE X (.BoolOp .And (e :: es) pos) (tS X.K mu fun S => (fa S).bind fun x => match x.share with
      | .bl k => if k = true then fb S else some (.sh (.bl false))
      | _ => none) := by
  match es, hne with
  | e' :: es, _ =>
    refine (pe_and ha hb).mono fun σ H Q h => ?_
    obtain ⟨S, m, Hb, hf, eb, en, q⟩ := h
    obtain ⟨x, h1, h2⟩ := obind hf
    refine tS_use h1 eb en fun v H' Hb' u r => ?_
    match hx : x.share, h2, r with
    | .bl k, h2, .bl _ =>
      refine ⟨k, rfl, ?_⟩
      cases k with
      | true => exact tS_then u en (by simpa using h2) q
      | false =>
        cases h2
        exact q _ _ _ _ (.sh u (.bl false))
theorem snd_or {e : Expr} {es : List Expr} {pos : Pos} {fa fb : Sl → Option M} (ha : PE X e (tS X.K mu fa)) (hne : es ≠ []) (hb : PE X (.BoolOp .Or es pos) (tS X.K mu fb)) :
    PE X (.BoolOp .Or (e :: es) pos) (tS X.K mu fun S => (fa S).bind fun x => match x.share with
      | .bl k => if k = true then some (.sh (.bl true)) else fb S
      | _ => none) := by
  match es, hne with
  | e' :: es, _ =>
    refine (pe_or ha hb).mono fun σ H Q h => ?_
    obtain ⟨S, m, Hb, hf, eb, en, q⟩ := h
    obtain ⟨x, h1, h2⟩ := obind hf
    refine tS_use h1 eb en fun v H' Hb' u r => ?_
    match hx : x.share, h2, r with
    | .bl k, h2, .bl _ =>
      refine ⟨k, rfl, ?_⟩
      cases k with
      | false => exact tS_then u en (by simpa using h2) q
      | true =>
        cases h2
        exact q _ _ _ _ (.sh u (.bl true))
/-- truth -/
theorem tru_D {H Hb : Hp} {v : V} {d : D} {k : Bool} (r : Rp K Hb v d) (e : Evl.Ex Hb H) (h : truD d = some k) : TruV K v H k := by
  cases r with
  | non => cases h; rfl
  | bl b => cases h; rfl
  | int i => cases h; rfl
  | str s =>
    simp only [truD] at h
    split at h
    · cases h; exact ⟨big_le (by assumption), rfl⟩
    · cases h
  | @lst a xs ds ha la =>
    cases h
    refine .inl ⟨xs, SqL.of (e _ _ ha), ?_⟩
    have q := la.len
    cases xs <;> cases ds <;> first | rfl | (simp at q)
  | @tup a xs ds ha la =>
    cases h
    refine .inr (.inl ⟨xs, Evl.ex_t e ha, ?_⟩)
    have q := la.len
    cases xs <;> cases ds <;> first | rfl | (simp at q)
  | scr _ => cases h
/-- not, as a value -/
theorem snd_not {e : Expr} {pos : Pos} {fa : Sl → Option M} (ha : PE X e (tS X.K mu fa)) : PE X (.UnaryOp .Not e pos) (tS X.K mu fun S => (fa S).bind fun x => (truD x.share).map fun b => .sh (.bl (!b))) := (pe_notT ha).mono fun σ H Q h => by
  obtain ⟨S, m, Hb, hf, eb, en, q⟩ := h
  obtain ⟨x, h1, h2⟩ := obind hf
  obtain ⟨b, h3, rfl⟩ := omap h2
  exact tS_use h1 eb en fun v H' Hb' u r => ⟨b, tru_D r u.sub h3, q _ _ _ _ (.sh u (.bl _))⟩
/-- a test by its value's truth -/
theorem snd_tru {e : Expr} {fa : Sl → Option M} (ha : PE X e (tS X.K mu fa)) (he : plainT e = true) : PT X e (tT X.K mu fun S => (fa S).bind fun x => truD x.share) := (pt_truth ha (plain_of he X.env)).mono fun σ H Q h => by
  obtain ⟨S, b, Hb, hf, eb, en, q⟩ := h
  obtain ⟨x, h1, h2⟩ := obind hf
  exact tS_use h1 eb en fun v H' Hb' u r => ⟨b, tru_D r u.sub h2, q _ _ u⟩
theorem neg_of {e : Expr} {pos : Pos} {fa : Sl → Option M} (ha : PE X e (tS X.K mu fa)) : PE X (.UnaryOp .USub e pos) (tS X.K mu fun S => (fa S).bind fun x => match x.share with
    | .int i => some (.sh (.int (-i)))
    | _ => none) := (pe_un un_neg ha).mono fun σ H Q h => by
  obtain ⟨S, m, Hb, hf, eb, en, q⟩ := h
  obtain ⟨x, h1, h2⟩ := obind hf
  refine tS_use h1 eb en fun v H' Hb' u r => ?_
  match hx : x.share, h2, r with
  | .int i, h2, .int _ =>
    cases h2
    exact ⟨i, rfl, q _ _ _ _ (.sh u (.int _))⟩
/-- comparisons as tests -/
theorem snd_cmpT {ea eb : Expr} {op : CmpOp} {r : R2} {pos : Pos} {fa fb : Sl → Option M} (ho : OpR X (compareOp op) r) (hr : OpD X.K r (cmpM op)) (ha : PE X ea (tS X.K mu fa)) (hb : PE X eb (tS X.K mu fb)) (hm : behindInMarks op eb = false) :
    PT X (.Compare ea [op] [eb] pos) (tT X.K mu fun S => (fa S).bind fun x => (fb S).bind fun y => cmpD op x.share y.share) := (pt_cmpR ho ha hb hm).mono fun σ H Q h => by
  obtain ⟨S, k, Hb, hf, eb', en, q⟩ := h
  obtain ⟨x, h1, hf⟩ := obind hf
  obtain ⟨y, h2, h3⟩ := obind hf
  refine tOp_of (mu := mu) (fa := fa) (fb := fb) hr σ H _ ⟨S, .sh (.bl k), Hb, ?_, eb', en, fun v H' Hb' oo g => ?_⟩
  · dsimp only
    rw [h1, Option.bind_some, h2, Option.bind_some]
    unfold cmpM
    rw [h3]
    rfl
  · cases g.rp with
    | sh r => cases r; exact ⟨k, rfl, q _ _ g.up⟩
theorem chain_of {op op' : CmpOp} {r r' : R2} {fa fb fd : Sl → Option M} (hr : OpD K r (cmpM op)) (hr' : OpD K r' (cmpM op')) (σ : L2.St) (H : Hp) (Q : VK)
    (h : tS K mu (fun S => (fa S).bind fun x => (fb S).bind fun y => (cmpD op x.share y.share).bind fun r => if r = true then (fd S).bind fun z => (cmpD op' y.share z.share).map fun r => .sh (.bl r) else some (.sh (.bl false))) σ H Q) :
    tChain r r' (tS K mu fa) (tS K mu fb) (tS K mu fd) σ H Q := by
  obtain ⟨S, m, Hb, hf, eb', en, q⟩ := h
  obtain ⟨x, h1, hf⟩ := obind hf
  obtain ⟨y, h2, hf⟩ := obind hf
  obtain ⟨k, h3, hf⟩ := obind hf
  refine tS_use h1 eb' en fun v1 H1 Hb1 u1 r1 => ?_
  refine tS_use h2 u1.sub (en.up u1) fun v2 H2 Hb2 u2 r2 => ?_
  refine hr H2 Hb2 v1 v2 x.share y.share (.sh (.bl k)) H2 Hb2 _ (.refl u2.sub) (r1.mono u2.com) r2 (by unfold cmpM; rw [h3]; rfl) fun v H3 Hb3 oo g => ?_
  have u3 := (u1.trans u2).trans g.up
  cases g.rp with
  | sh r =>
    cases r
    refine ⟨k, rfl, ?_⟩
    cases k with
    | false =>
      rw [if_neg Bool.false_ne_true] at hf
      cases hf
      rw [if_neg Bool.false_ne_true]
      exact q _ _ _ _ (.sh u3 (.bl _))
    | true =>
      rw [if_pos rfl] at hf
      obtain ⟨z, h4, h5⟩ := obind hf
      obtain ⟨k', h6, rfl⟩ := omap h5
      rw [if_pos rfl]
      refine tS_use h4 u3.sub (en.up u3) fun v4 H4 Hb4 u4 r4 => ?_
      exact hr' H Hb v2 v4 y.share z.share (.sh (.bl k')) H4 Hb4 _ (u3.trans u4) ((r2.mono g.up.com).mono u4.com) r4 (by unfold cmpM; rw [h6]; rfl) q
/-- slices -/
def bo : D → Option (Option Int)
  | .non => some none
  | .int i => some (some i)
  | _ => none
def tO (K : PySem.W.Frag) (mu : List Nat) (f : Sl → Option M) : TO := fun σ H Q => ∃ S m o Hb, f S = some m ∧ bo m.share = some o ∧ Evl.Ex Hb H ∧ Env1 K mu S σ H Hb ∧ ∀ H' Hb', Up H Hb H' Hb' → Q o H'
theorem po_non : PO X none (tO X.K mu fun _ => some (.sh .non)) := ⟨fun pins s σ H Q I h => po_none.run pins s σ H Q I (by
  obtain ⟨S, m, o, Hb, hf, ho, eb, en, q⟩ := h
  cases hf
  cases ho
  exact q H Hb (.refl eb))⟩
theorem po_e {e : Expr} {f : Sl → Option M} (h : PE X e (tS X.K [] f)) : PO X (some e) (tO X.K mu fun S => (f S).bind (nbM false)) := ⟨fun pins s σ H Q I hq => (po_some h).run pins s σ H Q I (by
  obtain ⟨S, m, o, Hb, hf, ho, eb, en, q⟩ := hq
  obtain ⟨m', h1, h2⟩ := obind hf
  unfold nbM at h2
  split at h2
  · rename_i hn
    cases h2
    refine tS_use h1 (.refl _) en.all fun v H' Hb' u r => ?_
    have u' : Up H Hb H' Hb := ⟨u.keep, .refl _, eb.trans u.keep, fun _ _ z => z⟩
    cases hm : m.share with
    | non => rw [hm] at hn; simp [isN] at hn
    | int i =>
      rw [hm] at ho r
      cases ho
      cases r
      exact ⟨i, rfl, q _ _ u'⟩
    | _ => rw [hm] at ho; cases ho
  · cases h2)⟩
theorem bnd_of {n d : Nat} {x : D} {l : Nat} (h : bnd n d x = some l) : ∃ o, bo x = some o ∧ HT.sIx n d o = l := by
  cases x with
  | non => cases h; exact ⟨none, rfl, rfl⟩
  | int i => cases h; exact ⟨some i, rfl, rfl⟩
  | _ => cases h
theorem RpL.cut {H : Hp} {vs : List V} {ds : List D} (h : RpL K H vs ds) (lo hi : Nat) : RpL K H ((vs.drop lo).take (hi - lo)) (Rf.cut ds lo hi) := (h.drop lo).take (hi - lo)
theorem snd_sl {e : Expr} {elo ehi : Option Expr} {p2 pos : Pos} {fa fl fh : Sl → Option M} (ha : PE X e (tS X.K mu fa)) (hl : PO X elo (tO X.K mu fl)) (hh : PO X ehi (tO X.K mu fh)) :
    PE X (.Subscript e (.Slice elo ehi none p2) pos) (tS X.K mu fun S => (fa S).bind fun x => (fl S).bind fun y => (fh S).bind fun z => slM x.share y.share z.share) := (pe_slice (sl_list.or sl_str) ha hl hh).mono fun σ H Q h => by
  obtain ⟨S, m, Hb, hf, eb, en, q⟩ := h
  obtain ⟨x, h1, hf⟩ := obind hf
  obtain ⟨y, h2, hf⟩ := obind hf
  obtain ⟨z, h3, h4⟩ := obind hf
  refine tS_use h1 eb en fun v H1 Hb1 u1 r1 => ?_
  match hx : x.share, h4, r1 with
  | .lst xs, h4, .lst (a := a) (xs := ws) ha' la =>
    obtain ⟨l, k1, h4⟩ := obind (show (bnd xs.length 0 y.share).bind _ = some m from h4)
    obtain ⟨u, k2, h4⟩ := obind h4
    cases h4
    obtain ⟨o1, j1, e1⟩ := bnd_of k1
    obtain ⟨o2, j2, e2⟩ := bnd_of k2
    refine ⟨S, y, o1, Hb1, h2, j1, u1.sub, en.up u1, fun H2 Hb2 u2 => ⟨S, z, o2, Hb2, h3, j2, u2.sub, (en.up u1).up u2, fun H3 Hb3 u3 => ?_⟩⟩
    refine .inl ⟨a, ws, rfl, SqL.of (u3.keep _ _ (u2.keep _ _ (u1.sub _ _ ha'))), fun p hp => q _ _ _ _ (.od ((u1.trans u2).trans u3) ?_ hp)⟩
    have hc : cutV ws o1 o2 = (ws.drop l).take (u - l) := by
      unfold cutV
      rw [la.len, e1, e2]
    rw [hc]
    exact (la.cut l u).mono (u2.com.trans u3.com)
  | .str s, h4, .str _ =>
    have h4' : (if s.length ≤ big then (bnd s.length 0 y.share).bind fun l => (bnd s.length s.length z.share).bind fun h => some (M.sh (.str ⟨(Rf.cut s.cps.toList l h).toArray⟩)) else none) = some m := h4
    split at h4'
    · rename_i hs
      obtain ⟨l, k1, h4⟩ := obind h4'
      obtain ⟨u, k2, h4⟩ := obind h4
      cases h4
      obtain ⟨o1, j1, e1⟩ := bnd_of k1
      obtain ⟨o2, j2, e2⟩ := bnd_of k2
      refine ⟨S, y, o1, Hb1, h2, j1, u1.sub, en.up u1, fun H2 Hb2 u2 => ⟨S, z, o2, Hb2, h3, j2, u2.sub, (en.up u1).up u2, fun H3 Hb3 u3 => ?_⟩⟩
      refine .inr ⟨s, rfl, big_le hs, ?_⟩
      have hc : cutS s o1 o2 = ⟨(Rf.cut s.cps.toList l u).toArray⟩ := by
        unfold cutS Rf.cut
        rw [e1, e2]
      rw [hc]
      exact q _ _ _ _ (.sh ((u1.trans u2).trans u3) (.str _))
    · cases h4'
theorem snd_rev {e : Expr} {k : Nat} {p1 p2 p3 pos : Pos} {fa : Sl → Option M} (ha : PE X e (tS X.K mu fa)) : PE X (.Subscript e (.Slice none none (some (.UnaryOp .USub (.Constant (.int 1) k p1) p2)) p3) pos) (tS X.K mu fun S => (fa S).bind fun x => (lstD x.share).map fun xs => .od xs.reverse) := (pe_revL ha).mono fun σ H Q h => by
  obtain ⟨S, m, Hb, hf, eb, en, q⟩ := h
  obtain ⟨x, h1, h2⟩ := obind hf
  obtain ⟨xs, h3, rfl⟩ := omap h2
  refine tS_use h1 eb en fun v H' Hb' u r => ?_
  rw [lstD_of h3] at r
  cases r with
  | @lst a ws ds' ha' la => exact ⟨a, ws, rfl, SqL.of (u.sub _ _ ha'), fun p hp => q _ _ _ _ (.od u la.rev hp)⟩
/-- isinstance -/
theorem isi_D {H Hb : Hp} {v : V} {d : D} {t : Ty} (r : Rp K Hb v d) (e : Evl.Ex Hb H) : ∃ T, TyX K H v (.type T) ∧ PySem.W.kitOne K (.type T) (.type t.nm) = some (isiD d t) := by
  cases r with
  | non => exact ⟨"NoneType", .base .non, kit_ty (by cases t <;> decide +kernel)⟩
  | bl b => exact ⟨"bool", .base (.bl b), kit_ty (by cases t <;> first | (show kitB "bool" _ = some true; decide +kernel) | (show kitB "bool" _ = some false; decide +kernel))⟩
  | int i => exact ⟨"int", .base (.int i), kit_ty (by cases t <;> first | (show kitB "int" _ = some true; decide +kernel) | (show kitB "int" _ = some false; decide +kernel))⟩
  | str s => exact ⟨"str", .base (.str s), kit_ty (by cases t <;> first | (show kitB "str" _ = some true; decide +kernel) | (show kitB "str" _ = some false; decide +kernel))⟩
  | @lst a xs ds ha la => exact ⟨"list", .base (.lst (e _ _ ha)), kit_ty (by cases t <;> first | (show kitB "list" _ = some true; decide +kernel) | (show kitB "list" _ = some false; decide +kernel))⟩
  | @tup a xs ds ha la =>
    refine ⟨"tuple", ?_, kit_ty (by cases t <;> first | (show kitB "tuple" _ = some true; decide +kernel) | (show kitB "tuple" _ = some false; decide +kernel))⟩
    rcases Evl.ex_t e ha with (h | ⟨o, h⟩) | ⟨o, its, n, h1, h2, _⟩
    · exact .base (.tup h)
    · exact .fTuple h
    · exact .kTuple h1 h2
  | @scr a ns ha =>
    refine ⟨"list", ?_, kit_ty (by cases t <;> first | (show kitB "list" _ = some true; decide +kernel) | (show kitB "list" _ = some false; decide +kernel))⟩
    rcases Evl.ex_l e ha with (h | ⟨o, h⟩) | ⟨o, its, n, h1, h2, _⟩
    · exact .base (.lst h)
    · exact .base (.frz h)
    · exact .kList h1 h2
theorem boot_ty (t : Ty) : bootBuiltins (Str.ofString t.nm) = some (.type t.nm) := by cases t <;> decide +kernel
theorem snd_isi {e : Expr} {p p2 pos : Pos} {t : Ty} {fa : Sl → Option M} (ha : PE X e (tS X.K mu fa)) (hs : noStar e = true) (g1 : Gl X "isinstance") (m1 : X.mg "isinstance" = none) (g2 : Gl X (Str.ofString t.nm)) (m2 : X.mg (Str.ofString t.nm) = none) :
    PE X (.Call (.Name "isinstance" p) [e, .Name (Str.ofString t.nm) p2] [] pos) (tS X.K mu fun S => (fa S).map fun x => .sh (.bl (isiD x.share t))) := by
  have hT : PE X (.Name (Str.ofString t.nm) p2) (tC (.ty t.nm)) := pe_bltn g2 m2 (boot_ty t) rfl (by cases t <;> decide) (by cases t <;> decide)
  refine (pe_callB call_isi g1 m1 (by decide +kernel) (pa_cons ha (pa_cons hT pa_nil) (star_of hs _ _)) (by decide) (by decide) (star_of hs _ _) (by rfl)).mono fun σ H Q h => ?_
  obtain ⟨S, m, Hb, hf, eb, en, q⟩ := h
  obtain ⟨x, h1, rfl⟩ := omap hf
  refine tS_use h1 eb en fun v H' Hb' u r => ?_
  obtain ⟨T, k1, k2⟩ := isi_D (t := t) r u.sub
  exact ⟨v, .ty t.nm, .type T, .type t.nm, _, rfl, .ty _, k1, k2, q _ _ _ _ (.sh u (.bl _))⟩
theorem boot_bi (f : Bi) (h : f.own = true) : bootBuiltins f.nm = some f.val := by cases f <;> first | decide +kernel | cases h
theorem snd_blt {a : Expr} {as : List Expr} {f : Bi} {p pos : Pos} {r : List V → Hp → VK → Prop} {fs : Sl → Option (List M)} (hr : CallR X f.val r) (hd : CallD X.K r (bltM f)) (g : Gl X f.nm) (m : (f.own = true ∧ X.mg f.nm = none) ∨ (f.own = false ∧ X.mg f.nm = some f.val)) (ha : PA X (a :: as) (tA X.K mu fs))
    (hs : starEach (a :: as) X.env = (false, eval a X.env) :: starEach as X.env) (hp : (backTo pos (starEach as X.env)).any (·.1) = false) : PE X (.Call (.Name f.nm p) (a :: as) [] pos) (tS X.K mu fun S => (fs S).bind fun ms => bltM f (M.shares ms)) := by
  suffices h : PE X (.Call (.Name f.nm p) (a :: as) [] pos) (tCB r (tA X.K mu fs)) from h.mono (tCB_of hd)
  rcases m with ⟨ho, m⟩ | ⟨ho, m⟩
  · have hv := boot_bi f ho
    cases f with
    | int => exact pe_callTy hr g m hv ha (by decide) (by decide) hs hp
    | list => exact pe_callTy hr g m hv ha (by decide) (by decide) hs hp
    | tuple => exact pe_callTy hr g m hv ha (by decide) (by decide) hs hp
    | gcd => cases ho
    | _ => exact pe_callB hr g m hv ha (by decide) (by decide) hs hp
  · cases f with
    | gcd => exact pe_callBfun hr g m ha (by decide) hs hp
    | _ => cases ho
/-- no star among the arguments -/
theorem any_star : ∀ {n : Nat} {C : Ck} {sc : Scope} {es : Es} {as : List Expr} (env : Env), chkEs C n sc es as = true → (starEach as env).any (·.1) = false
  | 0, _, _, _, _, _, h => by simp [chkEs] at h
  | n + 1, C, sc, .nil, [], _, _ => rfl
  | n + 1, C, sc, .nil, _ :: _, _, h => by simp [chkEs] at h
  | n + 1, C, sc, .cons _ _, [], _, h => by simp [chkEs] at h
  | n + 1, C, sc, .cons e es, a :: as, env, h => by
    simp only [chkEs, Bool.and_eq_true] at h
    rw [star_of h.1.2, List.any_cons, any_star env h.2]
    rfl
theorem any_back {pos : Pos} (ts : List (Bool × Sem Value)) : (backTo pos ts).any (·.1) = ts.any (·.1) := by
  unfold backTo
  rw [List.any_map]
  rfl
end
end Rf

set_option Elab.async false
set_option linter.all false
set_option maxRecDepth 100000
set_option maxHeartbeats 4000000
namespace Rf
open PySem PySem.Spec PyProof.Rows L2

theorem Ctx.blk {C : Ck} {c : Nat → List D → Option M} {k : Nat} {X : Cx} (h : Ctx C c k X) (s : Shared) (H : Hp) (scope : Scope) (cl : List (Str × Addr)) (a : Addr) (fp : List Addr) : Ctx C c k (X.blk s H scope (compEnvC scope cl a X.env) fp) :=
  ⟨h.N, h.nd, h.calm, h.room, h.defs, h.glob, h.bis, h.mods, h.tys, h.isi, h.rng, h.enu, h.zip, h.rvd, h.cl⟩
/-- what is stored to: the names of sc that are one's own -/
def TgOk (X : Cx) (sc : Scope) : Prop := ∀ x, locB sc x = true → Loc X.env.scope x ∧ (X.fn x = true ∨ X.env.scope.names.lookup x = some .local)
theorem TgOk.blk {X : Cx} (s : Shared) (H : Hp) (scope : Scope) (cl : List (Str × Addr)) (a : Addr) (fp : List Addr) : TgOk (X.blk s H scope (compEnvC scope cl a X.env) fp) scope := fun x h => by
  have e : (X.blk s H scope (compEnvC scope cl a X.env) fp).env.scope = relS scope X.env.scope := rfl
  rw [e]
  rcases locB_of h with q | q
  · have q' : (relS scope X.env.scope).names.lookup x = some .local := lookup_relS_keep (by decide) q
    exact ⟨.inl q', .inr q'⟩
  · have q' : (relS scope X.env.scope).names.lookup x = some .cell := lookup_relS_keep (by decide) q
    refine ⟨.inr q', .inl ?_⟩
    show (scope.names.lookup x == some .cell) = true
    rw [q]
    rfl
theorem names_ok {C : Ck} {c : Nat → List D → Option M} {k : Nat} {X : Cx} {sc : Scope} (h : Ctx C c k X) (to : TgOk X sc) : ∀ {is : List Nat} {es : List Expr}, chkNames C.N sc is es = true →
    PGs X es (gTs is) ∧ (assignEach es X.env).length = is.length ∧ (assignEach es X.env).findIdx? (·.1) = none
  | [], [], _ => ⟨pgs_nil, rfl, rfl⟩
  | i :: is, .Name x p :: es, q => by
    simp only [chkNames, Bool.and_eq_true] at q
    obtain ⟨⟨q1, q2⟩, q3⟩ := q
    obtain ⟨g1, g2, g3⟩ := names_ok h to q3
    obtain ⟨hl, hf⟩ := to x q2
    have e : assignEach (.Name x p :: es) X.env = (false, assign (.Name x p) X.env) :: assignEach es X.env := rfl
    refine ⟨pgs_cons (pg_name h.nd (by rw [h.N]; exact of_decide_eq_true q1) hl hf) g1 rfl, by rw [e, List.length_cons, g2, List.length_cons], ?_⟩
    rw [e, List.findIdx?_cons]
    simp only [Bool.false_eq_true, if_false, g3]
    rfl
  | [], _ :: _, q => by simp [chkNames] at q
  | _ :: _, [], q => by simp [chkNames] at q
  | _ :: _, .BoolOp .. :: _, q | _ :: _, .NamedExpr .. :: _, q | _ :: _, .BinOp .. :: _, q | _ :: _, .UnaryOp .. :: _, q | _ :: _, .Lambda .. :: _, q | _ :: _, .IfExp .. :: _, q | _ :: _, .Dict .. :: _, q | _ :: _, .Set .. :: _, q
  | _ :: _, .ListComp .. :: _, q | _ :: _, .SetComp .. :: _, q | _ :: _, .DictComp .. :: _, q | _ :: _, .GeneratorExp .. :: _, q | _ :: _, .Await .. :: _, q | _ :: _, .Yield .. :: _, q | _ :: _, .YieldFrom .. :: _, q | _ :: _, .Compare .. :: _, q
  | _ :: _, .Call .. :: _, q | _ :: _, .FormattedValue .. :: _, q | _ :: _, .JoinedStr .. :: _, q | _ :: _, .Constant .. :: _, q | _ :: _, .Attribute .. :: _, q | _ :: _, .Subscript .. :: _, q | _ :: _, .Starred .. :: _, q
  | _ :: _, .List .. :: _, q | _ :: _, .Tuple .. :: _, q | _ :: _, .Slice .. :: _, q => by simp [chkNames] at q
theorem tg_ok {C : Ck} {c : Nat → List D → Option M} {k : Nat} {X : Cx} {sc : Scope} (h : Ctx C c k X) (to : TgOk X sc) {tg : Tg} {e : Expr} (q : chkTg C.N sc tg e = true) : PG X e (gT X.K tg) := by
  cases tg with
  | nm i =>
    cases e <;> try (simp [chkTg] at q; done)
    rename_i x p
    simp only [chkTg, Bool.and_eq_true] at q
    obtain ⟨hl, hf⟩ := to x q.2
    exact pg_name h.nd (by rw [h.N]; exact of_decide_eq_true q.1) hl hf
  | tp is =>
    cases e <;> try (simp [chkTg] at q; done)
    rename_i es kk p
    obtain ⟨g1, g2, g3⟩ := names_ok h to (show chkNames C.N sc is es = true from q)
    exact pg_tup h.calm g1 g2 g3
/-- what the induction shows -/
structure Snd (C : Ck) (c : Nat → List D → Option M) (k n : Nat) : Prop where
  e : ∀ sc ie e mu, chkE C n sc ie e = true → lkE mu ie = true → ∀ X, Ctx C c k X → X.env.scope = sc → PE X e (tS X.K mu (ev c C.G ie))
  es : ∀ sc es as mu, chkEs C n sc es as = true → lkEs mu es = true → ∀ X, Ctx C c k X → X.env.scope = sc → PA X as (tA X.K mu (evs c C.G es))
  b : ∀ sc op b es mu, chkB C n sc op b es = true → lkE mu b = true → ∀ X, Ctx C c k X → X.env.scope = sc → es ≠ [] ∧ ∀ pos, PE X (.BoolOp op es pos) (tS X.K mu (ev c C.G b))
  t : ∀ sc t e mu, chkT C n sc t e = true → ∀ X, Ctx C c k X → X.env.scope = sc → PT X e (tT X.K mu (evT c C.G t))
  tb : ∀ sc op b es mu, chkTB C n sc op b es = true → ∀ X, Ctx C c k X → X.env.scope = sc → es ≠ [] ∧ ∀ pos, PW X (.BoolOp op es pos) (tT X.K mu (evT c C.G b))
  ifs : ∀ sc t es mu, chkIfs C n sc t es = true → ∀ X, Ctx C c k X → X.env.scope = sc → PTs X es (tT X.K mu (evT c C.G t))
  p : ∀ sc ie o mu, chkP C n sc ie o = true → ∀ X, Ctx C c k X → X.env.scope = sc → PO X o (tO X.K mu fun S => (ev c C.G ie S).bind (nbM (isNon ie)))
  i : ∀ sc it e tp mu, chkI C n sc it e tp = true → lkI mu it = true → ∀ X tg, Ctx C c k X → X.env.scope = sc → isTup tg = tp → PI X tg e (tI X.K mu (evI c C.G it))
section
variable {C : Ck} {c : Nat → List D → Option M} {k : Nat}
theorem PE.cast {X : Cx} {e : Expr} {mu : List Nat} {f g : Sl → Option M} (h : PE X e (tS X.K mu f)) (q : ∀ S, g S = f S) : PE X e (tS X.K mu g) := by
  have : g = f := funext q
  rw [this]; exact h
theorem PT.cast {X : Cx} {e : Expr} {mu : List Nat} {f g : Sl → Option Bool} (h : PT X e (tT X.K mu f)) (q : ∀ S, g S = f S) : PT X e (tT X.K mu g) := by
  have : g = f := funext q
  rw [this]; exact h
theorem es_star {n : Nat} {sc : Scope} {es : Es} {a : Expr} {as : List Expr} (env : Env) (h : chkEs C n sc es (a :: as) = true) : noStar a = true ∧ (starEach as env).any (·.1) = false := by
  cases n with
  | zero => simp [chkEs] at h
  | succ n =>
    cases es with
    | nil => simp [chkEs] at h
    | cons e0 es0 =>
      simp only [chkEs, Bool.and_eq_true] at h
      exact ⟨h.1.2, any_star env h.2⟩
theorem snd_fl {X : Cx} {e : Expr} {mu : List Nat} {f : Sl → Option M} (h : PE X e (tS X.K [] f)) : PE X e (tS X.K mu fun S => (f S).bind fun x => if flat x.share = true then some (.sh x.share) else none) := h.mono fun σ H Q hq => by
  obtain ⟨S, m, Hb, hf, eb, en, q⟩ := hq
  obtain ⟨x, h1, h2⟩ := obind hf
  split at h2
  · rename_i hx
    cases h2
    refine tS_use h1 (.refl _) en.all fun v H' Hb' u r => ?_
    have u' : Up H Hb H' Hb := ⟨u.keep, .refl _, eb.trans u.keep, fun _ _ z => z⟩
    refine q v H' Hb [] (.sh u' ?_)
    cases hy : x.share <;> rw [hy] at hx r <;> first | exact (Bool.false_ne_true hx).elim | (cases r; constructor)
  · cases h2
theorem snd_lrng {X : Cx} {a : Expr} {p p2 pos pos2 : Pos} {mu : List Nat} {f : Sl → Option M} (hc : X.calm = true) (hg : Gl X "list") (hm : X.mg "list" = none) (hg2 : Gl X "range") (hm2 : X.mg "range" = none) (ha : PE X a (tS X.K [] f)) (hs : starEach [a] X.env = (false, eval a X.env) :: starEach [] X.env) :
    PE X (.Call (.Name "list" p) [.Call (.Name "range" p2) [a] [] pos2] [] pos) (tS X.K mu fun S => (f S).bind fun x => match x.share with
      | .int n => if -(big : Int) ≤ n ∧ n ≤ (big : Int) then some (.od (rngD 0 n)) else none
      | _ => none) := (pe_listRg hc hg hm (prg_1 hg2 hm2 ha hs)).mono fun σ H Q h => by
  obtain ⟨S, m, Hb, hf, eb, en, q⟩ := h
  obtain ⟨x, h1, h2⟩ := obind hf
  refine tS_use h1 (.refl _) en.all fun v H' Hc' u0 r => ?_
  have u : Up H Hb H' Hb := ⟨u0.keep, .refl _, eb.trans u0.keep, fun _ _ z => z⟩
  have hb : (big : Int) = 1000000 := rfl
  match hm : x.share, h2, r with
  | .int n, h2, .int _ =>
    simp only at h2
    split at h2
    · cases h2
      refine ⟨n, rfl, ⟨by omega, by omega, by omega, by omega, by omega⟩, fun q0 hq => q _ _ _ _ (Got.od u ?_ hq)⟩
      unfold rngD rgV
      have : ∀ l : List Nat, RpL X.K Hb (l.map fun (i : Nat) => V.int (0 + (i : Int))) (l.map fun (i : Nat) => D.int (0 + (i : Int))) := by
        intro l
        induction l with
        | nil => exact .nil
        | cons i l ih => exact .cons (.int _) ih
      exact this _
    · cases h2
theorem hu_room {A : Around} (r : Room k A) : A.units + 102 < cLine := by have := r.un; omega
theorem snd_e (n : Nat) (ih : Snd C c k n) : ∀ sc ie e mu, chkE C (n + 1) sc ie e = true → lkE mu ie = true → ∀ X, Ctx C c k X → X.env.scope = sc → PE X e (tS X.K mu (ev c C.G ie)) := by
  intro sc ie e mu h lk X cx hsc
  subst hsc
  cases ie with
  | var i =>
    simp only [chkE] at h
    split at h
    · obtain ⟨h1, h2⟩ := ba h
      obtain ⟨v1, v2, v3⟩ := visB_of h2
      refine snd_var (fun S => by rw [ev]) (by rw [cx.N]; exact of_decide_eq_true h1) v1 v2 v3 ?_
      simpa [lkE] using lk
    · cases h
  | gl g =>
    simp only [chkE] at h
    split at h
    · obtain ⟨h1, h2⟩ := ba h
      obtain ⟨g1, g2⟩ := glB_of h2
      have h3 := of_decide_eq_true h1
      obtain ⟨⟨y, d⟩, h4, h5⟩ := omap h3
      obtain ⟨u, v, h6, h7, h8⟩ := cx.glob g y d h4
      have h5' : y = _ := h5
      rw [h5'] at h6
      exact PE.cast (snd_c (pe_glob g1 h6 h7 g2) h8) fun S => by rw [ev, h4]; rfl
    · cases h
  | non =>
    simp only [chkE] at h
    split at h
    · exact PE.cast (snd_c pe_non fun _ => .non) fun S => by rw [ev]
    · cases h
  | bl b =>
    simp only [chkE] at h
    split at h
    · have hb := eq_of_beq h
      subst hb
      exact PE.cast (snd_c pe_bl fun _ => .bl _) fun S => by rw [ev]
    · cases h
  | int i =>
    simp only [chkE] at h
    split at h
    · have hb := of_decide_eq_true h
      subst hb
      exact PE.cast (snd_c pe_int fun _ => .int _) fun S => by rw [ev]
    · cases h
  | str s =>
    simp only [chkE] at h
    split at h
    · have hb := of_decide_eq_true h
      subst hb
      exact PE.cast (snd_c pe_str fun _ => .str _) fun S => by rw [ev]
    · cases h
  | bin op a b =>
    simp only [chkE] at h
    split at h
    · simp only [Bool.and_eq_true] at h
      obtain ⟨⟨h1, h2⟩, h3⟩ := h
      have ho := of_decide_eq_true h1
      subst ho
      simp only [lkE, Bool.and_eq_true] at lk
      obtain ⟨r, o1, o2⟩ := op_bin (X := X) op
      exact PE.cast (pe_binS o1 o2 (ih.e _ _ _ mu h2 lk.1 X cx rfl) (ih.e _ _ _ mu h3 lk.2 X cx rfl)) fun S => by rw [ev]
    · cases h
  | neg a =>
    simp only [chkE] at h
    split at h
    · refine PE.cast ((neg_of (ih.e _ _ _ [] h (lk_nil _) X cx rfl)).mono (tS_flat (mu := mu) fun S m hm => ?_)) fun S => by rw [ev] <;> rfl
      obtain ⟨x, _, h2⟩ := obind hm
      split at h2
      · cases h2; exact ⟨_, rfl, rfl⟩
      · cases h2
    · cases h
  | not a =>
    simp only [chkE] at h
    split at h
    · refine PE.cast ((snd_not (ih.e _ _ _ [] h (lk_nil _) X cx rfl)).mono (tS_flat (mu := mu) fun S m hm => ?_)) fun S => by rw [ev]
      obtain ⟨x, _, h2⟩ := obind hm
      obtain ⟨y, _, rfl⟩ := omap h2
      exact ⟨_, rfl, rfl⟩
    · cases h
  | and a b =>
    simp only [chkE] at h
    split at h
    · obtain ⟨h1, h2⟩ := ba h
      simp only [lkE, Bool.and_eq_true] at lk
      obtain ⟨ne, q⟩ := ih.b _ _ _ _ mu h2 lk.2 X cx rfl
      exact PE.cast (snd_and (ih.e _ _ _ mu h1 lk.1 X cx rfl) ne (q _)) fun S => by rw [ev] <;> rfl
    · cases h
  | or a b =>
    simp only [chkE] at h
    split at h
    · obtain ⟨h1, h2⟩ := ba h
      simp only [lkE, Bool.and_eq_true] at lk
      obtain ⟨ne, q⟩ := ih.b _ _ _ _ mu h2 lk.2 X cx rfl
      exact PE.cast (snd_or (ih.e _ _ _ mu h1 lk.1 X cx rfl) ne (q _)) fun S => by rw [ev] <;> rfl
    · cases h
  | cmp op a b =>
    simp only [chkE] at h
    split at h
    · simp only [Bool.and_eq_true] at h
      obtain ⟨⟨⟨h1, h2⟩, h3⟩, h4⟩ := h
      have ho := of_decide_eq_true h1
      subst ho
      obtain ⟨r, o1, o2⟩ := op_cmp (X := X) (by have := hu_room cx.room; omega) op
      refine PE.cast ((pe_cmpS o1 o2 (ih.e _ _ _ [] h2 (lk_nil _) X cx rfl) (ih.e _ _ _ [] h3 (lk_nil _) X cx rfl) (set_of h4 op)).mono (tS_flat (mu := mu) fun S m hm => ?_)) fun S => by rw [ev] <;> rfl
      obtain ⟨x, _, hm⟩ := obind hm
      obtain ⟨y, _, hm⟩ := obind hm
      obtain ⟨z, _, rfl⟩ := omap hm
      exact ⟨_, rfl, rfl⟩
    · cases h
  | chain op1 op2 a b d =>
    simp only [chkE] at h
    split at h
    · simp only [Bool.and_eq_true] at h
      obtain ⟨⟨⟨⟨⟨⟨h1, h2⟩, h3⟩, h4⟩, h5⟩, h6⟩, h7⟩ := h
      have ho := of_decide_eq_true h1
      have ho' := of_decide_eq_true h2
      subst ho ho'
      obtain ⟨r, o1, o2⟩ := op_cmp (X := X) (by have := hu_room cx.room; omega) op1
      obtain ⟨r', p1, p2⟩ := op_cmp (X := X) (by have := hu_room cx.room; omega) op2
      refine PE.cast (((pe_chain o1 p1 (ih.e _ _ _ [] h3 (lk_nil _) X cx rfl) (ih.e _ _ _ [] h4 (lk_nil _) X cx rfl) (ih.e _ _ _ [] h5 (lk_nil _) X cx rfl) (set_of h7 op2)).mono (chain_of (mu := []) o2 p2)).mono (tS_flat (mu := mu) fun S m hm => ?_)) fun S => by rw [ev]
      obtain ⟨x, _, hm⟩ := obind hm
      obtain ⟨y, _, hm⟩ := obind hm
      obtain ⟨z, _, hm⟩ := obind hm
      split at hm
      · obtain ⟨w, _, hm⟩ := obind hm
        obtain ⟨w', _, rfl⟩ := omap hm
        exact ⟨_, rfl, rfl⟩
      · cases hm; exact ⟨_, rfl, rfl⟩
    · cases h
  | ite t a b =>
    simp only [chkE] at h
    split at h
    · simp only [Bool.and_eq_true] at h
      obtain ⟨⟨h1, h2⟩, h3⟩ := h
      simp only [lkE, Bool.and_eq_true] at lk
      exact PE.cast (snd_ite (ih.t _ _ _ mu h1 X cx rfl) (ih.e _ _ _ mu h2 lk.1 X cx rfl) (ih.e _ _ _ mu h3 lk.2 X cx rfl)) fun S => by rw [ev]
    · cases h
  | blt f es =>
    simp only [chkE] at h
    split at h
    · simp only [Bool.and_eq_true] at h
      obtain ⟨⟨⟨h1, h2⟩, h3⟩, h4⟩ := h
      have hx := of_decide_eq_true h1
      subst hx
      obtain ⟨g1, g2⟩ := glB_of h3
      obtain ⟨r, o1, o2⟩ := cr_blt (X := X) cx.calm (hu_room cx.room) f
      have hm : (f.own = true ∧ X.mg f.nm = none) ∨ (f.own = false ∧ X.mg f.nm = some f.val) := by
        cases ho : f.own with
        | true => exact .inl ⟨rfl, cx.bis f ho⟩
        | false =>
          rw [ho, Bool.false_or] at h2
          exact .inr ⟨rfl, cx.mods f (by simpa using h2) ho⟩
      have hn := es_star X.env h4
      rename_i p0 a0 as0 pos0
      have go : ∀ mu, lkEs mu es = true → PE X (.Call (.Name f.nm p0) (a0 :: as0) [] pos0) (tS X.K mu fun S => (evs c C.G es S).bind fun ms => bltM f (M.shares ms)) := fun mu lk =>
        snd_blt o1 o2 g1 hm (ih.es _ _ _ mu h4 lk X cx rfl) (star_of hn.1 _ _) (by rw [any_back]; exact hn.2)
      cases hf : f.flat with
      | false =>
        have lk' : lkEs mu es = true := by
          simp only [lkE, hf, Bool.false_or] at lk
          exact lk
        exact PE.cast (go mu lk') fun S => by rw [ev]
      | true =>
        refine PE.cast ((go [] (lks_nil _)).mono (tS_flat (mu := mu) fun S m hm => ?_)) fun S => by rw [ev]
        obtain ⟨ms, _, hm⟩ := obind hm
        cases f <;> first | cases hf | skip
        all_goals
          simp only [bltM] at hm
          split at hm
          all_goals first
            | (cases hm; exact ⟨_, rfl, rfl⟩)
            | (split at hm <;> first | (cases hm; exact ⟨_, rfl, rfl⟩) | cases hm)
            | (obtain ⟨_, _, rfl⟩ := omap hm; exact ⟨_, rfl, rfl⟩)
            | cases hm
    · cases h
  | isi a t =>
    simp only [chkE] at h
    split at h
    · simp only [Bool.and_eq_true] at h
      obtain ⟨⟨⟨⟨⟨h1, h2⟩, h3⟩, h4⟩, h5⟩, h6⟩ := h
      have hx := of_decide_eq_true h1
      have hy := of_decide_eq_true h2
      subst hx hy
      refine PE.cast ((snd_isi (ih.e _ _ _ [] h5 (lk_nil _) X cx rfl) h6 (glB_of h3).1 cx.isi (glB_of h4).1 (cx.tys t)).mono (tS_flat (mu := mu) fun S m hm => ?_)) fun S => by rw [ev]
      obtain ⟨_, _, rfl⟩ := omap hm
      exact ⟨_, rfl, rfl⟩
    · cases h
  | call f es =>
    simp only [chkE] at h
    split at h
    · rename_i x p as pos
      simp only [Bool.and_eq_true] at h
      obtain ⟨⟨h1, h2⟩, h3⟩ := h
      obtain ⟨fd, h4, h5⟩ := omap (of_decide_eq_true h1)
      subst h5
      obtain ⟨a, fdd, ps, F, m1, m2, m3⟩ := (cx.defs f fd h4).ex
      obtain ⟨g1, g2⟩ := glB_of h2
      have lk' : lkEs mu es = true := by simpa [lkE] using lk
      have pa := ih.es _ _ _ mu h3 lk' X cx rfl
      have hlen : ∀ S ms m, evs c C.G es S = some ms → c f (M.shares ms) = some m → ms.length = fd.np := fun S ms m _ hc => by
        have := cx.cl f fd _ m h4 hc
        rw [shares_len] at this
        exact this
      refine PE.cast (PE.mono ?_ (tCall_of (mu := mu) (f := evs c C.G es) hlen)) fun S => by rw [ev]
      cases as with
      | nil =>
        have e0 : tA X.K mu (evs c C.G es) = tA X.K mu (evs c C.G es) := rfl
        refine (pe_call0 F cx.room g1 m1 m2 m3 .nil pass0 g2).mono fun σ H Q hq => ?_
        -- no arguments: the row of values is empty
        have hes : es = .nil := by
          cases n with
          | zero => simp [chkEs] at h3
          | succ n => cases es with
            | nil => rfl
            | cons e0 es0 => simp [chkEs] at h3
        subst hes
        obtain ⟨S, ms, Hb, k1, k2, k3, k4⟩ := hq
        rw [evs] at k1
        cases k1
        exact k4 [] H Hb [] (.nil (.refl k2))
      | cons a0 as0 =>
        have hn := es_star X.env h3
        exact pe_call F cx.room g1 m1 m2 m3 .nil pass0 pa g2 (star_of hn.1 _ _) (by rw [any_back]; exact hn.2)
    · cases h
  | ix a i =>
    simp only [chkE] at h
    split at h
    · simp only [Bool.and_eq_true] at h
      obtain ⟨⟨h1, h2⟩, h3⟩ := h
      have lk' : lkE mu a = true := by simpa [lkE] using lk
      refine PE.cast ((pe_ix ix_seq (ih.e _ _ _ mu h1 lk' X cx rfl) (ih.e _ _ _ [] h2 (lk_nil _) X cx rfl) (slice_of h3)).mono fun σ H Q hq => ?_) fun S => by rw [ev]
      obtain ⟨S, m, Hb, hf, eb, en, q⟩ := hq
      obtain ⟨x, k1, hf⟩ := obind hf
      obtain ⟨y, k2, hf⟩ := obind hf
      refine tS_use k1 eb en fun v1 H1 Hb1 u1 r1 => ?_
      refine tS_use k2 (.refl _) (en.up u1).all fun v2 H2 Hb2 u2 r2 => ?_
      -- the place is a number
      obtain ⟨d, k3, rfl⟩ := omap hf
      obtain ⟨j, hj⟩ : ∃ j, y.share = .int j := by
        cases hy : y.share with
        | int j => exact ⟨j, rfl⟩
        | _ => rw [hy] at k3; cases x.share <;> cases k3
      rw [hj] at r2
      cases r2
      have u3 : Up H Hb H2 Hb1 := ⟨u1.keep.trans u2.keep, u1.com, u1.sub.trans u2.keep, u1.apart⟩
      exact op_ixA H Hb v1 (.int j) x.share (.int j) (.sh d) H2 Hb1 Q u3 r1 (.int j) (by unfold ixM; rw [← hj, k3]; rfl) q
    · cases h
  | sl a lo hi =>
    simp only [chkE] at h
    split at h
    · simp only [Bool.and_eq_true] at h
      obtain ⟨⟨h1, h2⟩, h3⟩ := h
      exact PE.cast (snd_sl (ih.e _ _ _ mu h1 (by simpa [lkE] using lk) X cx rfl) (ih.p _ _ _ mu h2 X cx rfl) (ih.p _ _ _ mu h3 X cx rfl)) fun S => by rw [ev]
    · cases h
  | rev a =>
    simp only [chkE] at h
    split at h
    · obtain ⟨h1, h2⟩ := ba h
      have hj := of_decide_eq_true h1
      subst hj
      exact PE.cast (snd_rev (ih.e _ _ _ mu h2 (by simpa [lkE] using lk) X cx rfl)) fun S => by rw [ev]
    · cases h
  | lst es =>
    simp only [chkE] at h
    split at h
    · exact PE.cast (snd_lst (ih.es _ _ _ mu h (by simpa [lkE] using lk) X cx rfl)) fun S => by rw [ev]
    · cases h
  | tup es =>
    simp only [chkE] at h
    split at h
    · exact PE.cast (snd_tup (ih.es _ _ _ mu h (by simpa [lkE] using lk) X cx rfl)) fun S => by rw [ev]
    · cases h
  | comp elt tg it t own =>
    simp only [chkE] at h
    split at h
    · simp only [Bool.and_eq_true] at h
      obtain ⟨⟨⟨⟨⟨⟨⟨h1, h2⟩, h3⟩, h4⟩, h8⟩, h5⟩, h6⟩, h7⟩ := h
      have ha := of_decide_eq_true h1
      subst ha
      simp only [lkE, Bool.and_eq_true] at lk
      have ho : ∀ i ∈ tg.is, i ∈ own := fun i hi => by
        have := List.all_eq_true.mp h7 i hi
        simpa using this
      have hmap : (ownOf C.N own).map (·.2) = own := by
        unfold ownOf
        rw [List.map_map]
        exact List.map_id' own
      have q : ∀ pos, PE X (.ListComp _ [⟨_, _, _, 0⟩] _ pos) _ := fun pos => pe_lc (pos := pos) (te := tS X.K mu (ev c C.G elt)) (tt := tT X.K mu (evT c C.G t)) (g := gT X.K tg) cx.calm cx.nd (ih.i _ _ _ _ mu h4 lk.2 X _ cx rfl rfl) (by rw [cx.N]; exact blkOk_by h2)
        (fun s H a cl fp => tg_ok (cx.blk s H _ cl a fp) (TgOk.blk s H _ cl a fp) h3) (fun s H a cl fp => ih.ifs _ _ _ mu h5 _ (cx.blk s H _ cl a fp) rfl) (fun s H a cl fp => ih.e _ _ _ mu h6 lk.1 _ (cx.blk s H _ cl a fp) rfl)
        (fold_of h8 X.env)
      rw [hmap] at q
      exact PE.cast ((q _).mono (lc_of ho)) fun S => by rw [ev]
    · cases h
  | lrng a =>
    simp only [chkE] at h
    split at h
    · simp only [Bool.and_eq_true, decide_eq_true_eq] at h
      obtain ⟨⟨⟨⟨⟨h1, h2⟩, h3⟩, h4⟩, h5⟩, h6⟩ := h
      subst h1 h2
      exact PE.cast (snd_lrng cx.calm (glB_of h3).1 (cx.bis .list rfl) (glB_of h4).1 cx.rng (ih.e _ _ _ [] h5 (lk_nil _) X cx rfl) (star_of h6 _ _)) fun S => by rw [ev] <;> rfl
    · cases h
  | fl a =>
    simp only [chkE] at h
    exact PE.cast (snd_fl (ih.e _ _ _ [] h (lk_nil _) X cx rfl)) fun S => by rw [ev]
theorem PI.cast {X : Cx} {tg e : Expr} {mu : List Nat} {f g : Sl → Option (List D)} (h : PI X tg e (tI X.K mu f)) (q : ∀ S, g S = f S) : PI X tg e (tI X.K mu g) := by
  have : g = f := funext q
  rw [this]
  exact h
theorem pw_andS {X : Cx} {e : Expr} {es : List Expr} {pos : Pos} {mu : List Nat} {ft : T} {fu : T} (ha : PT X e (tT X.K mu (evT c C.G ft))) (hne : es ≠ []) (hb : PW X (.BoolOp .And es pos) (tT X.K mu (evT c C.G fu))) : PW X (.BoolOp .And (e :: es) pos) (tT X.K mu (evT c C.G (.and ft fu))) := by
  match es, hne with
  | e' :: es, _ =>
    have q := pw_and ha hb
    refine ⟨fun wh pins s σ H Q I hq => q.run wh pins s σ H Q I ?_⟩
    obtain ⟨S, b, Hb, hf, eb, en, q⟩ := hq
    rw [evT] at hf
    obtain ⟨b', h1, h2⟩ := obind hf
    refine ⟨S, b', Hb, h1, eb, en, fun H' Hb' u => ?_⟩
    cases b' with
    | true =>
      rw [if_pos rfl] at h2
      rw [if_pos rfl]
      exact ⟨S, b, Hb', h2, u.sub, en.up u, fun H2 Hb2 u2 => q H2 Hb2 (u.trans u2)⟩
    | false =>
      cases h2
      rw [if_neg Bool.false_ne_true]
      exact q H' Hb' u
theorem pw_orS {X : Cx} {e : Expr} {es : List Expr} {pos : Pos} {mu : List Nat} {ft : T} {fu : T} (ha : PT X e (tT X.K mu (evT c C.G ft))) (hne : es ≠ []) (hb : PW X (.BoolOp .Or es pos) (tT X.K mu (evT c C.G fu))) : PW X (.BoolOp .Or (e :: es) pos) (tT X.K mu (evT c C.G (.or ft fu))) := by
  match es, hne with
  | e' :: es, _ =>
    have q := pw_or ha hb
    refine ⟨fun wh pins s σ H Q I hq => q.run wh pins s σ H Q I ?_⟩
    obtain ⟨S, b, Hb, hf, eb, en, q⟩ := hq
    rw [evT] at hf
    obtain ⟨b', h1, h2⟩ := obind hf
    refine ⟨S, b', Hb, h1, eb, en, fun H' Hb' u => ?_⟩
    cases b' with
    | false =>
      rw [if_neg Bool.false_ne_true] at h2
      rw [if_neg Bool.false_ne_true]
      exact ⟨S, b, Hb', h2, u.sub, en.up u, fun H2 Hb2 u2 => q H2 Hb2 (u.trans u2)⟩
    | true =>
      cases h2
      rw [if_pos rfl]
      exact q H' Hb' u
theorem snd_all : ∀ n, Snd C c k n
  | 0 => ⟨fun _ _ _ _ h => by simp [chkE] at h, fun _ _ _ _ h => by simp [chkEs] at h, fun _ _ _ _ _ h => by simp [chkB] at h, fun _ _ _ _ h => by simp [chkT] at h, fun _ _ _ _ _ h => by simp [chkTB] at h, fun _ _ _ _ h => by simp [chkIfs] at h,
      fun _ _ _ _ h => by simp [chkP] at h, fun _ _ _ _ _ h => by simp [chkI] at h⟩
  | n + 1 => by
    have ih := snd_all n
    refine ⟨snd_e n ih, ?_, ?_, ?_, ?_, ?_, ?_, ?_⟩
    · intro sc es as mu h lk X cx hsc
      subst hsc
      cases es with
      | nil =>
        simp only [chkEs] at h
        split at h
        · exact (funext fun S => by rw [evs] : evs c C.G .nil = fun _ => some []) ▸ pa_nilS
        · cases h
      | cons e0 es0 =>
        simp only [chkEs] at h
        split at h
        · simp only [Bool.and_eq_true] at h
          obtain ⟨⟨h1, h2⟩, h3⟩ := h
          simp only [lkEs, Bool.and_eq_true] at lk
          have q := pa_consS (ih.e _ _ _ mu h1 lk.1 X cx rfl) (ih.es _ _ _ mu h3 lk.2 X cx rfl) (star_of h2 _ _)
          exact (funext fun S => by rw [evs] : evs c C.G (.cons e0 es0) = _) ▸ q
        · cases h
    · intro sc op b es mu h lk X cx hsc
      subst hsc
      simp only [chkB] at h
      split at h
      · exact ⟨List.cons_ne_nil _ _, fun pos => pe_one (ih.e _ _ _ mu h lk X cx rfl)⟩
      · split at h
        · split at h
          · obtain ⟨h1, h2⟩ := ba h
            simp only [lkE, Bool.and_eq_true] at lk
            obtain ⟨ne, q⟩ := ih.b _ _ _ _ mu h2 lk.2 X cx rfl
            exact ⟨List.cons_ne_nil _ _, fun pos => PE.cast (snd_and (ih.e _ _ _ mu h1 lk.1 X cx rfl) ne (q _)) fun S => by rw [ev] <;> rfl⟩
          · cases h
        · split at h
          · obtain ⟨h1, h2⟩ := ba h
            simp only [lkE, Bool.and_eq_true] at lk
            obtain ⟨ne, q⟩ := ih.b _ _ _ _ mu h2 lk.2 X cx rfl
            exact ⟨List.cons_ne_nil _ _, fun pos => PE.cast (snd_or (ih.e _ _ _ mu h1 lk.1 X cx rfl) ne (q _)) fun S => by rw [ev] <;> rfl⟩
          · cases h
      · cases h
    · intro sc t e mu h X cx hsc
      subst hsc
      refine PT.mono ?_ tT_nil
      cases t with
      | yes => simp [chkT] at h
      | e ie =>
        simp only [chkT] at h
        split at h
        · split at h
          · rename_i op' a b
            cases n with
            | zero => simp [chkE] at h
            | succ n =>
              have ih' := snd_all n
              simp only [chkE] at h
              simp only [Bool.and_eq_true] at h
              obtain ⟨⟨⟨h1, h2⟩, h3⟩, h4⟩ := h
              have ho := of_decide_eq_true h1
              subst ho
              obtain ⟨r, o1, o2⟩ := op_cmp (X := X) (by have := hu_room cx.room; omega) op'
              refine PT.cast (snd_cmpT o1 o2 (ih'.e _ _ _ [] h2 (lk_nil _) X cx rfl) (ih'.e _ _ _ [] h3 (lk_nil _) X cx rfl) (set_of h4 op')) fun S => ?_
              rw [evT, ev]
              cases ev c C.G a S with
              | none => rfl
              | some x => cases ev c C.G b S with
                | none => rfl
                | some y =>
                  show ((cmpD op' x.share y.share).map fun r => M.sh (.bl r)).bind (fun x => truD x.share) = cmpD op' x.share y.share
                  cases cmpD op' x.share y.share <;> rfl
          · cases h
        · split at h
          · rename_i op1 op2 a b d
            cases n with
            | zero => simp [chkE] at h
            | succ n =>
              have ih' := snd_all n
              simp only [chkE] at h
              simp only [Bool.and_eq_true] at h
              obtain ⟨⟨⟨⟨⟨⟨h1, h2⟩, h3⟩, h4⟩, h5⟩, h6⟩, h7⟩ := h
              have ho := of_decide_eq_true h1
              have ho' := of_decide_eq_true h2
              subst ho ho'
              obtain ⟨r, o1, o2⟩ := op_cmp (X := X) (by have := hu_room cx.room; omega) op1
              obtain ⟨r', p1, p2⟩ := op_cmp (X := X) (by have := hu_room cx.room; omega) op2
              refine (pt_chain o1 p1 (ih'.e _ _ _ [] h3 (lk_nil _) X cx rfl) (ih'.e _ _ _ [] h4 (lk_nil _) X cx rfl) (ih'.e _ _ _ [] h5 (lk_nil _) X cx rfl) (set_of h7 op2)).mono fun σ H Q hq => ?_
              obtain ⟨S, k, Hb, hf, eb, en, q⟩ := hq
              rw [evT] at hf
              obtain ⟨m, hf, hk⟩ := obind hf
              refine chain_of (mu := []) o2 p2 σ H _ ⟨S, m, Hb, by rw [ev] at hf; exact hf, eb, en, fun v H' Hb' oo g => ?_⟩
              have hm : ∃ k', m = .sh (.bl k') := by
                rw [ev] at hf
                obtain ⟨x, _, hf⟩ := obind hf
                obtain ⟨y, _, hf⟩ := obind hf
                obtain ⟨z, _, hf⟩ := obind hf
                split at hf
                · obtain ⟨w, _, hf⟩ := obind hf
                  obtain ⟨w', _, rfl⟩ := omap hf
                  exact ⟨_, rfl⟩
                · cases hf; exact ⟨_, rfl⟩
              obtain ⟨k', rfl⟩ := hm
              cases hk
              cases g.rp with
              | sh r => cases r; exact ⟨_, rfl, q _ _ g.up⟩
          · cases h
        · obtain ⟨h1, h2⟩ := ba h
          exact PT.cast (snd_tru (ih.e _ _ _ [] h2 (lk_nil _) X cx rfl) h1) fun S => by rw [evT]
      | not t =>
        simp only [chkT] at h
        split at h
        · refine (pt_not (ih.t _ _ _ [] h X cx rfl)).mono fun σ H Q hq => ?_
          obtain ⟨S, b, Hb, hf, eb, en, q⟩ := hq
          rw [evT] at hf
          obtain ⟨b', h1, rfl⟩ := omap hf
          exact ⟨S, b', Hb, h1, eb, en, q⟩
        · cases h
      | and t u =>
        simp only [chkT] at h
        split at h
        · obtain ⟨h1, h2⟩ := ba h
          obtain ⟨ne, q⟩ := ih.tb _ _ _ _ [] h2 X cx rfl
          exact (pw_andS (ih.t _ _ _ [] h1 X cx rfl) ne (q _)).pt
        · cases h
      | or t u =>
        simp only [chkT] at h
        split at h
        · obtain ⟨h1, h2⟩ := ba h
          obtain ⟨ne, q⟩ := ih.tb _ _ _ _ [] h2 X cx rfl
          exact (pw_orS (ih.t _ _ _ [] h1 X cx rfl) ne (q _)).pt
        · cases h
    · intro sc op b es mu h X cx hsc
      subst hsc
      simp only [chkTB] at h
      split at h
      · refine ⟨List.cons_ne_nil _ _, fun pos => ?_⟩
        cases op with
        | And => exact pw_and1 (ih.t _ _ _ mu h X cx rfl)
        | Or => exact pw_or1 (ih.t _ _ _ mu h X cx rfl)
      · split at h
        · split at h
          · obtain ⟨h1, h2⟩ := ba h
            obtain ⟨ne, q⟩ := ih.tb _ _ _ _ mu h2 X cx rfl
            exact ⟨List.cons_ne_nil _ _, fun pos => pw_andS (ih.t _ _ _ mu h1 X cx rfl) ne (q _)⟩
          · cases h
        · split at h
          · obtain ⟨h1, h2⟩ := ba h
            obtain ⟨ne, q⟩ := ih.tb _ _ _ _ mu h2 X cx rfl
            exact ⟨List.cons_ne_nil _ _, fun pos => pw_orS (ih.t _ _ _ mu h1 X cx rfl) ne (q _)⟩
          · cases h
      · cases h
    · intro sc t es mu h X cx hsc
      subst hsc
      simp only [chkIfs] at h
      split at h
      · split at h
        · refine ⟨fun pins s σ H Q I hq => pts_nil.run pins s σ H Q I ?_⟩
          obtain ⟨S, b, Hb, hf, eb, en, q⟩ := hq
          rw [evT] at hf
          cases hf
          exact q H Hb (.refl eb)
        · cases h
      · exact pts_one (ih.t _ _ _ mu h X cx rfl)
      · cases h
    · intro sc ie o mu h X cx hsc
      subst hsc
      simp only [chkP] at h
      split at h
      · cases ie <;> first | cases h | skip
        exact (funext fun S => by rw [ev] <;> rfl : (fun S => (ev c C.G .non S).bind (nbM (isNon .non))) = fun _ => some (.sh .non)) ▸ po_non
      · obtain ⟨h1, h2⟩ := ba h
        have hn : isNon ie = false := by simpa using h1
        rw [hn]
        exact po_e (ih.e _ _ _ [] h2 (lk_nil _) X cx rfl)
    · intro sc it e tp mu h lk X tg cx hsc htp
      subst hsc htp
      cases it with
      | it ie =>
        simp only [chkI] at h
        obtain ⟨h1, h2⟩ := ba h
        have q := pi_sz (pi_it (tg := tg) (ih.e _ _ _ mu h1 (by simpa [lkI] using lk) X cx rfl))
        exact (funext fun S => by rw [evI] : evI c C.G (.it ie) = _) ▸ q
      | r1 a =>
        simp only [chkI] at h
        split at h
        · simp only [Bool.and_eq_true] at h
          obtain ⟨⟨⟨h1, h2⟩, h3⟩, h4⟩ := h
          have hx := of_decide_eq_true h1
          subst hx
          refine PI.cast (pi_sz (pi_r1 (glB_of h2).1 cx.rng (ih.e _ _ _ [] h3 (lk_nil _) X cx rfl) (star_of h4 _ _))) (fun S => by rw [evI] <;> rfl)
        · cases h
      | r2 a b =>
        simp only [chkI] at h
        split at h
        · simp only [Bool.and_eq_true] at h
          obtain ⟨⟨⟨⟨⟨h1, h2⟩, h3⟩, h4⟩, h5⟩, h6⟩ := h
          have hx := of_decide_eq_true h1
          subst hx
          refine PI.cast (pi_sz (pi_r2 (glB_of h2).1 cx.rng (ih.e _ _ _ [] h3 (lk_nil _) X cx rfl) (ih.e _ _ _ [] h4 (lk_nil _) X cx rfl) (by rw [star_of h5, star_of h6]; rfl) (by rw [star_of h6]; rfl))) (fun S => by rw [evI] <;> rfl)
        · cases h
      | en a =>
        simp only [chkI] at h
        split at h
        · simp only [Bool.and_eq_true] at h
          obtain ⟨⟨⟨⟨h0, h1⟩, h2⟩, h3⟩, h4⟩ := h
          have hx := of_decide_eq_true h1
          subst hx
          cases tg <;> try (cases h0; done)
          exact PI.cast (pi_sz (pi_enS (glB_of h2).1 cx.enu (ih.e _ _ _ mu h3 (by simpa [lkI] using lk) X cx rfl) (star_of h4 _ _))) (fun S => by rw [evI])
        · cases h
      | zp a b =>
        simp only [chkI] at h
        split at h
        · simp only [Bool.and_eq_true] at h
          obtain ⟨⟨⟨⟨⟨⟨h0, h1⟩, h2⟩, h3⟩, h4⟩, h5⟩, h6⟩ := h
          have hx := of_decide_eq_true h1
          subst hx
          cases tg <;> try (cases h0; done)
          simp only [lkI, Bool.and_eq_true] at lk
          exact PI.cast (pi_sz (pi_zpS (glB_of h2).1 cx.zip (ih.e _ _ _ mu h3 lk.1 X cx rfl) (ih.e _ _ _ mu h4 lk.2 X cx rfl) (star_of h5 _ _) (by rw [star_of h6]; rfl))) (fun S => by rw [evI])
        · cases h
      | rv a =>
        simp only [chkI] at h
        split at h
        · simp only [Bool.and_eq_true] at h
          obtain ⟨⟨⟨h1, h2⟩, h3⟩, h4⟩ := h
          have hx := of_decide_eq_true h1
          subst hx
          exact PI.cast (pi_sz (pi_rvS (glB_of h2).1 cx.rvd (ih.e _ _ _ mu h3 (by simpa [lkI] using lk) X cx rfl) (star_of h4 _ _))) (fun S => by rw [evI])
        · cases h
end
end Rf

set_option Elab.async false
set_option linter.all false
set_option maxRecDepth 100000
set_option maxHeartbeats 4000000
namespace Rf
open PySem PySem.Spec PyProof.Rows L2

/-! ### the state of a def's body -/
structure StR (K : PySem.W.Frag) (mu : List Nat) (P0 Hb0 : Hp) (S : Sl) (σ : L2.St) (H Hs : Hp) (os : Nat → List Addr) : Prop where
  up : Up P0 Hb0 H Hs
  len : S.length = σ.length
  val : ∀ i m, gt S i = some m → ∃ v, σ[i]? = some (some v) ∧ RpM K H Hs v m (os i)
  nod : ∀ i, (os i).Nodup
  dis : ∀ i j, i ≠ j → ∀ p ∈ os i, p ∉ os j
  own : ∀ i, ∀ p ∈ os i, P0 p = none ∧ Hs p = none ∧ ∃ o, H p = some o
  mu : ∀ i m, gt S i = some m → i ∉ mu → ∃ d, m = .sh d
def setF (os : Nat → List Addr) (i : Nat) (oo : List Addr) : Nat → List Addr := fun j => if j = i then oo else os j
theorem setF_same {os : Nat → List Addr} {i : Nat} {oo : List Addr} : setF os i oo i = oo := if_pos rfl
theorem setF_ne {os : Nat → List Addr} {i j : Nat} {oo : List Addr} (h : j ≠ i) : setF os i oo j = os j := if_neg h
section
variable {K : PySem.W.Frag} {mu : List Nat} {P0 Hb0 H Hs H' Hs' : Hp} {S : Sl} {σ : L2.St} {os : Nat → List Addr}
theorem StR.env (r : StR K mu P0 Hb0 S σ H Hs os) : Env1 K mu S σ H Hs := ⟨r.len, fun i m q => by
  obtain ⟨v, h1, h2⟩ := r.val i m q
  refine ⟨v, h1, h2.rpH r.up.sub, fun hn => ?_⟩
  obtain ⟨d, rfl⟩ := r.mu i m q hn
  generalize ho : os i = oo at h2
  cases h2 with
  | sh r => exact r⟩
theorem StR.got (r : StR K mu P0 Hb0 S σ H Hs os) (u : Up H Hs H' Hs') : StR K mu P0 Hb0 S σ H' Hs' os :=
  ⟨r.up.trans u, r.len, fun i m q => by
    obtain ⟨v, h1, h2⟩ := r.val i m q
    exact ⟨v, h1, h2.ex u.keep u.com⟩, r.nod, r.dis, fun i p hp => by
    obtain ⟨h1, h2, o, h3⟩ := r.own i p hp
    exact ⟨h1, u.apart p (by rw [h3]; simp) h2, o, u.keep p o h3⟩, r.mu⟩
theorem StR.set {i : Nat} {v : V} {m : M} {oo : List Addr} (r : StR K mu P0 Hb0 S σ H Hs os) (h : RpM K H Hs v m oo) (hn : oo.Nodup) (ho : ∀ p ∈ oo, P0 p = none ∧ Hs p = none) (hd : ∀ j, j ≠ i → ∀ p ∈ oo, p ∉ os j) (hm : i ∈ mu ∨ ∃ d, m = .sh d) :
    StR K mu P0 Hb0 (st S i (some m)) (σ.set i (some v)) H Hs (setF os i oo) := by
  refine ⟨r.up, by rw [st_len, List.length_set, r.len], fun j m' q => ?_, fun j => ?_, fun a b hab p hp => ?_, fun j p hp => ?_, fun j m' q hj => ?_⟩
  · by_cases e : j = i
    · subst e
      have hi : j < σ.length := by rw [← r.len, ← st_len S j (some m)]; exact gt_some_lt q
      have q' := gt_st_some (m' := none) q
      cases q'
      rw [setF_same]
      exact ⟨v, List.getElem?_set_self hi, h⟩
    · rw [gt_st_ne (fun z => e z.symm)] at q
      obtain ⟨w, h1, h2⟩ := r.val j m' q
      rw [setF_ne e]
      exact ⟨w, by rw [List.getElem?_set_ne (fun z => e z.symm)]; exact h1, h2⟩
  · by_cases e : j = i
    · subst e; rw [setF_same]; exact hn
    · rw [setF_ne e]; exact r.nod j
  · by_cases ea : a = i
    · subst ea
      rw [setF_same] at hp
      rw [setF_ne (fun z => hab z.symm)]
      exact hd b (fun z => hab z.symm) p hp
    · rw [setF_ne ea] at hp
      by_cases eb : b = i
      · subst eb
        rw [setF_same]
        exact fun hq => hd a ea p hq hp
      · rw [setF_ne eb]
        exact r.dis a b hab p hp
  · by_cases e : j = i
    · subst e
      rw [setF_same] at hp
      exact ⟨(ho p hp).1, (ho p hp).2, h.there p hp⟩
    · rw [setF_ne e] at hp
      exact r.own j p hp
  · by_cases e : j = i
    · subst e
      have q' := gt_st_some (m' := none) q
      cases q'
      exact hm.resolve_left hj
    · rw [gt_st_ne (fun z => e z.symm)] at q
      exact r.mu j m' q hj
/-- a common value is stored -/
theorem StR.put {i : Nat} {v : V} {d : D} (r : StR K mu P0 Hb0 S σ H Hs os) (h : Rp K Hs v d) : StR K mu P0 Hb0 (st S i (some (.sh d))) (σ.set i (some v)) H Hs (setF os i []) :=
  r.set (.sh h) .nil (fun _ h => absurd h (by simp)) (fun _ _ _ h => absurd h (by simp)) (.inr ⟨d, rfl⟩)
/-- what was got is stored -/
theorem StR.putO {i : Nat} {v : V} {m : M} {oo : List Addr} (r : StR K mu P0 Hb0 S σ H Hs os) (g : Got K H Hs v m H' Hs' oo) (hi : i ∈ mu) : StR K mu P0 Hb0 (st S i (some m)) (σ.set i (some v)) H' Hs' (setF os i oo) :=
  (r.got g.up).set g.rp g.nd (fun p hp => ⟨(r.up.free (g.new p hp).1).2, (g.new p hp).2⟩) (fun j _ p hp hq => by
    obtain ⟨_, _, o, z⟩ := r.own j p hq
    rw [(g.new p hp).1] at z
    cases z) (.inl hi)
theorem StR.clr (r : StR K mu P0 Hb0 S σ H Hs os) (is : List Nat) : StR K mu P0 Hb0 (Rf.clr S is) σ H Hs os :=
  ⟨r.up, by rw [clr_len, r.len], fun i m q => r.val i m (clr_some q).2, r.nod, r.dis, r.own, fun i m q => r.mu i m (clr_some q).2⟩
/-- one's own thing is changed -/
theorem StR.mut {i : Nat} {p : Addr} {o : HO} {v : V} {m m' : M} {oo : List Addr} (r : StR K mu P0 Hb0 S σ H Hs os) (hg : gt S i = some m) (hv : σ[i]? = some (some v)) (hp : p ∈ os i) (h : RpM K (upd H p o) Hs v m' oo) (nd : oo.Nodup)
    (ow : ∀ q ∈ oo, q ∈ os i ∨ (P0 q = none ∧ Hs q = none ∧ (∀ j, q ∉ os j))) (hi : i ∈ mu) : StR K mu P0 Hb0 (st S i (some m')) σ (upd H p o) Hs (setF os i oo) := by
  obtain ⟨p1, p2, p3⟩ := r.own i p hp
  have hlt := gt_some_lt hg
  refine ⟨r.up.at p1 p2, by rw [st_len, r.len], fun j m2 q => ?_, fun j => ?_, fun a b hab q hq => ?_, fun j q hq => ?_, fun j m2 q hj => ?_⟩
  · by_cases e : j = i
    · subst e
      rw [gt_st_same hlt] at q
      cases q
      rw [setF_same]
      exact ⟨v, hv, h⟩
    · rw [gt_st_ne (fun z => e z.symm)] at q
      obtain ⟨w, h1, h2⟩ := r.val j m2 q
      rw [setF_ne e]
      exact ⟨w, h1, h2.mono (.refl _) fun z hz => upd_ne (fun e2 => r.dis j i e z hz (by rw [e2]; exact hp))⟩
  · by_cases e : j = i
    · subst e; rw [setF_same]; exact nd
    · rw [setF_ne e]; exact r.nod j
  · by_cases ea : a = i
    · subst ea
      rw [setF_same] at hq
      rw [setF_ne (fun z => hab z.symm)]
      rcases ow q hq with z | ⟨_, _, z⟩
      · exact r.dis a b hab q z
      · exact z b
    · rw [setF_ne ea] at hq
      by_cases eb : b = i
      · subst eb
        rw [setF_same]
        intro z
        rcases ow q z with z | ⟨_, _, z⟩
        · exact r.dis a b hab q hq z
        · exact z a hq
      · rw [setF_ne eb]
        exact r.dis a b hab q hq
  · by_cases e : j = i
    · subst e
      rw [setF_same] at hq
      rcases ow q hq with z | ⟨z1, z2, _⟩
      · obtain ⟨k1, k2, _⟩ := r.own j q z
        exact ⟨k1, k2, h.there q hq⟩
      · exact ⟨z1, z2, h.there q hq⟩
    · rw [setF_ne e] at hq
      obtain ⟨k1, k2, o2, k3⟩ := r.own j q hq
      exact ⟨k1, k2, o2, by rw [upd_ne (fun e2 => r.dis j i e q hq (by rw [e2]; exact hp))]; exact k3⟩
  · by_cases e : j = i
    · subst e; exact absurd hi hj
    · rw [gt_st_ne (fun z => e z.symm)] at q
      exact r.mu j m2 q hj
/-- another beginning -/
theorem StR.rebase (r : StR K mu P0 Hb0 S σ H Hs os) : StR K mu P0 Hs S σ H Hs os :=
  ⟨⟨r.up.keep, .refl _, r.up.sub, fun _ _ h => h⟩, r.len, r.val, r.nod, r.dis, r.own, r.mu⟩
theorem Up.unbase {P0 Hb0 H Hs H' Hs' : Hp} (u : Up P0 Hb0 H Hs) (u' : Up P0 Hs H' Hs') : Up P0 Hb0 H' Hs' :=
  ⟨u'.keep, u.com.trans u'.com, u'.sub, fun p h1 h2 => u'.apart p h1 (u.apart p h1 h2)⟩
theorem StR.unbase {S' : Sl} {σ' : L2.St} {os' : Nat → List Addr} (u : Up P0 Hb0 H Hs) (r : StR K mu P0 Hs S' σ' H' Hs' os') : StR K mu P0 Hb0 S' σ' H' Hs' os' :=
  ⟨u.unbase r.up, r.len, r.val, r.nod, r.dis, r.own, r.mu⟩
theorem gTsR_ok : ∀ (is : List Nat) (S S' : Sl) (σ : L2.St) (os : Nat → List Addr) (ds : List D) (vs : List V), puts S is ds = some S' → RpL K Hs vs ds → StR K mu P0 Hb0 S σ H Hs os →
    ∃ σ' os', (∀ Q, Q σ' H → gTs is vs σ H Q) ∧ StR K mu P0 Hb0 S' σ' H Hs os'
  | [], S, S', σ, os, [], _, e, .nil, r => by
    cases e
    exact ⟨σ, os, fun Q q => ⟨rfl, q⟩, r⟩
  | i :: is, S, S', σ, os, d :: ds, _, e, .cons (v := v) (vs := vs) h l, r => by
    obtain ⟨σ', os', h1, h2⟩ := gTsR_ok is (st S i (some (.sh d))) S' (σ.set i (some v)) _ ds vs e l (r.put h)
    exact ⟨σ', os', fun Q q => ⟨v, vs, rfl, h1 Q q⟩, h2⟩
  | [], _, _, _, _, _ :: _, _, e, _, _ => by cases e
  | _ :: _, _, _, _, _, [], _, e, _, _ => by cases e
theorem gTR_ok {tg : Tg} {d : D} {S' : Sl} {v : V} (e : bindT tg d S = some S') (h : Rp K Hs v d) (r : StR K mu P0 Hb0 S σ H Hs os) :
    ∃ σ' os', (∀ Q, Q σ' H → gT K tg v σ H Q) ∧ StR K mu P0 Hb0 S' σ' H Hs os' := by
  cases tg with
  | nm i =>
    cases e
    exact ⟨_, _, fun Q q => q, r.put h⟩
  | tp is =>
    cases h with
    | @tup a xs ds ha la =>
      obtain ⟨σ', os', h1, h2⟩ := gTsR_ok is S S' σ os ds xs e la r
      exact ⟨σ', os', fun Q q => ⟨a, xs, rfl, Evl.ex_t r.up.sub ha, by rw [la.len, puts_len e], h1 Q q⟩, h2⟩
    | _ => cases e
end

/-! ### the reading of statements -/
def Post (K : PySem.W.Frag) (mu : List Nat) (P0 Hb0 : Hp) (D : Ends) : Fl → Prop
  | .nx S' => ∀ σ' H' Hs' os', StR K mu P0 Hb0 S' σ' H' Hs' os' → D.nx σ' H'
  | .bk S' => ∀ σ' H' Hs' os', StR K mu P0 Hb0 S' σ' H' Hs' os' → D.bk σ' H'
  | .ct S' => ∀ σ' H' Hs' os', StR K mu P0 Hb0 S' σ' H' Hs' os' → D.ct σ' H'
  | .rt m => ∀ v H' Hs' oo, Got K P0 Hb0 v m H' Hs' oo → D.rt v H'
def sS (K : PySem.W.Frag) (mu : List Nat) (f : Sl → Option Fl) : TS := fun D σ H => ∃ P0 Hb0 S fl Hs os, f S = some fl ∧ StR K mu P0 Hb0 S σ H Hs os ∧ Post K mu P0 Hb0 D fl
section
variable {X : Cx} {mu : List Nat}
theorem PSs.castS {sts : List Stmt} {f g : Sl → Option Fl} (h : PSs X sts (sS X.K mu f)) (q : ∀ S, g S = f S) : PSs X sts (sS X.K mu g) := by
  have : g = f := funext q
  rw [this]; exact h
theorem PS.castS {s : Stmt} {f g : Sl → Option Fl} (h : PS X s (sS X.K mu f)) (q : ∀ S, g S = f S) : PS X s (sS X.K mu g) := by
  have : g = f := funext q
  rw [this]; exact h
theorem ss_nil : PSs X [] (sS X.K mu fun S => some (.nx S)) := pss_nil.mono fun D σ H h => by
  obtain ⟨P0, Hb0, S, fl, Hs, os, hf, r, q⟩ := h
  cases hf
  exact q σ H Hs os r
theorem ss_cons {s : Stmt} {sts : List Stmt} {f : Sl → Option Fl} {g : Sl → Option Fl} (h1 : PS X s (sS X.K mu f)) (h2 : PSs X sts (sS X.K mu g)) : PSs X (s :: sts) (sS X.K mu fun S => seqF (f S) g) := (pss_cons h1 h2).mono fun D σ H h => by
  obtain ⟨P0, Hb0, S, fl, Hs, os, hf, r, q⟩ := h
  obtain ⟨f1, h3, h4⟩ := obind hf
  refine ⟨P0, Hb0, S, f1, Hs, os, h3, r, ?_⟩
  cases f1 with
  | nx S' => exact fun σ' H' Hs' os' r' => ⟨P0, Hb0, S', fl, Hs', os', h4, r', q⟩
  | bk S' => cases h4; exact q
  | ct S' => cases h4; exact q
  | rt m => cases h4; exact q
theorem ss_drop {sts : List Stmt} {f : Sl → Option Fl} (is : List Nat) (h : PSs X sts (sS X.K mu f)) : PSs X sts (sS X.K mu fun S => f (clr S is)) := h.mono fun D σ H h => by
  obtain ⟨P0, Hb0, S, fl, Hs, os, hf, r, q⟩ := h
  exact ⟨P0, Hb0, Rf.clr S is, fl, Hs, os, hf, r.clr is, q⟩
/-- what was one's own is given to all -/
theorem StR.share {K : PySem.W.Frag} {P0 Hb0 H Hs : Hp} {S : Sl} {σ : L2.St} {os : Nat → List Addr} {i : Nat} {m : M} (r : StR K mu P0 Hb0 S σ H Hs os) (h : gt S i = some m) : ∃ Hs' os', StR K mu P0 Hb0 (st S i (some (.sh m.share))) σ H Hs' os' := by
  obtain ⟨v, h1, h2⟩ := r.val i m h
  have hc := give_com (H := H) (oo := os i) (Hb := Hs) fun p hp => (r.own i p hp).2.1
  have hu : Up P0 Hb0 H (give H Hs (os i)) := r.up.give fun p hp => ⟨(r.own i p hp).1, (r.own i p hp).2.1⟩
  have rp : Rp K (give H Hs (os i)) v m.share := h2.rp hc fun p hp => give_in hp
  -- the same state over the wider common part, slot i left out
  have r0 : StR K mu P0 Hb0 (Rf.clr S [i]) σ H (give H Hs (os i)) (setF os i []) := by
    refine ⟨hu, by rw [clr_len, r.len], fun j m' q => ?_, fun j => ?_, fun a b hab p hp => ?_, fun j p hp => ?_, fun j m' q => r.mu j m' (clr_some q).2⟩
    · obtain ⟨k1, k2⟩ := clr_some q
      have ej : j ≠ i := fun e => k1 (by simp [e])
      obtain ⟨w, k3, k4⟩ := r.val j m' k2
      rw [setF_ne ej]
      exact ⟨w, k3, k4.mono hc fun _ _ => rfl⟩
    · by_cases e : j = i
      · subst e; rw [setF_same]; exact .nil
      · rw [setF_ne e]; exact r.nod j
    · by_cases e : a = i
      · subst e; rw [setF_same] at hp; exact absurd hp (by simp)
      · rw [setF_ne e] at hp
        by_cases e' : b = i
        · subst e'; rw [setF_same]; simp
        · rw [setF_ne e']; exact r.dis a b hab p hp
    · by_cases e : j = i
      · subst e; rw [setF_same] at hp; exact absurd hp (by simp)
      · rw [setF_ne e] at hp
        obtain ⟨k1, k2, k3⟩ := r.own j p hp
        exact ⟨k1, by rw [give_out (fun hq => r.dis j i e p hp hq)]; exact k2, k3⟩
  have r1 := r0.put (i := i) rp
  have e1 : st (Rf.clr S [i]) i (some (.sh m.share)) = st S i (some (.sh m.share)) := by
    show st (st S i none) i _ = _
    have : ∀ (S : Sl) (i : Nat) (a b : Option M), st (st S i a) i b = st S i b := by
      intro S
      induction S with
      | nil => intro i a b; rfl
      | cons x S ih => intro i a b; cases i with
        | zero => rfl
        | succ i => show x :: st (st S i a) i b = x :: st S i b; rw [ih]
    exact this S i _ _
  have e2 : σ.set i (some v) = σ := by
    apply List.ext_getElem?
    intro j
    by_cases e : i = j
    · subst e
      obtain ⟨hi, e3⟩ := List.getElem?_eq_some_iff.mp h1
      rw [List.getElem?_set_self hi, h1]
    · rw [List.getElem?_set_ne e]
  rw [e1, e2] at r1
  exact ⟨_, _, r1⟩
theorem ss_shr {sts : List Stmt} {f : Sl → Option Fl} (i : Nat) (h : PSs X sts (sS X.K mu f)) : PSs X sts (sS X.K mu fun S => seqF ((gt S i).map fun m => .nx (st S i (some (.sh m.share)))) f) := h.mono fun D σ H h => by
  obtain ⟨P0, Hb0, S, fl, Hs, os, hf, r, q⟩ := h
  obtain ⟨f1, h3, h4⟩ := obind hf
  obtain ⟨m, h5, rfl⟩ := omap h3
  obtain ⟨Hs', os', r'⟩ := r.share h5
  exact ⟨P0, Hb0, _, fl, Hs', os', h4, r', q⟩
theorem s_pass {pos : Pos} : PS X (.Pass pos) (sS X.K mu fun S => some (.nx S)) := ps_pass.mono fun D σ H h => by
  obtain ⟨P0, Hb0, S, fl, Hs, os, hf, r, q⟩ := h
  cases hf
  exact q σ H Hs os r
theorem s_brk {pos : Pos} : PS X (.Break pos) (sS X.K mu fun S => some (.bk S)) := ps_break.mono fun D σ H h => by
  obtain ⟨P0, Hb0, S, fl, Hs, os, hf, r, q⟩ := h
  cases hf
  exact q σ H Hs os r
theorem s_cnt {pos : Pos} : PS X (.Continue pos) (sS X.K mu fun S => some (.ct S)) := ps_continue.mono fun D σ H h => by
  obtain ⟨P0, Hb0, S, fl, Hs, os, hf, r, q⟩ := h
  cases hf
  exact q σ H Hs os r
theorem s_retN {pos : Pos} : PS X (.Return none pos) (sS X.K mu fun S => some (.rt (.sh .non))) := ps_retN.mono fun D σ H h => by
  obtain ⟨P0, Hb0, S, fl, Hs, os, hf, r, q⟩ := h
  cases hf
  exact q _ _ _ _ (.sh r.up .non)
theorem s_ret' {e : Expr} {pos : Pos} {f : Sl → Option M} (h : PE X e (tS X.K mu f)) : PS X (.Return (some e) pos) (sS X.K mu fun S => (f S).map .rt) := (ps_ret h).mono fun D σ H h => by
  obtain ⟨P0, Hb0, S, fl, Hs, os, hf, r, q⟩ := h
  obtain ⟨m, h1, rfl⟩ := omap hf
  exact ⟨S, m, Hs, h1, r.up.sub, r.env, fun v H' Hb' oo g => q v H' Hb' oo ⟨r.up.trans g.up, g.rp, g.nd, fun p hp => ⟨(r.up.free (g.new p hp).1).2, (g.new p hp).2⟩⟩⟩
theorem s_retV {i : Nat} {x : Str} {pos p : Pos} (hN : X.N[i]? = some x) (hv : Vis X.env.scope x) (hd : (x == ("__debug__" : Str)) = false) (hc : (x == ("__classdict__" : Str)) = false) : PS X (.Return (some (.Name x p)) pos) (sS X.K mu fun S => (gt S i).map .rt) := (ps_ret (pe_var hN hv hd hc)).mono fun D σ H h => by
  obtain ⟨P0, Hb0, S, fl, Hs, os, hf, r, q⟩ := h
  obtain ⟨m, h1, rfl⟩ := omap hf
  obtain ⟨v, h2, h3⟩ := r.val i m h1
  exact ⟨v, h2, q v H Hs (os i) ⟨r.up, h3, r.nod i, fun p hp => ⟨(r.own i p hp).1, (r.own i p hp).2.1⟩⟩⟩
theorem s_if {e : Expr} {a b : List Stmt} {pos : Pos} {t : Sl → Option Bool} {fa fb : Sl → Option Fl} (ht : PT X e (tT X.K mu t)) (ha : PSs X a (sS X.K mu fa)) (hb : PSs X b (sS X.K mu fb)) : PS X (.If e a b pos) (sS X.K mu fun S => (t S).bind fun k => if k = true then fa S else fb S) := (ps_if ht ha hb).mono fun D σ H h => by
  obtain ⟨P0, Hb0, S, fl, Hs, os, hf, r, q⟩ := h
  obtain ⟨k, h1, h2⟩ := obind hf
  refine ⟨S, k, Hs, h1, r.up.sub, r.env, fun H' Hb' u => ?_⟩
  cases k with
  | true =>
    rw [if_pos rfl] at h2 ⊢
    exact ⟨P0, Hb0, S, fl, Hb', os, h2, r.got u, q⟩
  | false =>
    rw [if_neg Bool.false_ne_true] at h2 ⊢
    exact ⟨P0, Hb0, S, fl, Hb', os, h2, r.got u, q⟩
/-- name = e -/
theorem asg_set {i : Nat} {f : Sl → Option M} (D : Ends) (σ : L2.St) (H : Hp) (h : sS X.K mu (fun S => (f S).map fun m => .nx (st S i (some (.sh m.share)))) D σ H) : tAsg (tS X.K mu f) (gName i) D σ H := by
  obtain ⟨P0, Hb0, S, fl, Hs, os, hf, r, q⟩ := h
  obtain ⟨m, h1, rfl⟩ := omap hf
  exact tS_use h1 r.up.sub r.env fun v H' Hb' u rp => q _ _ _ _ ((r.got u).put rp)
theorem asg_setO {i : Nat} {f : Sl → Option M} (hi : i ∈ mu) (D : Ends) (σ : L2.St) (H : Hp) (h : sS X.K mu (fun S => (f S).map fun m => .nx (st S i (some m))) D σ H) : tAsg (tS X.K mu f) (gName i) D σ H := by
  obtain ⟨P0, Hb0, S, fl, Hs, os, hf, r, q⟩ := h
  obtain ⟨m, h1, rfl⟩ := omap hf
  exact ⟨S, m, Hs, h1, r.up.sub, r.env, fun v H' Hb' oo g => q _ _ _ _ (r.putO g hi)⟩
/-- a, b = e -/
theorem asg_unp {is : List Nat} {f : Sl → Option M} (D : Ends) (σ : L2.St) (H : Hp) (h : sS X.K mu (fun S => (f S).bind fun m => (bindT (.tp is) m.share S).map .nx) D σ H) : tAsg (tS X.K mu f) (gT X.K (.tp is)) D σ H := by
  obtain ⟨P0, Hb0, S, fl, Hs, os, hf, r, q⟩ := h
  obtain ⟨m, h1, hf⟩ := obind hf
  obtain ⟨S', h2, rfl⟩ := omap hf
  refine tS_use h1 r.up.sub r.env fun v H' Hb' u rp => ?_
  obtain ⟨σ', os', g1, g2⟩ := gTR_ok h2 rp (r.got u)
  exact g1 _ (q _ _ _ _ g2)
/-- x.append(e) -/
theorem s_app' {i : Nat} {x : Str} {e : Expr} {p1 p2 p3 p4 : Pos} {f : Sl → Option M} (hN : X.N[i]? = some x) (hv : Vis X.env.scope x) (hd : (x == ("__debug__" : Str)) = false) (hc : (x == ("__classdict__" : Str)) = false) (hs : noStar e = true) (he : PE X e (tS X.K mu f)) (hi : i ∈ mu) (hl : (p2.endLine == p3.line) = true) :
    PS X (.Expr (.Call (.Attribute (.Name x p1) "append" p2) [e] [] p3) p4) (sS X.K mu fun S => (gt S i).bind fun m => (f S).bind fun y => match m with
      | .od xs => if xs.length < big then some (.nx (st S i (some (.od (xs ++ [y.share]))))) else none
      | .ol xs => if xs.length < big then some (.nx (st S i (some (.ol (xs ++ [y]))))) else none
      | _ => none) := by
  refine (ps_expr (pe_bm PySem.F.plainAttrs_list PySem.F.slot_list_append PySem.F.type_list_append mt_append (pe_var hN hv hd hc) (pa_cons he pa_nil (star_of hs _ _)) (hline := hl) (hs := star_of hs _ _) (hfew := by rw [star_of hs]; rfl))).mono fun D σ H h => ?_
  obtain ⟨P0, Hb0, S, fl, Hs, os, hf, r, q⟩ := h
  obtain ⟨m, h1, hf⟩ := obind hf
  obtain ⟨y, h2, h3⟩ := obind hf
  obtain ⟨v, k1, k2⟩ := r.val i m h1
  refine ⟨v, k1, ?_⟩
  generalize ho : os i = oo at k2
  cases k2 with
  | sh _ => cases h3
  | ot _ _ => cases h3
  | @od p vs ds hp la =>
    dsimp only at h3
    split at h3
    · rename_i hlt
      cases h3
      refine ⟨.inl ⟨rfl, vs, SqL.of hp⟩, tS_use h2 r.up.sub r.env fun w H' Hb' u rp => ?_⟩
      have hp' : H' p = some (.lst vs) := u.keep _ _ hp
      refine ⟨p, vs, w, rfl, rfl, hp', big_lt (by rw [la.len]; exact hlt), ?_⟩
      have hpo : p ∈ os i := by rw [ho]; simp
      refine q σ _ Hb' _ ((r.got u).mut (i := i) (p := p) h1 k1 hpo (.od upd_same ((la.mono u.com).append (.cons rp .nil))) (by simp) (fun z hz => .inl (by rw [ho]; exact hz)) hi)
    · cases h3
  | @ol p vs ms oo hp la =>
    dsimp only at h3
    split at h3
    · rename_i hlt
      cases h3
      refine ⟨.inl ⟨rfl, vs, SqL.of hp⟩, ⟨S, y, Hs, h2, r.up.sub, r.env, fun w H' Hb' o2 g => ?_⟩⟩
      have hp' : H' p = some (.lst vs) := g.up.keep _ _ hp
      refine ⟨p, vs, w, rfl, rfl, hp', big_lt (by rw [la.len]; exact hlt), ?_⟩
      have hpo : p ∈ os i := by rw [ho]; simp
      have hnd := r.nod i
      rw [ho] at hnd
      obtain ⟨np, nd⟩ := List.nodup_cons.mp hnd
      have new2 : ∀ z ∈ o2, ∀ j, z ∉ os j := fun z hz j hj => by
        obtain ⟨_, _, o3, k3⟩ := r.own j z hj
        have := (g.new z hz).1
        rw [k3] at this
        cases this
      have la' : RpMs X.K (upd H' p (.lst (vs ++ [w]))) Hb' vs ms oo := (la.ex g.up.keep g.up.com).mono (.refl _) fun z hz => upd_ne (fun e => np (by rw [← e]; exact hz))
      have rp' : RpM X.K (upd H' p (.lst (vs ++ [w]))) Hb' w y o2 := g.rp.mono (.refl _) fun z hz => upd_ne (fun e => new2 z hz i (by rw [e]; exact hpo))
      refine q σ _ Hb' _ ((r.got g.up).mut (i := i) (p := p) (oo := p :: (oo ++ o2)) h1 k1 hpo (.ol upd_same (RpMs.snoc rp' la')) ?_ (fun z hz => ?_) hi)
      · refine List.nodup_cons.mpr ⟨fun hm => ?_, List.nodup_append.mpr ⟨nd, g.nd, fun a ha b hb e => ?_⟩⟩
        · rcases List.mem_append.mp hm with hm | hm
          · exact np hm
          · exact new2 p hm i hpo
        · subst e
          exact new2 a hb i (by rw [ho]; exact List.mem_cons_of_mem _ ha)
      · rcases List.mem_cons.mp hz with e | hz
        · exact .inl (by rw [e]; exact hpo)
        · rcases List.mem_append.mp hz with hz | hz
          · exact .inl (by rw [ho]; exact List.mem_cons_of_mem _ hz)
          · exact .inr ⟨(r.up.free (g.new z hz).1).2, (g.new z hz).2, new2 z hz⟩
    · cases h3
/-- for -/
theorem s_for {tg it : Expr} {body : List Stmt} {pos : Pos} {fI : Sl → Option (List D)} {fb : Sl → Option Fl} {t : Tg} {fg : List Nat} (hp : PassesOwn (model X.prog X.w) X.A X.env X.xe) (hc : X.calm = true) (hi : PI X tg it (tI X.K mu fI)) (hg : PG X tg (gT X.K t)) (hb : PSs X body (sS X.K mu fb)) (hs : noSet it = true) :
    PS X (.For tg it body [] pos) (sS X.K mu fun S => (fI S).bind fun xs => loop (bindT t) fb fg xs S) := (ps_for hp hc hi hg hb (fold_of hs X.env)).mono fun D σ H h => by
  obtain ⟨P0, Hb0, S, fl, Hs, os, hf, r, q⟩ := h
  obtain ⟨ds, h1, h2⟩ := obind hf
  refine ⟨S, ds, Hs, h1, r.up.sub, r.env, fun J H1 Hb1 u1 w hz => ?_⟩
  let St : Nat → L2.St → Hp → Prop := fun i σ' Hh => ∃ S' Hs' os', StR X.K mu P0 Hb0 S' σ' Hh Hs' os' ∧ Evl.Ex Hb1 Hs' ∧ loop (bindT t) fb fg (ds.drop i) S' = some fl
  refine ⟨fun i n σ' Hh => n = ds.length - i ∧ i ≤ ds.length ∧ St i σ' Hh, ⟨ds.length, by simp, Nat.zero_le _, S, Hb1, os, r.got u1, .refl _, h2⟩, fun i n σ' Hh hW => ?_⟩
  obtain ⟨rfl, hi', S', Hs', os', r', e', hl⟩ := hW
  by_cases hlt : i < ds.length
  · refine .inr ⟨w.goes i Hh hlt (e'.trans r'.up.sub), St (i + 1), fun σ2 H2 hs2 => ⟨ds.length - (i + 1), by omega, rfl, hlt, hs2⟩, fun x H2 y => ?_⟩
    obtain ⟨Hc2, d, b1, b2, b3, b4⟩ := w.yields i Hh x H2 P0 Hb0 Hs' hlt r'.up e' y
    have hdrop : ds.drop i = d :: ds.drop (i + 1) := by
      rw [List.drop_eq_getElem_cons hlt]
      rw [List.getElem?_eq_getElem hlt] at b1
      rw [Option.some.inj b1]
    rw [hdrop] at hl
    obtain ⟨S1, c1, hl⟩ := obind (show (bindT t d S').bind _ = some fl from hl)
    obtain ⟨f1, c2, c3⟩ := obind hl
    obtain ⟨σ3, os3, g1, g2⟩ := gTR_ok c1 b4 (r'.got b3)
    refine g1 _ ⟨P0, Hc2, S1, f1, Hc2, os3, c2, g2.rebase, ?_⟩
    have eC : Evl.Ex Hb1 Hc2 := e'.trans b3.com
    cases f1 with
    | nx S2 => exact fun σ4 H4 Hs4 os4 r4 => ⟨_, Hs4, os4, (r4.unbase g2.up).clr fg, eC.trans r4.up.com, c3⟩
    | ct S2 => exact fun σ4 H4 Hs4 os4 r4 => ⟨_, Hs4, os4, (r4.unbase g2.up).clr fg, eC.trans r4.up.com, c3⟩
    | bk S2 =>
      cases c3
      exact fun σ4 H4 Hs4 os4 r4 => q σ4 H4 Hs4 os4 ((r4.unbase g2.up).clr fg)
    | rt m =>
      cases c3
      exact fun v H4 Hs4 oo g => q v H4 Hs4 oo ⟨g2.up.unbase g.up, g.rp, g.nd, g.new⟩
  · have e : i = ds.length := by omega
    subst e
    rw [List.drop_length] at hl
    cases hl
    exact .inl ⟨w.stops Hh (e'.trans r'.up.sub), q σ' Hh Hs' os' r'⟩
end
end Rf

set_option Elab.async false
set_option linter.all false
set_option maxRecDepth 100000
set_option maxHeartbeats 4000000
namespace Rf
open PySem PySem.Spec PyProof.Rows L2

section
variable {X : Cx} {mu : List Nat}
/-! ### name op= e -/
def rAug (op : Operator) : TIp := fun x y H Q => match op with
  | .Add => (∃ i j, x = .int i ∧ y = .int j ∧ Q (.int (i + j)) H) ∨ ∃ i j, x = .str i ∧ y = .str j ∧ i.length + j.length ≤ sizeLine ∧ Q (.str (i ++ j)) H
  | .Sub => ∃ i j, x = .int i ∧ y = .int j ∧ Q (.int (i - j)) H
  | .Mult => ∃ i j, x = .int i ∧ y = .int j ∧ okMul i j ∧ Q (.int (i * j)) H
  | _ => False
theorem iop_mulF : OpR X (inplaceOp .Mult) (rI okMul fun i j => .int (i * j)) := opI fun i j _ _ _ _ _ hc q => by
  rcases hc with h | h | ⟨h1, h2⟩
  · exact imul_int q (CMul.ok (.inl ⟨by omega, by omega⟩))
  · exact imul_int q (CMul.ok (.inr ⟨by omega, by omega⟩))
  · exact imul_int q (wide_mul h1 h2 (by decide) (by decide) (by decide)).ok
theorem ip_aug (op : Operator) : PIp X op (rAug op) := by
  intro pins s σ H x y v u Q I r1 r2 h
  cases op with
  | Add =>
    rcases h with h | h
    · exact ip_add pins s σ H x y v u Q I r1 r2 h
    · exact iop_add_str pins s σ H x y v u Q I r1 r2 h
  | Sub => exact ip_sub pins s σ H x y v u Q I r1 r2 h
  | Mult => exact iop_mulF pins s σ H x y v u Q I r1 r2 h
  | _ => exact (show False from h).elim
theorem aug_D {K : PySem.W.Frag} {op : Operator} {H Hb : Hp} {x y : V} {dx dy d : D} {Q : VK} (hx : Rp K H x dx) (hy : Rp K Hb y dy) (e : augD op dx dy = some d) (q : ∀ v, (∀ Hc, Rp K Hc v d) → Q v H) : rAug op x y H Q := by
  cases op with
  | Add =>
    cases hx <;> cases hy <;> try (cases e; done)
    · cases e; exact .inl ⟨_, _, rfl, rfl, q _ fun _ => .int _⟩
    · simp only [augD] at e
      split at e
      · cases e; exact .inr ⟨_, _, rfl, rfl, big_le (by assumption), q _ fun _ => .str _⟩
      · cases e
  | Sub =>
    cases hx <;> cases hy <;> try (cases e; done)
    cases e; exact ⟨_, _, rfl, rfl, q _ fun _ => .int _⟩
  | Mult =>
    cases hx <;> cases hy <;> try (cases e; done)
    simp only [augD] at e
    split at e
    · cases e; exact ⟨_, _, rfl, rfl, by assumption, q _ fun _ => .int _⟩
    · cases e
  | _ => cases e
theorem s_aug' {i : Nat} {x : Str} {e : Expr} {op : Operator} {p1 pos : Pos} {f : Sl → Option M} (hN : X.N.Nodup) (hi : X.N[i]? = some x) (hx : Loc X.env.scope x) (hf : X.fn x = true ∨ X.env.scope.names.lookup x = some .local) (he : PE X e (tS X.K [] f)) :
    PS X (.AugAssign (.Name x p1) op e pos) (sS X.K mu fun S => (gt S i).bind fun m => (f S).bind fun y => (augD op m.share y.share).map fun z => .nx (st S i (some (.sh z)))) := (ps_aug hN hi hx he (ip_aug op) hf).mono fun D σ H h => by
  obtain ⟨P0, Hb0, S, fl, Hs, os, hf, r, q⟩ := h
  obtain ⟨m, h1, hf⟩ := obind hf
  obtain ⟨y, h2, hf⟩ := obind hf
  obtain ⟨z, h3, rfl⟩ := omap hf
  obtain ⟨v, k1, k2⟩ := r.val i m h1
  refine ⟨v, k1, tS_use h2 (.refl _) r.env.all fun w H' Hb' u rp => ?_⟩
  have u' : Up H Hs H' Hs := ⟨u.keep, .refl _, r.up.sub.trans u.keep, fun _ _ z => z⟩
  exact aug_D ((k2.rpH r.up.sub).mono u.keep) rp h3 fun v' hv' => q _ _ _ _ ((r.got u').put (hv' _))
/-! ### a, b = x, y -/
def noTuple : Expr → Bool
  | .Tuple .. => false
  | _ => true
def parC (x y : Str) (px py : Pos) (a b : Expr) : Bool := decide (py.line = px.line) && !decide (x = y) && noStar a && noStar b && !(foldedForSure 8 a && foldedForSure 8 b) && !(constantsAlone 8 a && constantsAlone 8 b)
theorem sw_par {env : Env} {x y : Str} {px py pt pt2 : Pos} {kt k2 : Nat} {a b : Expr} (hk : env.scope.kind = .function) (hx : env.scope.names.lookup x = some .local) (hy : env.scope.names.lookup y = some .local) (h : parC x y px py a b = true) :
    swappedStores [.Tuple [.Name x px, .Name y py] kt pt] (.Tuple [a, b] k2 pt2) env = pure (some [x, y]) := by
  unfold parC at h
  simp only [Bool.and_eq_true, Bool.not_eq_true', decide_eq_true_eq, decide_eq_false_iff_not] at h
  obtain ⟨⟨⟨⟨⟨h1, h2⟩, h3⟩, h4⟩, h5⟩, h6⟩ := h
  have hb : env.blockKind = .function := by unfold Env.blockKind; rw [hk]; rfl
  have kx : env.kindOf x = some .local := hx
  have ky : env.kindOf y = some .local := hy
  have e1 : ([a, b].any fun | .Starred .. => true | _ => false) = false := by
    cases a <;> first | (simp [noStar] at h3; done) | (cases b <;> first | rfl | (simp [noStar] at h4; done))
  have e2 : ([a, b].all (foldedForSure 8)) = false := by
    simp only [List.all_cons, List.all_nil, Bool.and_true]; exact h5
  have e3 : ([a, b].all (constantsAlone 8)) = false := by
    simp only [List.all_cons, List.all_nil, Bool.and_true]; exact h6
  unfold swappedStores
  simp only [hb, e1, e2, e3, List.filterMap_cons, List.filterMap_nil, kx, ky, List.head?_cons, Option.map_some, Option.getD_some, Expr.pos, h1]
  have e4 : [x, y].eraseDups = [x, y] := by
    have : (y == x) = false := by simpa using fun e => h2 e.symm
    simp [List.eraseDups_cons, this]
  simp [e4]
  intro hh
  exfalso
  rcases hh with hh | hh
  · cases a <;> first | (cases hh; done) | (simp [noStar] at h3; done)
  · cases b <;> first | (cases hh; done) | (simp [noStar] at h4; done)
theorem s_par {i j : Nat} {x y : Str} {a b : Expr} {px py pt pos : Pos} {kt k2 : Nat} {pt2 : Pos} {fa fb : Sl → Option M} (hc : X.calm = true) (hN : X.N.Nodup) (hk : X.env.scope.kind = .function) (hi : X.N[i]? = some x) (hj : X.N[j]? = some y)
    (hx : X.env.scope.names.lookup x = some .local) (hy : X.env.scope.names.lookup y = some .local) (h : parC x y px py a b = true) (ha : PE X a (tS X.K mu fa)) (hb : PE X b (tS X.K mu fb)) :
    PS X (.Assign [.Tuple [.Name x px, .Name y py] kt pt] (.Tuple [a, b] k2 pt2) pos) (sS X.K mu fun S => (fa S).bind fun x => (fb S).map fun y => .nx (st (st S i (some (.sh x.share))) j (some (.sh y.share)))) := by
  have hne : x ≠ y := by
    unfold parC at h
    simp only [Bool.and_eq_true, Bool.not_eq_true', decide_eq_false_iff_not] at h
    exact h.1.1.1.1.2
  have hij : i ≠ j := fun e => by
    subst e
    rw [hi] at hj
    exact hne (Option.some.inj hj)
  have hs : noStar a = true ∧ noStar b = true := by
    unfold parC at h
    simp only [Bool.and_eq_true] at h
    exact ⟨h.1.1.1.2, h.1.1.2⟩
  refine (ps_par hc hN hi hj hij hx hy (pa_cons ha (pa_cons hb pa_nil (star_of hs.2 _ _)) (star_of hs.1 _ _)) (sw_par hk hx hy h)).mono fun D σ H hh => ?_
  obtain ⟨P0, Hb0, S, fl, Hs, os, hf, r, q⟩ := hh
  obtain ⟨m1, h1, hf⟩ := obind hf
  obtain ⟨m2, h2, rfl⟩ := omap hf
  refine tS_use h1 r.up.sub r.env fun v1 H1 Hb1 u1 r1 => tS_use h2 u1.sub (r.got u1).env fun v2 H2 Hb2 u2 r2 => ⟨v1, v2, rfl, ?_⟩
  exact q _ _ _ _ ((((r.got u1).got u2).put (i := i) (r1.mono u2.com)).put (i := j) r2)
end
end Rf

set_option Elab.async false
set_option linter.all false
set_option maxRecDepth 100000
set_option maxHeartbeats 4000000
namespace Rf
open PySem PySem.Spec PyProof.Rows L2

/-! ### does a suite fit the text? -/
def anyComp : Expr → Bool
  | .ListComp .. => true
  | .SetComp .. => true
  | .DictComp .. => true
  | _ => false
def asgOk (ie : E) (e : Expr) : Bool := !anyComp e || (match ie with
  | .comp .. => true
  | _ => false)
section
variable (C : Ck)
mutual
def chkS : Nat → Scope → List Nat → St → Stmt → Bool
  | 0, _, _, _, _ => false
  | n + 1, sc, mu, s, p =>
    match s with
    | .set i ie => (match p with
      | .Assign [.Name x _] e _ => decide (C.N[i]? = some x) && locB sc x && asgOk ie e && chkE C n sc ie e && lkE mu ie
      | _ => false)
    | .setO i ie => (match p with
      | .Assign [.Name x _] e _ => decide (C.N[i]? = some x) && locB sc x && asgOk ie e && chkE C n sc ie e && lkE mu ie && decide (i ∈ mu)
      | _ => false)
    | .unp is ie => (match p with
      | .Assign [.Tuple es _ _] e _ => chkNames C.N sc is es && !anyComp e && !isTup e && chkE C n sc ie e && lkE mu ie
      | _ => false)
    | .par i j a b => (match p with
      | .Assign [.Tuple [.Name x px, .Name y py] _ _] (.Tuple [ea, eb] _ _) _ => decide (C.N[i]? = some x) && decide (C.N[j]? = some y) && decide (sc.names.lookup x = some .local) && decide (sc.names.lookup y = some .local) && parC x y px py ea eb && chkE C n sc a ea && chkE C n sc b eb && lkE mu a && lkE mu b
      | _ => false)
    | .aug i op ie => (match p with
      | .AugAssign (.Name x _) op' e _ => decide (op = op') && decide (C.N[i]? = some x) && locB sc x && chkE C n sc ie e
      | _ => false)
    | .app i ie => (match p with
      | .Expr (.Call (.Attribute (.Name x _) m p2) [e] [] p3) _ => decide (m = ("append" : Str)) && decide (C.N[i]? = some x) && visB sc x && noStar e && chkE C n sc ie e && lkE mu ie && decide (i ∈ mu) && (p2.endLine == p3.line)
      | _ => false)
    | .ifs t a b => (match p with
      | .If e x y _ => chkT C n sc t e && chkSs n sc mu a x && chkSs n sc mu b y
      | _ => false)
    | .fr tg it body fg => (match p with
      | .For etg e b [] _ => chkTg C.N sc tg etg && chkI C n sc it e (isTup etg) && lkI mu it && noSet e && chkSs n sc mu body b
      | _ => false)
    | .ret ie => (match p with
      | .Return (some e) _ => chkE C n sc ie e && lkE mu ie
      | _ => false)
    | .retV i => (match p with
      | .Return (some (.Name x _)) _ => decide (C.N[i]? = some x) && visB sc x
      | _ => false)
    | .retN => (match p with
      | .Return none _ => true
      | _ => false)
    | .brk => (match p with
      | .Break _ => true
      | _ => false)
    | .cnt => (match p with
      | .Continue _ => true
      | _ => false)
    | .pass => (match p with
      | .Pass _ => true
      | _ => false)
    | .drop _ => false
    | .shr _ => false
def chkSs : Nat → Scope → List Nat → Ss → List Stmt → Bool
  | 0, _, _, _, _ => false
  | n + 1, sc, mu, ss, ps =>
    match ss with
    | .nil => (match ps with
      | [] => true
      | _ => false)
    | .cons (.drop is) ss => chkSs n sc mu ss ps
    | .cons (.shr i) ss => chkSs n sc (mu.filter fun j => j != i) ss ps
    | .cons s ss => (match ps with
      | [] => false
      | p :: ps => chkS n sc mu s p && chkSs n sc mu ss ps)
end
end
/-! ### it does what is read -/
section
variable {C : Ck} {c : Nat → List D → Option M} {k : Nat} {X : Cx} {mu : List Nat}
theorem sw_plain {e : Expr} {t : Option Expr} {l : Nat} {env : Env} (h : anyComp e = false) : swapsWith e t l env = pure false := by
  cases e <;> first | (simp [anyComp] at h; done) | rfl
theorem swS_plain {e tg : Expr} {l : Nat} {env : Env} (h : anyComp e = false) : swapsWithSole [tg] e l env = pure false := sw_plain (t := some tg) h
theorem st_plain {e tg : Expr} {env : Env} (h : isTup e = false) : swappedStores [tg] e env = pure none := by
  cases e <;> first | (simp [isTup] at h; done) | (cases tg <;> rfl)
def swC (env : Env) (scope : Scope) (y : Str) (py pos : Pos) : Bool := env.blockKind == .function && env.kindOf y == some .local && py.line == pos.line && !(scope.names.any fun (n, k) => n == y && (k == .local || k == .cell))
theorem sw_comp {elt : Expr} {gs : List Comprehension} {scope : Scope} {pos py : Pos} {y : Str} {l : Nat} {env : Env} : swapsWith (.ListComp elt gs scope pos) (some (.Name y py)) l env = pure (swC env scope y py pos) := rfl
theorem s_asg {n i : Nat} {ie : E} {e : Expr} {y : Str} {py spos : Pos} (h : chkE C n X.env.scope ie e = true) (lk : lkE mu ie = true) (ha : asgOk ie e = true) (cx : Ctx C c k X) (to : TgOk X X.env.scope) (hy : C.N[i]? = some y) (hl : locB X.env.scope y = true) :
    PS X (.Assign [.Name y py] e spos) (tAsg (tS X.K mu (ev c C.G ie)) (gName i)) := by
  obtain ⟨l1, l2⟩ := to y hl
  by_cases hc : anyComp e = true
  · unfold asgOk at ha
    rw [hc] at ha
    cases ie <;> try (simp at ha; done)
    rename_i elt tg it t own
    cases n with
    | zero => simp [chkE] at h
    | succ n =>
    have h0 := h
    simp only [chkE] at h
    split at h
    · rename_i eelt etg eit ifs asy scope pos
      by_cases hs : swC X.env scope y py pos = true
      · simp only [Bool.and_eq_true] at h
        obtain ⟨⟨⟨⟨⟨⟨⟨h1, h2⟩, h3⟩, h4⟩, h8⟩, h5⟩, h6⟩, h7⟩ := h
        have ha := of_decide_eq_true h1
        subst ha
        simp only [lkE, Bool.and_eq_true] at lk
        have ho : ∀ i ∈ tg.is, i ∈ own := fun i hi => by
          have := List.all_eq_true.mp h7 i hi
          simpa using this
        have hmap : (ownOf C.N own).map (·.2) = own := by
          unfold ownOf
          rw [List.map_map]
          exact List.map_id' own
        have ih := snd_all (C := C) (c := c) (k := k) n
        have hyl : X.env.scope.names.lookup y = some .local := by
          unfold swC at hs
          simp only [Bool.and_eq_true] at hs
          have := hs.1.1.2
          have t : X.env.kindOf y = some .local := by simpa using this
          exact t
        have q : PS X _ _ := ps_setLc (pos := pos) (spos := spos) (py := py) (te := tS X.K mu (ev c C.G elt)) (tt := tT X.K mu (evT c C.G t)) (g := gT X.K tg) cx.calm cx.nd (by rw [cx.N]; exact hy) hyl (by rw [sw_comp, hs]) (ih.i _ _ _ _ mu h4 lk.2 X _ cx rfl rfl) (by rw [cx.N]; exact blkOk_by h2)
          (fun s H a cl fp => tg_ok (cx.blk s H _ cl a fp) (TgOk.blk s H _ cl a fp) h3) (fun s H a cl fp => ih.ifs _ _ _ mu h5 _ (cx.blk s H _ cl a fp) rfl) (fun s H a cl fp => ih.e _ _ _ mu h6 lk.1 _ (cx.blk s H _ cl a fp) rfl)
          (fold_of h8 X.env)
        rw [hmap] at q
        refine q.mono fun D σ H hh => lc_of ho _ _ _ ?_
        have : ev c C.G (.comp elt tg it t own) = fun S => _ := funext fun S => by rw [ev]
        rw [this] at hh
        exact hh
      · have hs' : swC X.env scope y py pos = false := by simpa using hs
        exact ps_set cx.nd (by rw [cx.N]; exact hy) l1 ((snd_all (n + 1)).e _ _ _ mu h0 lk X cx rfl) (by rw [sw_comp, hs']) l2
    · cases h
  · have hc' : anyComp e = false := by simpa using hc
    exact ps_set cx.nd (by rw [cx.N]; exact hy) l1 ((snd_all n).e _ _ _ mu h lk X cx rfl) (sw_plain hc') l2
structure Own (X : Cx) : Prop where
  to : TgOk X X.env.scope
  own : PassesOwn (model X.prog X.w) X.A X.env X.xe
  fn : X.env.scope.kind = .function
structure SndS (C : Ck) (c : Nat → List D → Option M) (k n : Nat) : Prop where
  s : ∀ mu is s X, chkS C n X.env.scope mu is s = true → Ctx C c k X → Own X → PS X s (sS X.K mu (ex c C.G is))
  ss : ∀ mu is s X, chkSs C n X.env.scope mu is s = true → Ctx C c k X → Own X → PSs X s (sS X.K mu (exs c C.G is))
theorem StR.less {K : PySem.W.Frag} {P0 Hb0 H Hs : Hp} {S : Sl} {σ : L2.St} {os : Nat → List Addr} {mu mu' : List Nat} (h : ∀ i ∈ mu', i ∈ mu) (r : StR K mu' P0 Hb0 S σ H Hs os) : StR K mu P0 Hb0 S σ H Hs os :=
  ⟨r.up, r.len, r.val, r.nod, r.dis, r.own, fun i m q hi => r.mu i m q fun z => hi (h i z)⟩
theorem Post.less {K : PySem.W.Frag} {P0 Hb0 : Hp} {D : Ends} {fl : Fl} {mu mu' : List Nat} (h : ∀ i ∈ mu', i ∈ mu) (q : Post K mu P0 Hb0 D fl) : Post K mu' P0 Hb0 D fl := by
  cases fl with
  | nx S => exact fun σ H Hs os r => q σ H Hs os (r.less h)
  | bk S => exact fun σ H Hs os r => q σ H Hs os (r.less h)
  | ct S => exact fun σ H Hs os r => q σ H Hs os (r.less h)
  | rt m => exact q
theorem ss_shr' {sts : List Stmt} {f : Sl → Option Fl} (i : Nat) (h : PSs X sts (sS X.K (mu.filter fun j => j != i) f)) : PSs X sts (sS X.K mu fun S => seqF ((gt S i).map fun m => .nx (st S i (some (.sh m.share)))) f) := h.mono fun D σ H h => by
  obtain ⟨P0, Hb0, S, fl, Hs, os, hf, r, q⟩ := h
  obtain ⟨f1, h3, h4⟩ := obind hf
  obtain ⟨m, h5, rfl⟩ := omap h3
  obtain ⟨Hs', os', r'⟩ := r.share h5
  refine ⟨P0, Hb0, _, fl, Hs', os', h4, ⟨r'.up, r'.len, r'.val, r'.nod, r'.dis, r'.own, fun j m' hj hn => ?_⟩, q.less fun j hj => (List.mem_filter.mp hj).1⟩
  by_cases e : j = i
  · subst e
    have q' := gt_st_some (m' := none) hj
    cases q'
    exact ⟨_, rfl⟩
  · exact r'.mu j m' hj fun z => hn (List.mem_filter.mpr ⟨z, by simpa using e⟩)
theorem snd_s : ∀ n, SndS C c k n
  | 0 => ⟨fun _ _ _ _ h => by simp [chkS] at h, fun _ _ _ _ h => by simp [chkSs] at h⟩
  | n + 1 => by
    have ih := snd_s n
    have ie := snd_all (C := C) (c := c) (k := k) n
    refine ⟨?_, ?_⟩
    · intro mu is s X h cx ow
      cases is with
      | set i e =>
        simp only [chkS] at h
        split at h
        · simp only [Bool.and_eq_true, decide_eq_true_eq] at h
          obtain ⟨⟨⟨⟨h1, h2⟩, h3⟩, h4⟩, h5⟩ := h
          exact PS.castS ((s_asg h4 h5 h3 cx ow.to h1 h2).mono asg_set) fun S => by rw [ex]
        · cases h
      | setO i e =>
        simp only [chkS] at h
        split at h
        · simp only [Bool.and_eq_true, decide_eq_true_eq] at h
          obtain ⟨⟨⟨⟨⟨h1, h2⟩, h3⟩, h4⟩, h5⟩, h6⟩ := h
          exact PS.castS ((s_asg h4 h5 h3 cx ow.to h1 h2).mono (asg_setO h6)) fun S => by rw [ex]
        · cases h
      | unp is e =>
        simp only [chkS] at h
        split at h
        · simp only [Bool.and_eq_true, Bool.not_eq_true'] at h
          obtain ⟨⟨⟨⟨h1, h2⟩, h3⟩, h4⟩, h5⟩ := h
          have g := fun kk pp => tg_ok (C := C) (c := c) (k := k) (tg := .tp is) (e := .Tuple _ kk pp) cx ow.to h1
          exact PS.castS ((ps_asg (ie.e _ _ _ mu h4 h5 X cx rfl) (g _ _) (swS_plain h2) (st_plain h3)).mono asg_unp) fun S => by rw [ex]
        · cases h
      | par i j a b =>
        simp only [chkS] at h
        split at h
        · simp only [Bool.and_eq_true, decide_eq_true_eq] at h
          obtain ⟨⟨⟨⟨⟨⟨⟨⟨h1, h2⟩, h3⟩, h4⟩, h5⟩, h6⟩, h7⟩, h8⟩, h9⟩ := h
          exact PS.castS (s_par cx.calm cx.nd ow.fn (by rw [cx.N]; exact h1) (by rw [cx.N]; exact h2) h3 h4 h5 (ie.e _ _ _ mu h6 h8 X cx rfl) (ie.e _ _ _ mu h7 h9 X cx rfl)) fun S => by rw [ex]
        · cases h
      | aug i op e =>
        simp only [chkS] at h
        split at h
        · simp only [Bool.and_eq_true, decide_eq_true_eq] at h
          obtain ⟨⟨⟨h1, h2⟩, h3⟩, h4⟩ := h
          subst h1
          obtain ⟨l1, l2⟩ := ow.to _ h3
          exact PS.castS (s_aug' cx.nd (by rw [cx.N]; exact h2) l1 l2 (ie.e _ _ _ [] h4 (lk_nil _) X cx rfl)) fun S => by rw [ex]
        · cases h
      | app i e =>
        simp only [chkS] at h
        split at h
        · simp only [Bool.and_eq_true, decide_eq_true_eq] at h
          obtain ⟨⟨⟨⟨⟨⟨⟨h0, h1⟩, h2⟩, h3⟩, h4⟩, h5⟩, h6⟩, h7⟩ := h
          subst h0
          obtain ⟨v1, v2, v3⟩ := visB_of h2
          exact PS.castS (s_app' (by rw [cx.N]; exact h1) v1 v2 v3 h3 (ie.e _ _ _ mu h4 h5 X cx rfl) h6 h7) fun S => by rw [ex] <;> rfl
        · cases h
      | ifs t a b =>
        simp only [chkS] at h
        split at h
        · simp only [Bool.and_eq_true] at h
          obtain ⟨⟨h1, h2⟩, h3⟩ := h
          exact PS.castS (s_if (ie.t _ _ _ mu h1 X cx rfl) (ih.ss _ _ _ X h2 cx ow) (ih.ss _ _ _ X h3 cx ow)) fun S => by rw [ex]
        · cases h
      | fr tg it body fg =>
        simp only [chkS] at h
        split at h
        · simp only [Bool.and_eq_true] at h
          obtain ⟨⟨⟨⟨h1, h2⟩, h3⟩, h4⟩, h5⟩ := h
          exact PS.castS (s_for ow.own cx.calm (ie.i _ _ _ _ mu h2 h3 X _ cx rfl rfl) (tg_ok cx ow.to h1) (ih.ss _ _ _ X h5 cx ow) h4) fun S => by rw [ex]
        · cases h
      | ret e =>
        simp only [chkS] at h
        split at h
        · simp only [Bool.and_eq_true] at h
          exact PS.castS (s_ret' (ie.e _ _ _ mu h.1 h.2 X cx rfl)) fun S => by rw [ex]
        · cases h
      | retV i =>
        simp only [chkS] at h
        split at h
        · simp only [Bool.and_eq_true, decide_eq_true_eq] at h
          obtain ⟨v1, v2, v3⟩ := visB_of h.2
          exact PS.castS (s_retV (by rw [cx.N]; exact h.1) v1 v2 v3) fun S => by rw [ex]
        · cases h
      | retN =>
        simp only [chkS] at h
        split at h
        · exact PS.castS s_retN fun S => by rw [ex]
        · cases h
      | brk =>
        simp only [chkS] at h
        split at h
        · exact PS.castS s_brk fun S => by rw [ex]
        · cases h
      | cnt =>
        simp only [chkS] at h
        split at h
        · exact PS.castS s_cnt fun S => by rw [ex]
        · cases h
      | pass =>
        simp only [chkS] at h
        split at h
        · exact PS.castS s_pass fun S => by rw [ex]
        · cases h
      | drop is => simp [chkS] at h
      | shr i => simp [chkS] at h
    · intro mu is s X h cx ow
      cases is with
      | nil =>
        simp only [chkSs] at h
        split at h
        · exact PSs.castS ss_nil fun S => by rw [exs]
        · cases h
      | cons a ss =>
        have gen : ∀ ps : List Stmt, (match ps with | [] => false | p :: ps => chkS C n X.env.scope mu a p && chkSs C n X.env.scope mu ss ps) = true → PSs X ps (sS X.K mu (exs c C.G (.cons a ss))) := by
          intro ps h
          match ps, h with
          | p :: ps, h =>
            obtain ⟨h1, h2⟩ := ba h
            exact PSs.castS (ss_cons (ih.s _ _ _ X h1 cx ow) (ih.ss _ _ _ X h2 cx ow)) fun S => by rw [exs]
        cases a with
        | drop is =>
          simp only [chkSs] at h
          exact PSs.castS (ss_drop is (ih.ss _ _ _ X h cx ow)) fun S => by rw [exs, ex] <;> rfl
        | shr i =>
          simp only [chkSs] at h
          exact PSs.castS (ss_shr' i (ih.ss _ _ _ X h cx ow)) fun S => by rw [exs, ex]
        | _ => exact gen s (by simpa only [chkSs] using h)
end
end Rf

set_option Elab.async false
set_option linter.all false
set_option maxRecDepth 100000
set_option maxHeartbeats 4000000
namespace Rf
open PySem PySem.Spec PyProof.Rows L2

/-! ### a def, a table of defs -/
def chkDef (T : List Fd) (G : List (Str × D)) (mods : List Bi) (n : Nat) (f : Fd) (s : Stmt) : Bool :=
  let sc := defScope s
  decide (sc.kind = .function) && !sc.isCoroutine && !sc.isGenerator && decide f.N.Nodup && decide ((f.N.take f.np).length = f.np) && (f.N.take f.np).all (locB sc) && sc.names.all (fun y => decide (y.2 ≠ .free)) && chkSs ⟨T, G, mods, f.N⟩ n sc f.mu f.body (defBody s)
def BndOk (s : Stmt) (ps : List Str) : Prop := ∀ (x qual : Str) (kV doc pm : Value) (an : Option Addr) (cdv ct : Value) (us : List Value), us.length = ps.length → bindArgs (PySem.W.fnOf x qual (defArgs s) (defBody s) (defScope s) .none kV doc pm an cdv ct) ⟨us, []⟩ = pure (ps.zip us)
def BndAll : List Fd → List Stmt → Prop
  | [], [] => True
  | f :: fs, s :: ss => BndOk s (f.N.take f.np) ∧ BndAll fs ss
  | _, _ => False
def chkAll (T : List Fd) (G : List (Str × D)) (mods : List Bi) (n : Nat) : List Fd → List Stmt → Bool
  | [], [] => true
  | f :: fs, s :: ss => chkDef T G mods n f s && chkAll T G mods n fs ss
  | _, _ => false
theorem chkAll_get {T : List Fd} {G : List (Str × D)} {mods : List Bi} {n : Nat} : ∀ {fs : List Fd} {ss : List Stmt}, chkAll T G mods n fs ss = true → ∀ (i : Nat) (f : Fd), fs[i]? = some f → ∃ s, ss[i]? = some s ∧ chkDef T G mods n f s = true
  | [], [], _, i, f, h => by simp at h
  | f0 :: fs, s0 :: ss, h, i, f, hi => by
    obtain ⟨h1, h2⟩ := ba (show (chkDef T G mods n f0 s0 && chkAll T G mods n fs ss) = true from h)
    cases i with
    | zero => cases hi; exact ⟨s0, rfl, h1⟩
    | succ i => exact chkAll_get h2 i f hi
  | [], _ :: _, h, _, _, _ => by simp [chkAll] at h
  | _ :: _, [], h, _, _, _ => by simp [chkAll] at h
theorem BndAll_get : ∀ {fs : List Fd} {ss : List Stmt}, BndAll fs ss → ∀ (i : Nat) (f : Fd) (s : Stmt), fs[i]? = some f → ss[i]? = some s → BndOk s (f.N.take f.np)
  | [], [], _, i, f, s, h, _ => by simp at h
  | f0 :: fs, s0 :: ss, ⟨h1, h2⟩, i, f, s, hi, hs => by
    cases i with
    | zero => cases hi; cases hs; exact h1
    | succ i => exact BndAll_get h2 i f s hi hs
  | [], _ :: _, h, _, _, _, _, _ => h.elim
  | _ :: _, [], h, _, _, _, _, _ => h.elim
theorem run_len {T : List Fd} {G : List (Str × D)} : ∀ {k i : Nat} {f : Fd} {ds : List D} {m : M}, T[i]? = some f → run T G k i ds = some m → ds.length = f.np
  | 0, _, _, _, _, _, h => by rw [run] at h; cases h
  | k + 1, i, f, ds, m, hf, h => by
    rw [run, hf] at h
    simp only [Option.bind_some] at h
    split at h
    · assumption
    · cases h
theorem gt_none : ∀ (n i : Nat), gt (List.replicate n none) i = none
  | 0, _ => rfl
  | n + 1, 0 => rfl
  | n + 1, i + 1 => gt_none n i
theorem start_val {K : PySem.W.Frag} {H Hb : Hp} (n : Nat) : ∀ {vs : List V} {ds : List D}, RpL K Hb vs ds → ∀ (i : Nat) (m : M), gt (ds.map (fun d => some (.sh d)) ++ List.replicate n none) i = some m → ∃ v, (vs.map some ++ List.replicate n none)[i]? = some (some v) ∧ RpM K H Hb v m []
  | _, _, .nil, i, m, q => by
    have q' : gt (List.replicate n none) i = some m := q
    rw [gt_none] at q'
    cases q'
  | _, _, .cons (v := v) (d := d) h t, 0, m, q => by
    have q' : some (M.sh d) = some m := q
    cases q'
    exact ⟨v, rfl, .sh h⟩
  | _, _, .cons h t, i + 1, m, q => start_val n t i m q
theorem start_sh (n : Nat) : ∀ (ds : List D) (i : Nat) (m : M), gt (ds.map (fun d => some (M.sh d)) ++ List.replicate n none) i = some m → ∃ d, m = .sh d
  | [], i, m, q => by
    have q' : gt (List.replicate n none) i = some m := q
    rw [gt_none] at q'
    cases q'
  | d :: ds, 0, m, q => by
    have q' : some (M.sh d) = some m := q
    cases q'
    exact ⟨d, rfl⟩
  | d :: ds, i + 1, m, q => start_sh n ds i m q
/-- the beginning of a body -/
theorem start_at {vs : List V} {f : Fd} {ds : List D} {K : PySem.W.Frag} {mu : List Nat} {H Hb : Hp} (hl : ds.length = f.np) (eb : Evl.Ex Hb H) (r : RpL K Hb vs ds) : StR K mu H Hb (entry f ds) (L2.start f.N vs) H Hb fun _ => [] := by
  have hvd : vs.length = ds.length := r.len
  have e : f.N.length - vs.length = f.N.length - f.np := by rw [hvd, hl]
  refine ⟨.refl eb, ?_, fun i m q => ?_, fun _ => .nil, fun _ _ _ p hp => absurd hp (by simp), fun _ p hp => absurd hp (by simp), fun i m q _ => start_sh _ ds i m q⟩
  · unfold entry L2.start
    simp only [List.length_append, List.length_map, List.length_replicate, hvd, hl]
  · unfold L2.start
    rw [e]
    exact start_val _ r i m q
/-- what stands around a table -/
structure Amb (K : PySem.W.Frag) (mg : Str → Option Value) (T : List Fd) (G : List (Str × D)) (mods : List Bi) (ss : List Stmt) : Prop where
  fun_ : ∀ (i : Nat) (f : Fd) (s : Stmt), T[i]? = some f → ss[i]? = some s → ∃ a fd, FunD K f.nm f.nm (defArgs s) (defBody s) (defScope s) [] [] a fd ∧ mg f.nm = some (.ref a)
  glob : ∀ (i : Nat) (x : Str) (d : D), G[i]? = some (x, d) → ∃ u v, mg x = some u ∧ RelV v u ∧ ∀ H, Rp K H v d
  bis : ∀ f : Bi, f.own = true → mg f.nm = none
  mods : ∀ f : Bi, f ∈ mods → f.own = false → mg f.nm = some f.val
  tys : ∀ t : Ty, mg (Str.ofString t.nm) = none
  isi : mg "isinstance" = none
  rng : mg "range" = none
  enu : mg "enumerate" = none
  zip : mg "zip" = none
  rvd : mg "reversed" = none
theorem FnOk.never {P : Program} {w : World} {K : PySem.W.Frag} {mg : Str → Option Value} {base : Heap} {a : Addr} {fd : FuncData} {ps : List Str} {sp : Sp} {k : Nat} (h : ∀ vs H Q E, ¬ sp vs H Q E) : FnOk P w K mg base CX0 k a fd ps sp :=
  ⟨fun vs H Q E q => absurd q (h _ _ _ _), fun _ _ _ _ _ _ _ _ _ _ _ _ _ q => absurd q (h _ _ _ _)⟩
theorem tab_ok {T : List Fd} {G : List (Str × D)} {mods : List Bi} {ss : List Stmt} {n : Nat} {K : PySem.W.Frag} {mg : Str → Option Value} {P : Program} {w : World} {base : Heap} (hc : chkAll T G mods n T ss = true) (hb : BndAll T ss) (am : Amb K mg T G mods ss) :
    ∀ (k i : Nat) (f : Fd) (s : Stmt), T[i]? = some f → ss[i]? = some s → ∀ a fd, FunD K f.nm f.nm (defArgs s) (defBody s) (defScope s) [] [] a fd → FnOk P w K mg base CX0 k a fd (f.N.take f.np) (spC K (run T G k) i f.np)
  | 0, i, f, s, hi, hs, a, fd, F => FnOk.never fun vs H Q E q => by
    obtain ⟨_, ds, Hb, m, _, _, h, _⟩ := q
    rw [run] at h
    cases h
  | k + 1, i, f, s, hi, hs, a, fd, F => by
    have IH := tab_ok (P := P) (w := w) (base := base) hc hb am k
    obtain ⟨s', hs', hk⟩ := chkAll_get hc i f hi
    rw [hs] at hs'
    cases hs'
    unfold chkDef at hk
    simp only [Bool.and_eq_true, decide_eq_true_eq, Bool.not_eq_true', List.all_eq_true] at hk
    obtain ⟨⟨⟨⟨⟨⟨⟨k1, k2⟩, k3⟩, k4⟩, k5⟩, k6⟩, k7⟩, k8⟩ := hk
    have S : FnScope f.N (f.N.take f.np) (defScope s) := ⟨k1, k2, k3, k4, by rw [k5], fun x hx => locB_of (k6 x hx), fun y hy => k7 y hy⟩
    refine F.ok S (fun vs H Q E h => by rw [k5]; exact h.1) fun cdv A outer s0 H vs Q E hr h => ?_
    let X : Cx := cxOf CX0 P w K mg base f.N f.nm (defScope s) a cdv A outer s0 H E
    have cx : Ctx ⟨T, G, mods, f.N⟩ (run T G k) k X := ⟨rfl, k4, rfl, hr, fun j g hg => by
      obtain ⟨sj, hsj, _⟩ := chkAll_get hc j g hg
      obtain ⟨b, gd, GF, hm⟩ := am.fun_ j g sj hg hsj
      exact ⟨⟨b, gd, _, IH j g sj hg hsj b gd GF, hm, GF.kp, GF.bindsN fun kV doc pm an cdv ct us hl => BndAll_get hb j g sj hg hsj _ _ kV doc pm an cdv ct us hl⟩⟩,
      am.glob, am.bis, am.mods, am.tys, am.isi, am.rng, am.enu, am.zip, am.rvd, fun j g ds m hg hm => run_len hg hm⟩
    have ow : Own X := ⟨fun x hx => ⟨by rcases locB_of hx with q | q; exact .inl q; exact .inr q, .inl rfl⟩, PassesOwn.leaving, k1⟩
    refine ⟨_, (snd_s n).ss f.mu f.body (defBody s) X k8 cx ow, ?_⟩
    obtain ⟨h1, ds, Hb, m, eb, rl, hrun, q⟩ := h
    rw [run, hi] at hrun
    simp only [Option.bind_some] at hrun
    split at hrun
    · rename_i hl
      obtain ⟨fl, hf, hm⟩ := obind hrun
      refine ⟨H, Hb, entry f ds, fl, Hb, fun _ => [], hf, start_at hl eb rl, ?_⟩
      cases fl with
      | nx S' =>
        cases hm
        exact fun σ' H' Hs' os' r => q _ _ _ _ (.sh r.up .non)
      | rt m' =>
        cases hm
        exact fun v H' Hb' oo g => q v H' Hb' oo g
      | bk _ => cases hm
      | ct _ => cases hm
    · cases hrun
end Rf

set_option Elab.async false
set_option linter.all false
set_option maxRecDepth 100000
set_option maxHeartbeats 4000000
namespace Rf
open PySem PySem.Spec PyProof.Rows L2

/-! ### a law's head over a table -/
def dOf (f : Fd) (s : Stmt) : He.DefD := ⟨(f.nm, none), f.nm, f.nm, defArgs s, defBody s, defScope s, [], []⟩
def dsOf : List Fd → List Stmt → List He.DefD
  | f :: fs, s :: ss => dOf f s :: dsOf fs ss
  | _, _ => []
theorem dsOf_get : ∀ {fs : List Fd} {ss : List Stmt} {i : Nat} {f : Fd} {s : Stmt}, fs[i]? = some f → ss[i]? = some s → (dsOf fs ss)[i]? = some (dOf f s)
  | [], _, i, _, _, h, _ => by simp at h
  | _ :: _, [], _, _, _, _, h => by simp at h
  | f0 :: fs, s0 :: ss, 0, _, _, hf, hs => by cases hf; cases hs; rfl
  | f0 :: fs, s0 :: ss, i + 1, f, s, hf, hs => dsOf_get (fs := fs) (ss := ss) (i := i) hf hs
/-- Python's own names that a text may use -/
def ownNames : List Str := ["len", "int", "abs", "max", "min", "sum", "all", "any", "list", "tuple", "ord", "sorted", "bool", "str", "isinstance", "range", "enumerate", "zip", "reversed"]
/-- a module's constant that is a number, a text -/
def gFa (p : Str × D) : He.Fa := match p.2 with
  | .int i => .int p.1 i
  | .str s => .str p.1 s
  | _ => .keep p.1
def gOk (p : Str × D) : Bool := match p.2 with
  | .int _ => true
  | .str _ => true
  | _ => false
def faOf (T : List Fd) (G : List (Str × D)) : List He.Fa := ownNames.map .free ++ (T.map (fun f => .glo f.nm) ++ G.map gFa)
theorem amb_of {T : List Fd} {G : List (Str × D)} {ss : List Stmt} {K : PySem.W.Frag} {h : Heap} {mg : Str → Option Value} (X : K.In h) (N : h.Ns mainGlobals mg) (hG : G.all gOk = true) (c : He.SaysD (faOf T G) (dsOf T ss) K) : Amb K mg T G [] ss := by
  have fr : ∀ x ∈ ownNames, mg x = none := fun x hx => He.free_ok X N (c.facts (List.mem_append_left _ (List.mem_map.mpr ⟨x, hx, rfl⟩)))
  refine ⟨fun i f s hf hs => ?_, fun i x d hi => ?_, fun f hf => ?_, fun f hf => absurd hf (by simp), fun t => ?_, fr _ (by decide), fr _ (by decide), fr _ (by decide), fr _ (by decide), fr _ (by decide)⟩
  · obtain ⟨fd, F⟩ := c.def_ i (dsOf_get hf hs)
    have hm : f ∈ T := List.mem_of_getElem? hf
    exact ⟨_, fd, F, He.glo_ok X N (c.facts (List.mem_append_right _ (List.mem_append_left _ (List.mem_map.mpr ⟨f, hm, rfl⟩))))⟩
  · have hm : (x, d) ∈ G := List.mem_of_getElem? hi
    have hk := List.all_eq_true.mp hG _ hm
    have ht : gFa (x, d) ∈ faOf T G := List.mem_append_right _ (List.mem_append_right _ (List.mem_map.mpr ⟨_, hm, rfl⟩))
    cases d with
    | int j =>
      obtain ⟨t, e⟩ := He.int_ok X N (c.facts (f := .int x j) ht)
      exact ⟨_, .int j, e, ⟨t, rfl⟩, fun H => .int _⟩
    | str j =>
      obtain ⟨t, e⟩ := He.str_ok X N (c.facts (f := .str x j) ht)
      exact ⟨_, .str j, e, ⟨t, rfl⟩, fun H => .str _⟩
    | _ => cases hk
  · cases f <;> first | (cases hf; done) | exact fr _ (by decide)
  · cases t <;> exact fr _ (by decide)
theorem scr_rp {K : PySem.W.Frag} {H : Hp} {a : Addr} {ns : List Int} (h : SqL K H a (ns.map V.int)) : RpL K H [.ref a] [.scr ns] := .cons (.scr h) .nil
/-- the law's def, its promise -/
theorem law_fn {T : List Fd} {G : List (Str × D)} {ss : List Stmt} {n k i : Nat} {f : Fd} {s : Stmt} {x : Str} {P : Program} {w : World} {K : PySem.W.Frag} {h : Heap} {mg : Str → Option Value} {fa : Addr}
    (hck : chkAll T G [] n T ss = true) (hb : BndAll T ss) (hG : G.all gOk = true) (hT : T[i]? = some f) (hS : ss[i]? = some s) (hps : f.N.take f.np = [x]) (hnp : f.np = 1)
    (hrun : ∀ ns : List Int, ns.length ≤ 63 → run T G k i [.scr ns] = some (.sh (.bl true))) (X : K.In h) (N : h.Ns mainGlobals mg) (hfa : mg f.nm = some (.ref fa)) (c : He.SaysD (faOf T G) (dsOf T ss) K) :
    ∃ (fd : FuncData) (sp : Sp), (∀ (s : Shared) (v : Value), BindsTo s fd ⟨[v], []⟩ [(x, v)]) ∧ (∀ (H : Hp) (a : Addr) (ns : List Int), ns.length ≤ 63 → Only H → SqL K H a (ns.map V.int) → sp [.ref a] H (fun v _ => v = .bl true) fun _ _ _ => False) ∧
      ∀ base : Heap, K.In base → base.Ns mainGlobals mg → FnOk P w K mg base CX0 k fa fd [x] sp := by
  have am := amb_of X N hG c
  obtain ⟨a, fd, F, hm⟩ := am.fun_ i f s hT hS
  have e : fa = a := by
    rw [hfa] at hm
    exact Value.ref.inj (Option.some.inj hm)
  subst e
  refine ⟨fd, spC K (run T G k) i f.np, fun s0 v => ?_, fun H a ns hl _ hSq => ?_, fun base _ _ => ?_⟩
  · have b := FunD.bindsA (ps := f.N.take f.np) F (fun kV doc pm an cdv ct us hl => BndAll_get hb i f s hT hS _ _ kV doc pm an cdv ct us hl) s0 [v] (by rw [hps]; rfl)
    rw [hps] at b
    exact b
  · refine ⟨by rw [hnp]; rfl, [.scr ns], H, _, .refl _, scr_rp hSq, hrun ns hl, fun v H' Hb' oo g => ?_⟩
    have r := g.rp
    generalize hoo : oo = oo' at r
    cases r with
    | sh r => cases r; rfl
  · have := tab_ok (P := P) (w := w) (base := base) hck hb am k i f s hT hS fa fd F
    rw [hps] at this
    exact this
end Rf

set_option Elab.async false
set_option linter.all false
set_option maxRecDepth 100000
set_option maxHeartbeats 4000000
namespace Rf
open PySem PySem.Spec PyProof.Rows L2

/-! ### to reckon with what is read -/
def retM : Fl → Option M
  | .rt m => some m
  | .nx _ => some (.sh .non)
  | _ => none
theorem run_at {T : List Fd} {G : List (Str × D)} {k i : Nat} {ds : List D} (f : Fd) (h : T[i]? = some f) (hl : ds.length = f.np) : run T G (k + 1) i ds = (exs (run T G k) G f.body (entry f ds)).bind retM := by
  rw [run, h]
  simp only [Option.bind_some, if_pos hl]
  congr 1
/-- one turn, its slots forgotten -/
def clrF (fg : List Nat) : Fl → Fl
  | .nx S => .nx (clr S fg)
  | .ct S => .nx (clr S fg)
  | .bk S => .bk (clr S fg)
  | .rt m => .rt m
def turn (bind : D → Sl → Option Sl) (body : Sl → Option Fl) (fg : List Nat) (x : D) (S : Sl) : Option Fl := ((bind x S).bind body).map (clrF fg)
/-! ### the equations -/
section
variable {c : Nat → List D → Option M} {G : List (Str × D)} {S : Sl}
theorem ev_var {i : Nat} : ev c G (.var i) S = (gt S i).map fun m => .sh m.share := by rw [ev] <;> rfl
theorem ev_gl {g : Nat} : ev c G (.gl g) S = (G[g]?).map fun p => .sh p.2 := by rw [ev] <;> rfl
theorem ev_non : ev c G .non S = some (.sh .non) := by rw [ev] <;> rfl
theorem ev_bl {b : Bool} : ev c G (.bl b) S = some (.sh (.bl b)) := by rw [ev] <;> rfl
theorem ev_int {i : Int} : ev c G (.int i) S = some (.sh (.int i)) := by rw [ev] <;> rfl
theorem ev_str {s : Str} : ev c G (.str s) S = some (.sh (.str s)) := by rw [ev] <;> rfl
theorem ev_bin {op : Operator} {a : E} {b : E} : ev c G (.bin op a b) S = (ev c G a S).bind fun x => (ev c G b S).bind fun y => binD op x.share y.share := by rw [ev] <;> rfl
theorem ev_neg {a : E} : ev c G (.neg a) S = (ev c G a S).bind fun x => match x.share with
    | .int i => some (.sh (.int (-i)))
    | _ => none := by rw [ev] <;> rfl
theorem ev_not {a : E} : ev c G (.not a) S = (ev c G a S).bind fun x => (truD x.share).map fun b => .sh (.bl (!b)) := by rw [ev] <;> rfl
theorem ev_and {a : E} {b : E} : ev c G (.and a b) S = (ev c G a S).bind fun x => match x.share with
    | .bl k => if k = true then ev c G b S else some (.sh (.bl false))
    | _ => none := by rw [ev] <;> rfl
theorem ev_or {a : E} {b : E} : ev c G (.or a b) S = (ev c G a S).bind fun x => match x.share with
    | .bl k => if k = true then some (.sh (.bl true)) else ev c G b S
    | _ => none := by rw [ev] <;> rfl
theorem ev_cmp {op : CmpOp} {a : E} {b : E} : ev c G (.cmp op a b) S = (ev c G a S).bind fun x => (ev c G b S).bind fun y => (cmpD op x.share y.share).map fun r => .sh (.bl r) := by rw [ev] <;> rfl
theorem ev_chain {op : CmpOp} {op' : CmpOp} {a : E} {b : E} {d : E} : ev c G (.chain op op' a b d) S = (ev c G a S).bind fun x => (ev c G b S).bind fun y => (cmpD op x.share y.share).bind fun r => if r = true then (ev c G d S).bind fun z => (cmpD op' y.share z.share).map fun r => .sh (.bl r) else some (.sh (.bl false)) := by rw [ev] <;> rfl
theorem ev_ite {t : T} {a : E} {b : E} : ev c G (.ite t a b) S = (evT c G t S).bind fun k => if k = true then ev c G a S else ev c G b S := by rw [ev] <;> rfl
theorem ev_blt {f : Bi} {es : Es} : ev c G (.blt f es) S = (evs c G es S).bind fun ms => bltM f (M.shares ms) := by rw [ev] <;> rfl
theorem ev_isi {a : E} {t : Ty} : ev c G (.isi a t) S = (ev c G a S).map fun x => .sh (.bl (isiD x.share t)) := by rw [ev] <;> rfl
theorem ev_call {f : Nat} {es : Es} : ev c G (.call f es) S = (evs c G es S).bind fun ms => c f (M.shares ms) := by rw [ev] <;> rfl
theorem ev_ix {a : E} {i : E} : ev c G (.ix a i) S = (ev c G a S).bind fun x => (ev c G i S).bind fun y => (ixD x.share y.share).map .sh := by rw [ev] <;> rfl
theorem ev_sl {a : E} {lo : E} {hi : E} : ev c G (.sl a lo hi) S = (ev c G a S).bind fun x => ((ev c G lo S).bind (nbM (isNon lo))).bind fun y => ((ev c G hi S).bind (nbM (isNon hi))).bind fun z => slM x.share y.share z.share := by rw [ev] <;> rfl
theorem ev_rev {a : E} : ev c G (.rev a) S = (ev c G a S).bind fun x => (lstD x.share).map fun xs => .od xs.reverse := by rw [ev] <;> rfl
theorem ev_lst {es : Es} : ev c G (.lst es) S = (evs c G es S).bind fun ms => if ms.length ≤ big then some (.ol ms) else none := by rw [ev] <;> rfl
theorem ev_tup {es : Es} : ev c G (.tup es) S = (evs c G es S).bind fun ms => if ms.length ≤ big then some (.ot ms) else none := by rw [ev] <;> rfl
theorem ev_lrng {a : E} : ev c G (.lrng a) S = (ev c G a S).bind fun x => match x.share with
    | .int n => if -(big : Int) ≤ n ∧ n ≤ (big : Int) then some (.od (rngD 0 n)) else none
    | _ => none := by rw [ev] <;> rfl
theorem ev_fl {e : E} : ev c G (.fl e) S = (ev c G e S).bind fun x => if flat x.share = true then some (.sh x.share) else none := by rw [ev] <;> rfl
theorem evs_nil : evs c G .nil S = some [] := by rw [evs] <;> rfl
theorem evs_cons {e : E} {es : Es} : evs c G (.cons e es) S = (ev c G e S).bind fun x => (evs c G es S).map fun xs => x :: xs := by rw [evs] <;> rfl
theorem evT_yes : evT c G .yes S = some true := by rw [evT] <;> rfl
theorem evT_e {e : E} : evT c G (.e e) S = (ev c G e S).bind fun x => truD x.share := by rw [evT] <;> rfl
theorem evT_not {t : T} : evT c G (.not t) S = (evT c G t S).map (!·) := by rw [evT] <;> rfl
theorem evT_and {t : T} {u : T} : evT c G (.and t u) S = (evT c G t S).bind fun b => if b = true then evT c G u S else some false := by rw [evT] <;> rfl
theorem evT_or {t : T} {u : T} : evT c G (.or t u) S = (evT c G t S).bind fun b => if b = true then some true else evT c G u S := by rw [evT] <;> rfl
theorem evI_it {e : E} : evI c G (.it e) S = (ev c G e S).bind fun x => itD x.share := by rw [evI] <;> rfl
theorem evI_r1 {a : E} : evI c G (.r1 a) S = (ev c G a S).bind fun x => match x.share with
    | .int n => if -(big : Int) ≤ n ∧ n ≤ (big : Int) then some (rngD 0 n) else none
    | _ => none := by rw [evI] <;> rfl
theorem evI_r2 {a : E} {b : E} : evI c G (.r2 a b) S = (ev c G a S).bind fun x => (ev c G b S).bind fun y => match x.share, y.share with
    | .int m, .int n => if (-(big : Int) ≤ m ∧ m ≤ (big : Int)) ∧ -(big : Int) ≤ n ∧ n ≤ (big : Int) then some (rngD m n) else none
    | _, _ => none := by rw [evI] <;> rfl
theorem evI_en {a : E} : evI c G (.en a) S = (ev c G a S).bind fun x => (lstD x.share).map enD := by rw [evI] <;> rfl
theorem evI_zp {a : E} {b : E} : evI c G (.zp a b) S = (ev c G a S).bind fun x => (ev c G b S).bind fun y => (lstD x.share).bind fun xs => (lstD y.share).map fun ys => zpD xs ys := by rw [evI] <;> rfl
theorem evI_rv {a : E} : evI c G (.rv a) S = (ev c G a S).bind fun x => (lstD x.share).map List.reverse := by rw [evI] <;> rfl
theorem ex_set {i : Nat} {e : E} : ex c G (.set i e) S = (ev c G e S).map fun m => .nx (st S i (some (.sh m.share))) := by rw [ex] <;> rfl
theorem ex_setO {i : Nat} {e : E} : ex c G (.setO i e) S = (ev c G e S).map fun m => .nx (st S i (some m)) := by rw [ex] <;> rfl
theorem ex_unp {is : (List Nat)} {e : E} : ex c G (.unp is e) S = (ev c G e S).bind fun m => (bindT (.tp is) m.share S).map .nx := by rw [ex] <;> rfl
theorem ex_par {i : Nat} {j : Nat} {a : E} {b : E} : ex c G (.par i j a b) S = (ev c G a S).bind fun x => (ev c G b S).map fun y => .nx (st (st S i (some (.sh x.share))) j (some (.sh y.share))) := by rw [ex] <;> rfl
theorem ex_aug {i : Nat} {op : Operator} {e : E} : ex c G (.aug i op e) S = (gt S i).bind fun m => (ev c G e S).bind fun y => (augD op m.share y.share).map fun z => .nx (st S i (some (.sh z))) := by rw [ex] <;> rfl
theorem ex_app {i : Nat} {e : E} : ex c G (.app i e) S = (gt S i).bind fun m => (ev c G e S).bind fun y => match m with
    | .od xs => if xs.length < big then some (.nx (st S i (some (.od (xs ++ [y.share]))))) else none
    | .ol xs => if xs.length < big then some (.nx (st S i (some (.ol (xs ++ [y]))))) else none
    | _ => none := by rw [ex] <;> rfl
theorem ex_ifs {t : T} {a : Ss} {b : Ss} : ex c G (.ifs t a b) S = (evT c G t S).bind fun k => if k = true then exs c G a S else exs c G b S := by rw [ex] <;> rfl
theorem ex_ret {e : E} : ex c G (.ret e) S = (ev c G e S).map .rt := by rw [ex] <;> rfl
theorem ex_retV {i : Nat} : ex c G (.retV i) S = (gt S i).map .rt := by rw [ex] <;> rfl
theorem ex_retN : ex c G .retN S = some (.rt (.sh .non)) := by rw [ex] <;> rfl
theorem ex_brk : ex c G .brk S = some (.bk S) := by rw [ex] <;> rfl
theorem ex_cnt : ex c G .cnt S = some (.ct S) := by rw [ex] <;> rfl
theorem ex_pass : ex c G .pass S = some (.nx S) := by rw [ex] <;> rfl
theorem ex_drop {is : (List Nat)} : ex c G (.drop is) S = some (.nx (clr S is)) := by rw [ex] <;> rfl
theorem ex_shr {i : Nat} : ex c G (.shr i) S = (gt S i).map fun m => .nx (st S i (some (.sh m.share))) := by rw [ex] <;> rfl
theorem exs_nil : exs c G .nil S = some (.nx S) := by rw [exs]
theorem exs_cons {s : St} {ss : Ss} : exs c G (.cons s ss) S = seqF (ex c G s S) (exs c G ss) := by rw [exs]
theorem seqF_nx {k : Sl → Option Fl} : seqF (some (.nx S)) k = k S := rfl
theorem seqF_rt {k : Sl → Option Fl} {m : M} : seqF (some (.rt m)) k = some (.rt m) := rfl
theorem seqF_bk {k : Sl → Option Fl} : seqF (some (.bk S)) k = some (.bk S) := rfl
theorem seqF_ct {k : Sl → Option Fl} : seqF (some (.ct S)) k = some (.ct S) := rfl
/-- a loop, its body as text -/
noncomputable def loopS (c : Nat → List D → Option M) (G : List (Str × D)) (tg : Tg) (body : Ss) (fg : List Nat) (xs : List D) (S : Sl) : Option Fl := loop (bindT tg) (exs c G body) fg xs S
theorem ex_fr {tg : Tg} {it : I} {body : Ss} {fg : List Nat} : ex c G (.fr tg it body fg) S = (evI c G it S).bind fun xs => loopS c G tg body fg xs S := by rw [ex]; rfl
noncomputable def turnS (c : Nat → List D → Option M) (G : List (Str × D)) (tg : Tg) (body : Ss) (fg : List Nat) (x : D) (S : Sl) : Option Fl := turn (bindT tg) (exs c G body) fg x S
theorem turnS_eq {tg : Tg} {body : Ss} {fg : List Nat} {x : D} : turnS c G tg body fg x S = ((bindT tg x S).bind (exs c G body)).map (clrF fg) := rfl
/-- a comprehension, its parts as text -/
noncomputable def compT (c : Nat → List D → Option M) (G : List (Str × D)) (elt : E) (tg : Tg) (t : T) (own : List Nat) (S : Sl) (x : D) : Option (Option M) := (bindT tg x (clr S own)).bind fun S1 => (evT c G t S1).bind fun k => if k = true then (ev c G elt S1).map some else some none
noncomputable def turnsS (c : Nat → List D → Option M) (G : List (Str × D)) (elt : E) (tg : Tg) (t : T) (own : List Nat) (xs : List D) (S : Sl) : Option (List M) := turns (compT c G elt tg t own S) xs
theorem ev_comp {elt : E} {tg : Tg} {it : I} {t : T} {own : List Nat} : ev c G (.comp elt tg it t own) S = (evI c G it S).bind fun xs => (turnsS c G elt tg t own xs S).map .ol := by rw [ev]; rfl
theorem compT_eq {elt : E} {tg : Tg} {t : T} {own : List Nat} {x : D} : compT c G elt tg t own S x = (bindT tg x (clr S own)).bind fun S1 => (evT c G t S1).bind fun k => if k = true then (ev c G elt S1).map some else some none := rfl
end
section
variable {bind : D → Sl → Option Sl} {body : Sl → Option Fl} {fg : List Nat}
theorem loop_nil {S : Sl} : loop bind body fg [] S = some (.nx S) := rfl
theorem loop_cons {x : D} {xs : List D} {S : Sl} : loop bind body fg (x :: xs) S = (turn bind body fg x S).bind fun f => match f with
    | .nx S' => loop bind body fg xs S'
    | .ct S' => loop bind body fg xs S'
    | .bk S' => some (.nx S')
    | .rt m => some (.rt m) := by
  show ((bind x S).bind fun S1 => (body S1).bind fun f => _) = ((((bind x S).bind body).map (clrF fg)).bind _)
  cases bind x S with
  | none => rfl
  | some S1 =>
    simp only [Option.bind_some]
    cases body S1 with
    | none => rfl
    | some f => cases f <;> rfl
theorem loop_next {x : D} {xs : List D} {S S' : Sl} (h : turn bind body fg x S = some (.nx S')) : loop bind body fg (x :: xs) S = loop bind body fg xs S' := by
  rw [loop_cons, h]; rfl
theorem loop_ret {x : D} {xs : List D} {S : Sl} {m : M} (h : turn bind body fg x S = some (.rt m)) : loop bind body fg (x :: xs) S = some (.rt m) := by
  rw [loop_cons, h]; rfl
theorem loop_brk {x : D} {xs : List D} {S S' : Sl} (h : turn bind body fg x S = some (.bk S')) : loop bind body fg (x :: xs) S = some (.nx S') := by
  rw [loop_cons, h]; rfl
/-- a fold -/
theorem loop_fold {α β : Type} (enc : β → Sl) (step : β → α → β) (e : α → D) (I : β → Prop) : ∀ (xs : List α) (b : β), I b → (∀ x ∈ xs, ∀ b, I b → turn bind body fg (e x) (enc b) = some (.nx (enc (step b x))) ∧ I (step b x)) →
    loop bind body fg (xs.map e) (enc b) = some (.nx (enc (xs.foldl step b))) ∧ I (xs.foldl step b)
  | [], b, hb, _ => ⟨rfl, hb⟩
  | x :: xs, b, hb, h => by
    obtain ⟨h1, h2⟩ := h x (List.mem_cons_self ..) b hb
    rw [List.map_cons, loop_next h1]
    exact loop_fold enc step e I xs _ h2 fun y hy => h y (List.mem_cons_of_mem _ hy)
theorem loop_fold0 {α β : Type} (enc : β → Sl) (step : β → α → β) (e : α → D) (xs : List α) (b : β) (h : ∀ x ∈ xs, ∀ b, turn bind body fg (e x) (enc b) = some (.nx (enc (step b x)))) :
    loop bind body fg (xs.map e) (enc b) = some (.nx (enc (xs.foldl step b))) := (loop_fold enc step e (fun _ => True) xs b trivial fun x hx b _ => ⟨h x hx b, trivial⟩).1
/-- the state stays as it is -/
theorem loop_stay {α : Type} (e : α → D) (S : Sl) : ∀ xs : List α, (∀ x ∈ xs, turn bind body fg (e x) S = some (.nx S)) → loop bind body fg (xs.map e) S = some (.nx S)
  | [], _ => rfl
  | x :: xs, h => by
    rw [List.map_cons, loop_next (h x (List.mem_cons_self ..))]
    exact loop_stay e S xs fun y hy => h y (List.mem_cons_of_mem _ hy)
/-- an invariant over what is done -/
theorem loop_inv {α : Type} (e : α → D) (I : List α → Sl → Prop) : ∀ (xs done : List α) (S : Sl), I done S → (∀ d x rest, done ++ xs = d ++ x :: rest → ∀ S, I d S → ∃ S', turn bind body fg (e x) S = some (.nx S') ∧ I (d ++ [x]) S') →
    ∃ S', loop bind body fg (xs.map e) S = some (.nx S') ∧ I (done ++ xs) S'
  | [], done, S, hb, _ => ⟨S, rfl, by rw [List.append_nil]; exact hb⟩
  | x :: xs, done, S, hb, h => by
    obtain ⟨S1, h1, h2⟩ := h done x xs rfl S hb
    rw [List.map_cons, loop_next h1]
    obtain ⟨S', h3, h4⟩ := loop_inv e I xs (done ++ [x]) S1 h2 fun d y r hr S hS => h d y r (by rw [← hr, List.append_assoc]; rfl) S hS
    exact ⟨S', h3, by rw [List.append_assoc] at h4; exact h4⟩
/-- a plain invariant -/
theorem loop_keep {α : Type} (e : α → D) (I : Sl → Prop) : ∀ (xs : List α) (S : Sl), I S → (∀ x ∈ xs, ∀ S, I S → ∃ S', turn bind body fg (e x) S = some (.nx S') ∧ I S') →
    ∃ S', loop bind body fg (xs.map e) S = some (.nx S') ∧ I S'
  | [], S, hb, _ => ⟨S, rfl, hb⟩
  | x :: xs, S, hb, h => by
    obtain ⟨S1, h1, h2⟩ := h x (List.mem_cons_self ..) S hb
    rw [List.map_cons, loop_next h1]
    exact loop_keep e I xs S1 h2 fun y hy S hS => h y (List.mem_cons_of_mem _ hy) S hS
/-- a search that ends the def -/
theorem loop_find {α : Type} (e : α → D) (S : Sl) (p : α → Bool) (m : M) : ∀ xs : List α, (∀ x ∈ xs, turn bind body fg (e x) S = some (if p x = true then .rt m else .nx S)) → loop bind body fg (xs.map e) S = some (if xs.any p = true then .rt m else .nx S)
  | [], _ => rfl
  | x :: xs, h => by
    have h1 := h x (List.mem_cons_self ..)
    rw [List.map_cons, List.any_cons]
    by_cases hp : p x = true
    · rw [if_pos hp] at h1
      rw [loop_ret h1, hp]
      rfl
    · rw [if_neg hp] at h1
      rw [loop_next h1, loop_find e S p m xs fun y hy => h y (List.mem_cons_of_mem _ hy)]
      simp only [Bool.not_eq_true] at hp
      rw [hp, Bool.false_or]
end
/-- comprehensions -/
theorem turns_map {α : Type} (e : α → D) (f : D → Option (Option M)) (g : α → M) : ∀ xs : List α, (∀ x ∈ xs, f (e x) = some (some (g x))) → turns f (xs.map e) = some (xs.map g)
  | [], _ => rfl
  | x :: xs, h => by
    rw [List.map_cons, turns, h x (List.mem_cons_self ..), Option.bind_some, turns_map e f g xs fun y hy => h y (List.mem_cons_of_mem _ hy)]
    rfl
theorem turns_filter {α : Type} (e : α → D) (f : D → Option (Option M)) (p : α → Bool) (g : α → M) : ∀ xs : List α, (∀ x ∈ xs, f (e x) = some (if p x = true then some (g x) else none)) → turns f (xs.map e) = some ((xs.filter p).map g)
  | [], _ => rfl
  | x :: xs, h => by
    rw [List.map_cons, turns, h x (List.mem_cons_self ..), Option.bind_some, turns_filter e f p g xs fun y hy => h y (List.mem_cons_of_mem _ hy), List.filter_cons]
    cases p x <;> rfl
theorem intsD_map {α : Type} (g : α → Int) : ∀ xs : List α, intsD (xs.map fun x => .int (g x)) = some (xs.map g)
  | [] => rfl
  | x :: xs => by rw [List.map_cons, intsD, intsD_map g xs]; rfl
theorem blsD_map {α : Type} (g : α → Bool) : ∀ xs : List α, blsD (xs.map fun x => .bl (g x)) = some (xs.map g)
  | [] => rfl
  | x :: xs => by rw [List.map_cons, blsD, blsD_map g xs]; rfl
theorem rngD_nat (n : Nat) : rngD 0 (n : Int) = (List.range n).map fun (i : Nat) => D.int (i : Int) := by
  unfold rngD
  rw [show ((n : Int) - 0).toNat = n by omega]
  exact List.map_congr_left fun i _ => by rw [Int.zero_add]
theorem pl_nat {n i : Nat} (h : i < n) : pl n (i : Int) = some i := by
  unfold pl
  rw [if_pos (by omega), if_pos (by omega)]
  simp
theorem ix_lst {α : Type} (e : α → D) {xs : List α} {i : Nat} (h : i < xs.length) : ixD (.lst (xs.map e)) (.int (i : Int)) = some (e xs[i]) := by
  unfold ixD
  simp only [List.length_map, pl_nat h, Option.bind_some, List.getElem?_map, List.getElem?_eq_getElem h, Option.map_some]
theorem eqDs_refl_of {xs : List D} (h : ∀ x ∈ xs, eqD x x = true) : eqDs xs xs = true := by
  induction xs with
  | nil => rfl
  | cons x xs ih =>
    rw [eqDs, h x (List.mem_cons_self ..), ih fun y hy => h y (List.mem_cons_of_mem _ hy)]
    rfl
section
variable {c : Nat → List D → Option M} {G : List (Str × D)} {tg : Tg} {body : Ss} {fg : List Nat} {elt : E} {t : T} {own : List Nat} {S : Sl}
theorem loopS_fold {α β : Type} (enc : β → Sl) (step : β → α → β) (e : α → D) (I : β → Prop) (xs : List α) (b : β) (hb : I b) (h : ∀ x ∈ xs, ∀ b, I b → turnS c G tg body fg (e x) (enc b) = some (.nx (enc (step b x))) ∧ I (step b x)) :
    loopS c G tg body fg (xs.map e) (enc b) = some (.nx (enc (xs.foldl step b))) ∧ I (xs.foldl step b) := loop_fold enc step e I xs b hb h
theorem loopS_fold0 {α β : Type} (enc : β → Sl) (step : β → α → β) (e : α → D) (xs : List α) (b : β) (h : ∀ x ∈ xs, ∀ b, turnS c G tg body fg (e x) (enc b) = some (.nx (enc (step b x)))) :
    loopS c G tg body fg (xs.map e) (enc b) = some (.nx (enc (xs.foldl step b))) := loop_fold0 enc step e xs b h
theorem loopS_stay {α : Type} (e : α → D) (S : Sl) (xs : List α) (h : ∀ x ∈ xs, turnS c G tg body fg (e x) S = some (.nx S)) : loopS c G tg body fg (xs.map e) S = some (.nx S) := loop_stay e S xs h
theorem loopS_keep {α : Type} (e : α → D) (I : Sl → Prop) (xs : List α) (S : Sl) (hS : I S) (h : ∀ x ∈ xs, ∀ S, I S → ∃ S', turnS c G tg body fg (e x) S = some (.nx S') ∧ I S') : ∃ S', loopS c G tg body fg (xs.map e) S = some (.nx S') ∧ I S' := loop_keep e I xs S hS h
theorem loopS_inv {α : Type} (e : α → D) (I : List α → Sl → Prop) (xs : List α) (S : Sl) (hS : I [] S) (h : ∀ d x rest, xs = d ++ x :: rest → ∀ S, I d S → ∃ S', turnS c G tg body fg (e x) S = some (.nx S') ∧ I (d ++ [x]) S') : ∃ S', loopS c G tg body fg (xs.map e) S = some (.nx S') ∧ I xs S' := loop_inv e I xs [] S hS h
/-- the state told by what is done -/
theorem loopS_done {α : Type} (e : α → D) (enc : List α → Sl) (xs : List α) (h : ∀ d x rest, xs = d ++ x :: rest → turnS c G tg body fg (e x) (enc d) = some (.nx (enc (d ++ [x])))) : loopS c G tg body fg (xs.map e) (enc []) = some (.nx (enc xs)) := by
  obtain ⟨S', h1, h2⟩ := loopS_inv (c := c) (G := G) (tg := tg) (body := body) (fg := fg) e (fun d S => S = enc d) xs (enc []) rfl fun d x rest hx S hS => ⟨_, by rw [hS]; exact h d x rest hx, rfl⟩
  rw [h1, h2]
theorem loopS_doneE {α : Type} (e : α → D) (enc : List α → Sl) (xs : List α) {S : Sl} (h0 : S = enc []) (h : ∀ d x rest, xs = d ++ x :: rest → turnS c G tg body fg (e x) (enc d) = some (.nx (enc (d ++ [x])))) : loopS c G tg body fg (xs.map e) S = some (.nx (enc xs)) := by
  rw [h0]; exact loopS_done e enc xs h
theorem loopS_foldE {α β : Type} (enc : β → Sl) (step : β → α → β) (e : α → D) (xs : List α) (b : β) {S : Sl} (h0 : S = enc b) (h : ∀ x ∈ xs, ∀ b, turnS c G tg body fg (e x) (enc b) = some (.nx (enc (step b x)))) :
    loopS c G tg body fg (xs.map e) S = some (.nx (enc (xs.foldl step b))) := by
  rw [h0]; exact loopS_fold0 enc step e xs b h
theorem loopS_find {α : Type} (e : α → D) (S : Sl) (p : α → Bool) (m : M) (xs : List α) (h : ∀ x ∈ xs, turnS c G tg body fg (e x) S = some (if p x = true then .rt m else .nx S)) : loopS c G tg body fg (xs.map e) S = some (if xs.any p = true then .rt m else .nx S) := loop_find e S p m xs h
theorem loopS_nil : loopS c G tg body fg [] S = some (.nx S) := rfl
theorem turnsS_map {α : Type} (e : α → D) (g : α → M) (xs : List α) (h : ∀ x ∈ xs, compT c G elt tg t own S (e x) = some (some (g x))) : turnsS c G elt tg t own (xs.map e) S = some (xs.map g) := turns_map e _ g xs h
theorem turnsS_filter {α : Type} (e : α → D) (p : α → Bool) (g : α → M) (xs : List α) (h : ∀ x ∈ xs, compT c G elt tg t own S (e x) = some (if p x = true then some (g x) else none)) : turnsS c G elt tg t own (xs.map e) S = some ((xs.filter p).map g) := turns_filter e _ p g xs h
end
theorem share_ols {α : Type} (g : α → M) (xs : List α) : (M.ol (xs.map g)).share = .lst (xs.map fun x => (g x).share) := by
  show D.lst (M.shares (xs.map g)) = _
  rw [shares_map, List.map_map]
  rfl
theorem shares_mapF {α : Type} (g : α → M) (xs : List α) : M.shares (xs.map g) = xs.map fun x => (g x).share := by
  rw [shares_map, List.map_map]
  rfl
theorem bigI : ((1000000 : Nat) : Int) = 1000000 := rfl
theorem pl_at {n i : Nat} : pl n (i : Int) = if i < n then some i else none := by
  unfold pl
  rw [if_pos (by omega)]
  by_cases h : i < n
  · rw [if_pos (by omega), if_pos h]; simp
  · rw [if_neg (by omega), if_neg h]
theorem ix_lstN {xs : List D} (i : Nat) : ixD (.lst xs) (.int (i : Int)) = xs[i]? := by
  show (pl xs.length (i : Int)).bind _ = _
  rw [pl_at]
  by_cases h : i < xs.length
  · rw [if_pos h]; rfl
  · rw [if_neg h, List.getElem?_eq_none (by omega)]; rfl
theorem ix_tupN {xs : List D} (i : Nat) : ixD (.tup xs) (.int (i : Int)) = xs[i]? := by
  show (pl xs.length (i : Int)).bind _ = _
  rw [pl_at]
  by_cases h : i < xs.length
  · rw [if_pos h]; rfl
  · rw [if_neg h, List.getElem?_eq_none (by omega)]; rfl
theorem ix_t0 {xs : List D} : ixD (.tup xs) (.int 0) = xs[0]? := ix_tupN 0
theorem ix_t1 {xs : List D} : ixD (.tup xs) (.int 1) = xs[1]? := ix_tupN 1
theorem ix_t2 {xs : List D} : ixD (.tup xs) (.int 2) = xs[2]? := ix_tupN 2
theorem ix_t3 {xs : List D} : ixD (.tup xs) (.int 3) = xs[3]? := ix_tupN 3
theorem ix_t4 {xs : List D} : ixD (.tup xs) (.int 4) = xs[4]? := ix_tupN 4
theorem ix_l0 {xs : List D} : ixD (.lst xs) (.int 0) = xs[0]? := ix_lstN 0
theorem ix_l1 {xs : List D} : ixD (.lst xs) (.int 1) = xs[1]? := ix_lstN 1
theorem ix_l2 {xs : List D} : ixD (.lst xs) (.int 2) = xs[2]? := ix_lstN 2
theorem ix_l3 {xs : List D} : ixD (.lst xs) (.int 3) = xs[3]? := ix_lstN 3
theorem ix_l4 {xs : List D} : ixD (.lst xs) (.int 4) = xs[4]? := ix_lstN 4
theorem ix_scrN {ns : List Int} (i : Nat) : ixD (.scr ns) (.int (i : Int)) = (ns[i]?).map .int := by
  show (pl ns.length (i : Int)).bind _ = _
  rw [pl_at]
  by_cases h : i < ns.length
  · rw [if_pos h]; rfl
  · rw [if_neg h, List.getElem?_eq_none (by omega)]; rfl
theorem enD_map {α : Type} (e : α → D) (xs : List α) : enD (xs.map e) = xs.zipIdx.map fun p => .tup [.int (p.2 : Int), e p.1] := by
  unfold enD
  apply List.ext_getElem?
  intro i
  simp only [List.getElem?_zipWith, List.getElem?_map, List.length_map, List.getElem?_zipIdx, Nat.zero_add]
  by_cases h : i < xs.length
  · simp [h]
  · simp [h]
theorem toPys_ints (l : List Int) : toPys (l.map D.int) = l.map PyData.int := by
  rw [toPys_map, List.map_map]; rfl
theorem alike_ints : ∀ a b : List Int, PySem.W.alikeAll (a.map PyData.int) (b.map PyData.int) = true
  | [], _ => by cases ‹List Int› <;> rfl
  | _ :: _, [] => rfl
  | x :: a, y :: b => by
    rw [List.map_cons, List.map_cons, PySem.W.alikeAll, alike_ints a b]
    rfl
theorem dmax_ints : ∀ a : List Int, PyData.depthAll (a.map PyData.int) ≤ 1
  | [] => by simp [PyData.depthAll]
  | x :: a => by
    rw [List.map_cons, PyData.depthAll]
    have := dmax_ints a
    simp [PyData.depth]
    omega
theorem lt_ints (a b : List Int) : PySem.W.dataLt (.tuple (a.map PyData.int)) (.tuple (b.map PyData.int)) = decide (a < b) := by
  rw [PySem.W.dataLt_tuple]
  exact PySem.W.dataLt_ints a b
/-- sorted: tuples of ints -/
theorem srtM_ints {α : Type} (e : α → List Int) (xs : List α) (h : ∀ x ∈ xs, e x ≠ []) : srtM (xs.map fun x => .tup ((e x).map .int)) = some ((xs.mergeSort fun a b => !decide (e b < e a)).map fun x => .tup ((e x).map .int)) := by
  have ok : srtOk (xs.map fun x => .tup ((e x).map .int)) := by
    have mem : ∀ d ∈ toPys (xs.map fun x => .tup ((e x).map .int)), ∃ x ∈ xs, d = .tuple ((e x).map .int) := by
      intro d hd
      rw [toPys_map, List.map_map, List.mem_map] at hd
      obtain ⟨x, hx, rfl⟩ := hd
      exact ⟨x, hx, by show PyData.tuple (toPys _) = _; rw [toPys_ints]⟩
    refine ⟨fun d hd d' hd' => ?_, .inl fun d hd => ?_, fun d hd => ?_⟩
    · obtain ⟨x, _, rfl⟩ := mem d hd
      obtain ⟨y, _, rfl⟩ := mem d' hd'
      show PySem.W.alikeAll _ _ = true
      exact alike_ints _ _
    · obtain ⟨x, hx, rfl⟩ := mem d hd
      cases he : e x with
      | nil => exact absurd he (h x hx)
      | cons a r => exact ⟨_, _, rfl⟩
    · obtain ⟨x, hx, rfl⟩ := List.mem_map.mp hd
      show (PyData.tuple (toPys _)).depth ≤ 100
      rw [toPys_ints, PyData.depth]
      have := dmax_ints (e x)
      omega
  unfold srtM
  rw [if_pos ok]
  congr 1
  symm
  refine List.map_mergeSort fun a _ b _ => ?_
  show _ = !PySem.W.dataLt (.tuple (toPys _)) (.tuple (toPys _))
  rw [toPys_ints, toPys_ints, lt_ints]
theorem lt_irr (a : List Int) : ¬ a < a := List.lt_irrefl a
/-- what is in strict order is what sorting gives -/
theorem sort_is {α : Type} (e : α → List Int) {xs ys : List α} (hp : ys.Perm xs) (hs : ys.Pairwise fun a b => e a < e b) : (xs.mergeSort fun a b => !decide (e b < e a)) = ys := by
  have tr : ∀ a b c : α, (!decide (e b < e a)) = true → (!decide (e c < e b)) = true → (!decide (e c < e a)) = true := by
    intro a b c h1 h2
    simp only [Bool.not_eq_true', decide_eq_false_iff_not] at h1 h2 ⊢
    exact fun h => List.not_lt.mpr (List.le_trans (List.not_lt.mp h1) (List.not_lt.mp h2)) h
  have tot : ∀ a b : α, (!decide (e b < e a) || !decide (e a < e b)) = true := by
    intro a b
    by_cases h : e b < e a
    · have : ¬ e a < e b := List.lt_asymm h
      simp [this]
    · simp [h]
  have s1 := List.pairwise_mergeSort tr tot xs
  have p1 : (xs.mergeSort fun a b => !decide (e b < e a)).Perm ys := (List.mergeSort_perm xs _).trans hp.symm
  generalize (xs.mergeSort fun a b => !decide (e b < e a)) = zs at s1 p1
  clear hp
  induction ys generalizing zs with
  | nil => exact p1.eq_nil
  | cons y ys ih =>
    cases zs with
    | nil => exact absurd p1.symm.eq_nil (by simp)
    | cons z zs =>
      obtain ⟨hy, hs'⟩ := List.pairwise_cons.mp hs
      obtain ⟨hz, s1'⟩ := List.pairwise_cons.mp s1
      have ezy : z = y := by
        rcases List.mem_cons.mp (p1.subset (List.mem_cons_self ..)) with h | h
        · exact h
        · exfalso
          have h1 := hy z h
          rcases List.mem_cons.mp (p1.symm.subset (List.mem_cons_self ..)) with h2 | h2
          · subst h2; exact lt_irr _ h1
          · have := hz y h2
            simp only [Bool.not_eq_true', decide_eq_false_iff_not] at this
            exact this h1
      subst ezy
      rw [ih hs' zs s1' (List.Perm.cons_inv p1)]
theorem eqD_refl : ∀ (n : Nat) (d : D), okD n d = true → eqD d d = true
  | _, .non, _ => rfl
  | _, .bl b, _ => by simp [eqD]
  | _, .int i, _ => by simp [eqD]
  | _, .str s, _ => by simp [eqD]
  | n + 1, .lst xs, h => by
    rw [eqD]
    exact eqDs_refl_of fun x hx => eqD_refl n x (List.all_eq_true.mp h x hx)
  | n + 1, .tup xs, h => by
    rw [eqD]
    exact eqDs_refl_of fun x hx => eqD_refl n x (List.all_eq_true.mp h x hx)
  | 0, .lst _, h => by simp [okD] at h
  | 0, .tup _, h => by simp [okD] at h
  | 0, .scr _, h => by simp [okD] at h
  | _ + 1, .scr _, h => by simp [okD] at h
theorem eqM_refl {d : D} (h : okD 60 d = true) : eqM d d = some true := by
  unfold eqM
  rw [if_pos (.inr ⟨h, h⟩), eqD_refl 60 d h]
/-- a slice between two places -/
theorem sl_lst {xs : List D} {a b : Nat} : slM (.lst xs) (.int (a : Int)) (.int (b : Int)) = some (.od (cut xs (min a xs.length) (min b xs.length))) := by
  unfold slM bnd
  simp only [Option.bind_some]
  rw [if_neg (by omega), if_neg (by omega)]
  rfl
theorem sl_from {xs : List D} {a : Nat} : slM (.lst xs) (.int (a : Int)) .non = some (.od (cut xs (min a xs.length) xs.length)) := by
  unfold slM bnd
  simp only [Option.bind_some]
  rw [if_neg (by omega)]
  rfl
theorem sl_to {xs : List D} {b : Nat} : slM (.lst xs) .non (.int (b : Int)) = some (.od (cut xs 0 (min b xs.length))) := by
  unfold slM bnd
  simp only [Option.bind_some]
  rw [if_neg (by omega)]
  rfl
theorem cut_take {α : Type} (xs : List α) (b : Nat) : cut xs 0 (min b xs.length) = xs.take b := by
  unfold cut
  rw [List.drop_zero, Nat.sub_zero]
  by_cases h : b ≤ xs.length
  · rw [Nat.min_eq_left h]
  · rw [Nat.min_eq_right (by omega), List.take_of_length_le (by omega), List.take_of_length_le (by omega)]
theorem cut_drop {α : Type} (xs : List α) (a : Nat) : cut xs (min a xs.length) xs.length = xs.drop a := by
  unfold cut
  by_cases h : a ≤ xs.length
  · rw [Nat.min_eq_left h, List.take_of_length_le (by rw [List.length_drop]; omega)]
  · rw [Nat.min_eq_right (by omega), List.drop_of_length_le (by omega), List.drop_of_length_le (by omega)]
    simp
theorem eqM_int {i j : Int} : eqM (.int i) (.int j) = some (i == j) := by simp [eqM, scalD, eqD]
theorem eqM_bl {i j : Bool} : eqM (.bl i) (.bl j) = some (i == j) := by simp [eqM, scalD, eqD]
theorem eqM_str {i j : Str} : eqM (.str i) (.str j) = some (i == j) := by simp [eqM, scalD, eqD]
theorem eqM_non : eqM .non .non = some true := by simp [eqM, scalD, eqD]
section
variable {c : Nat → List D → Option M} {G : List (Str × D)} {s : St} {ss : Ss} {S S' : Sl}
theorem map_step {f : Fl → Fl} {R : Option Fl} (h : ex c G s S = some (.nx S')) (h2 : (exs c G ss S').map f = R) : (exs c G (.cons s ss) S).map f = R := by
  rw [exs_cons, h, seqF_nx, h2]
theorem bind_step {f : Fl → Option M} {R : Option M} (h : ex c G s S = some (.nx S')) (h2 : (exs c G ss S').bind f = R) : (exs c G (.cons s ss) S).bind f = R := by
  rw [exs_cons, h, seqF_nx, h2]
theorem exs_step {R : Option Fl} (h : ex c G s S = some (.nx S')) (h2 : exs c G ss S' = R) : exs c G (.cons s ss) S = R := by
  rw [exs_cons, h, seqF_nx, h2]
end
/-- the rest of a suite -/
def dropS : Nat → Ss → Ss
  | 0, s => s
  | n + 1, .cons _ s => dropS n s
  | _ + 1, .nil => .nil
end Rf

set_option Elab.async false
set_option linter.all false
set_option maxRecDepth 100000
set_option maxHeartbeats 4000000
namespace Rf
open PySem PySem.Spec PyProof.Rows L2
/-! ### defs that many laws share -/
def d_law_cell : Fd := ⟨"_law_cell", 2, ["script", "k"], [],
    (.cons (.ifs (.e (.cmp .Lt (.var 1) (.blt .len (.cons (.var 0) .nil)))) (
      (.cons (.ret (.blt .int (.cons (.ix (.var 0) (.var 1)) .nil))) .nil)) (.nil)) 
    (.cons (.ret (.int 0)) .nil))⟩
def b_law_numbers_1 : Ss := 
  (.cons (.app 3 (.bin .Mod (.blt .int (.cons (.var 0) .nil)) (.var 2))) 
  (.cons (.set 0 (.bin .FloorDiv (.blt .int (.cons (.var 0) .nil)) (.var 2))) .nil))
def b_law_numbers_2 : Ss := 
  (.cons (.set 5 (.bin .Mod (.blt .int (.cons (.bin .Add (.bin .Add (.bin .Mult (.var 0) (.int 48271)) (.bin .Mult (.var 4) (.int 69621))) (.int 7)) .nil)) (.int 2147483647))) 
  (.cons (.set 5 (.bin .Mod (.blt .int (.cons (.bin .Add (.bin .Add (.bin .Add (.bin .Mult (.var 5) (.var 5)) (.bin .Mult (.var 5) (.int 40692))) (.bin .Mult (.var 4) (.int 16807))) (.int 11)) .nil)) (.int 2147483399))) 
  (.cons (.app 3 (.bin .Mod (.blt .int (.cons (.bin .FloorDiv (.var 5) (.int 32)) .nil)) (.var 2))) .nil)))
def d_law_numbers : Fd := ⟨"_law_numbers", 3, ["cell", "count", "limit", "found", "k", "mixed"], [3],
    (.cons (.setO 3 (.lst .nil)) 
    (.cons (.ifs (.e (.cmp .GtE (.var 0) (.bin .Pow (.int 10) (.int 18)))) (
      (.cons (.fr (.nm 4) (.r1 (.var 1)) b_law_numbers_1 [4]) 
      (.cons (.retV 3) .nil))) (.nil)) 
    (.cons (.drop [4]) 
    (.cons (.fr (.nm 4) (.r1 (.var 1)) b_law_numbers_2 [4, 5]) 
    (.cons (.retV 3) .nil)))))⟩
def b_law_same_1 : Ss := 
  (.cons (.ifs (.not (.e (.call 2 (.cons (.ix (.var 0) (.var 2)) (.cons (.ix (.var 1) (.var 2)) .nil))))) (
          (.cons (.ret (.bl false)) .nil)) (.nil)) .nil)
def d_law_same : Fd := ⟨"_law_same", 2, ["told", "due", "k"], [],
    (.cons (.ifs (.e (.isi (.var 1) .list)) (
      (.cons (.ifs (.or (.not (.e (.isi (.var 0) .list))) (.e (.cmp .NotEq (.blt .len (.cons (.var 0) .nil)) (.blt .len (.cons (.var 1) .nil))))) (
          (.cons (.ret (.bl false)) .nil)) (.nil)) .nil)) (
      (.cons (.ifs (.e (.isi (.var 1) .tuple)) (
          (.cons (.ifs (.or (.not (.e (.isi (.var 0) .tuple))) (.e (.cmp .NotEq (.blt .len (.cons (.var 0) .nil)) (.blt .len (.cons (.var 1) .nil))))) (
              (.cons (.ret (.bl false)) .nil)) (.nil)) .nil)) (
          (.cons (.ifs (.e (.cmp .Is (.var 1) .non)) (
              (.cons (.ret (.cmp .Is (.var 0) .non)) .nil)) (
              (.cons (.ifs (.e (.isi (.var 1) .bool)) (
                  (.cons (.ret (.and (.isi (.var 0) .bool) (.cmp .Eq (.var 0) (.var 1)))) .nil)) (
                  (.cons (.ifs (.e (.isi (.var 1) .int)) (
                      (.cons (.ret (.and (.isi (.var 0) .int) (.and (.not (.isi (.var 0) .bool)) (.cmp .Eq (.var 0) (.var 1))))) .nil)) (
                      (.cons (.ret (.and (.isi (.var 0) .str) (.cmp .Eq (.var 0) (.var 1)))) .nil))) .nil))) .nil))) .nil))) .nil))) 
    (.cons (.fr (.nm 2) (.r1 (.blt .len (.cons (.var 1) .nil))) b_law_same_1 [2]) 
    (.cons (.ret (.bl true)) .nil)))⟩
def natD (i : Nat) : D := .int (i : Int)
section
variable {T : List Fd} {G : List (Str × D)} {n : Nat}
theorem run_cell (hT : T[0]? = some d_law_cell) (hn : 1 ≤ n) (ns : List Int) (j : Nat) : ∃ c : Int, run T G n 0 [.scr ns, .int (j : Int)] = some (.sh (.int c)) := by
  obtain ⟨k, rfl⟩ : ∃ k, n = k + 1 := ⟨n - 1, by omega⟩
  rw [run_at d_law_cell hT rfl]
  simp only [d_law_cell, Rf.ev_var, Rf.ev_gl, Rf.ev_non, Rf.ev_bl, Rf.ev_int, Rf.ev_str, Rf.ev_bin, Rf.ev_neg, Rf.ev_not, Rf.ev_and, Rf.ev_or, Rf.ev_cmp, Rf.ev_chain, Rf.ev_ite, Rf.ev_blt, Rf.ev_isi, Rf.ev_call, Rf.ev_ix, Rf.ev_sl, Rf.ev_rev, Rf.ev_lst, Rf.ev_tup, Rf.ev_lrng, Rf.ev_fl, Rf.evs_nil, Rf.evs_cons, Rf.evT_yes, Rf.evT_e, Rf.evT_not, Rf.evT_and, Rf.evT_or, Rf.evI_it, Rf.evI_r1, Rf.evI_r2, Rf.evI_en, Rf.evI_zp, Rf.evI_rv, Rf.ex_set, Rf.ex_setO, Rf.ex_unp, Rf.ex_par, Rf.ex_aug, Rf.ex_app, Rf.ex_ifs, Rf.ex_ret, Rf.ex_retV, Rf.ex_retN, Rf.ex_brk, Rf.ex_cnt, Rf.ex_pass, Rf.ex_drop, Rf.ex_shr, Rf.ev_comp, Rf.ex_fr, Rf.exs_nil, Rf.exs_cons, Rf.seqF_nx, Rf.seqF_rt, Rf.seqF_bk, Rf.seqF_ct, Rf.gt, Rf.st, Rf.clr, Rf.puts, Rf.bindT, Rf.retM, Rf.clrF, Rf.turnS_eq, Rf.compT_eq, Rf.M.share, Rf.M.shares, Rf.bltM, Rf.binD, Rf.augD, Rf.addD, Rf.mulD, Rf.cmpD, Rf.eqM_int, Rf.eqM_bl, Rf.eqM_str, Rf.eqM_non, Rf.truD, Rf.isiD, Rf.itD, Rf.lstD, Rf.nbM, Rf.isNon, Rf.isN, Rf.entry, Rf.big, Rf.bigI, true_or, or_true, false_or, or_false, and_true, true_and, and_self, and_false, false_and, Nat.zero_le, eq_self, decide_true, decide_false, Rf.enD_map, Rf.shares_mapF, Rf.ix_t0, Rf.ix_t1, Rf.ix_t2, Rf.ix_t3, Rf.ix_t4, Rf.ix_l0, Rf.ix_l1, Rf.ix_l2, Rf.ix_l3, Rf.ix_l4, List.getElem?_cons_zero, List.getElem?_cons_succ, Option.bind_some, Option.bind_none, Option.map_some, Option.map_none, List.map_cons, List.map_nil, List.cons_append, List.nil_append, List.append_nil, List.replicate, List.length_cons, List.length_nil, if_true, if_false, reduceCtorEq, Bool.false_eq_true, Bool.not_true, Bool.not_false, Bool.or_true, Bool.true_or, Bool.or_false, Bool.false_or, Bool.and_true, Bool.true_and, Bool.and_false, Bool.false_and, ix_scrN]
  by_cases h : j < ns.length
  · have h' : (j : Int) < (ns.length : Int) := by omega
    refine ⟨ns[j], ?_⟩
    simp only [Rf.ev_var, Rf.ev_gl, Rf.ev_non, Rf.ev_bl, Rf.ev_int, Rf.ev_str, Rf.ev_bin, Rf.ev_neg, Rf.ev_not, Rf.ev_and, Rf.ev_or, Rf.ev_cmp, Rf.ev_chain, Rf.ev_ite, Rf.ev_blt, Rf.ev_isi, Rf.ev_call, Rf.ev_ix, Rf.ev_sl, Rf.ev_rev, Rf.ev_lst, Rf.ev_tup, Rf.ev_lrng, Rf.ev_fl, Rf.evs_nil, Rf.evs_cons, Rf.evT_yes, Rf.evT_e, Rf.evT_not, Rf.evT_and, Rf.evT_or, Rf.evI_it, Rf.evI_r1, Rf.evI_r2, Rf.evI_en, Rf.evI_zp, Rf.evI_rv, Rf.ex_set, Rf.ex_setO, Rf.ex_unp, Rf.ex_par, Rf.ex_aug, Rf.ex_app, Rf.ex_ifs, Rf.ex_ret, Rf.ex_retV, Rf.ex_retN, Rf.ex_brk, Rf.ex_cnt, Rf.ex_pass, Rf.ex_drop, Rf.ex_shr, Rf.ev_comp, Rf.ex_fr, Rf.exs_nil, Rf.exs_cons, Rf.seqF_nx, Rf.seqF_rt, Rf.seqF_bk, Rf.seqF_ct, Rf.gt, Rf.st, Rf.clr, Rf.puts, Rf.bindT, Rf.retM, Rf.clrF, Rf.turnS_eq, Rf.compT_eq, Rf.M.share, Rf.M.shares, Rf.bltM, Rf.binD, Rf.augD, Rf.addD, Rf.mulD, Rf.cmpD, Rf.eqM_int, Rf.eqM_bl, Rf.eqM_str, Rf.eqM_non, Rf.truD, Rf.isiD, Rf.itD, Rf.lstD, Rf.nbM, Rf.isNon, Rf.isN, Rf.entry, Rf.big, Rf.bigI, true_or, or_true, false_or, or_false, and_true, true_and, and_self, and_false, false_and, Nat.zero_le, eq_self, decide_true, decide_false, Rf.enD_map, Rf.shares_mapF, Rf.ix_t0, Rf.ix_t1, Rf.ix_t2, Rf.ix_t3, Rf.ix_t4, Rf.ix_l0, Rf.ix_l1, Rf.ix_l2, Rf.ix_l3, Rf.ix_l4, List.getElem?_cons_zero, List.getElem?_cons_succ, Option.bind_some, Option.bind_none, Option.map_some, Option.map_none, List.map_cons, List.map_nil, List.cons_append, List.nil_append, List.append_nil, List.replicate, List.length_cons, List.length_nil, if_true, if_false, reduceCtorEq, Bool.false_eq_true, Bool.not_true, Bool.not_false, Bool.or_true, Bool.true_or, Bool.or_false, Bool.false_or, Bool.and_true, Bool.true_and, Bool.and_false, Bool.false_and, h', List.getElem?_eq_getElem h]
  · have h' : ¬ (j : Int) < (ns.length : Int) := by omega
    refine ⟨0, ?_⟩
    simp only [Rf.ev_var, Rf.ev_gl, Rf.ev_non, Rf.ev_bl, Rf.ev_int, Rf.ev_str, Rf.ev_bin, Rf.ev_neg, Rf.ev_not, Rf.ev_and, Rf.ev_or, Rf.ev_cmp, Rf.ev_chain, Rf.ev_ite, Rf.ev_blt, Rf.ev_isi, Rf.ev_call, Rf.ev_ix, Rf.ev_sl, Rf.ev_rev, Rf.ev_lst, Rf.ev_tup, Rf.ev_lrng, Rf.ev_fl, Rf.evs_nil, Rf.evs_cons, Rf.evT_yes, Rf.evT_e, Rf.evT_not, Rf.evT_and, Rf.evT_or, Rf.evI_it, Rf.evI_r1, Rf.evI_r2, Rf.evI_en, Rf.evI_zp, Rf.evI_rv, Rf.ex_set, Rf.ex_setO, Rf.ex_unp, Rf.ex_par, Rf.ex_aug, Rf.ex_app, Rf.ex_ifs, Rf.ex_ret, Rf.ex_retV, Rf.ex_retN, Rf.ex_brk, Rf.ex_cnt, Rf.ex_pass, Rf.ex_drop, Rf.ex_shr, Rf.ev_comp, Rf.ex_fr, Rf.exs_nil, Rf.exs_cons, Rf.seqF_nx, Rf.seqF_rt, Rf.seqF_bk, Rf.seqF_ct, Rf.gt, Rf.st, Rf.clr, Rf.puts, Rf.bindT, Rf.retM, Rf.clrF, Rf.turnS_eq, Rf.compT_eq, Rf.M.share, Rf.M.shares, Rf.bltM, Rf.binD, Rf.augD, Rf.addD, Rf.mulD, Rf.cmpD, Rf.eqM_int, Rf.eqM_bl, Rf.eqM_str, Rf.eqM_non, Rf.truD, Rf.isiD, Rf.itD, Rf.lstD, Rf.nbM, Rf.isNon, Rf.isN, Rf.entry, Rf.big, Rf.bigI, true_or, or_true, false_or, or_false, and_true, true_and, and_self, and_false, false_and, Nat.zero_le, eq_self, decide_true, decide_false, Rf.enD_map, Rf.shares_mapF, Rf.ix_t0, Rf.ix_t1, Rf.ix_t2, Rf.ix_t3, Rf.ix_t4, Rf.ix_l0, Rf.ix_l1, Rf.ix_l2, Rf.ix_l3, Rf.ix_l4, List.getElem?_cons_zero, List.getElem?_cons_succ, Option.bind_some, Option.bind_none, Option.map_some, Option.map_none, List.map_cons, List.map_nil, List.cons_append, List.nil_append, List.append_nil, List.replicate, List.length_cons, List.length_nil, if_true, if_false, reduceCtorEq, Bool.false_eq_true, Bool.not_true, Bool.not_false, Bool.or_true, Bool.true_or, Bool.or_false, Bool.false_or, Bool.and_true, Bool.true_and, Bool.and_false, Bool.false_and, h']
theorem int_mod_nn {a b : Int} (h : 0 < b) : 0 ≤ a.fmod b ∧ a.fmod b < b := ⟨Int.fmod_nonneg_of_pos a h, Int.fmod_lt_of_pos a h⟩
/-- what is drawn: as many as told, from 0 below the limit -/
def Drawn (xs : List Int) (m : Nat) (lim : Int) : Prop := xs.length = m ∧ ∀ x ∈ xs, 0 ≤ x ∧ x < lim
theorem Drawn.snoc {xs : List Int} {m : Nat} {lim x : Int} (h : Drawn xs m lim) (h1 : 0 ≤ x) (h2 : x < lim) : Drawn (xs ++ [x]) (m + 1) lim :=
  ⟨by rw [List.length_append, h.1]; rfl, fun y hy => by
    rcases List.mem_append.mp hy with z | z
    · exact h.2 y z
    · rw [List.mem_singleton.mp z]; exact ⟨h1, h2⟩⟩
theorem run_numbers (hT : T[1]? = some d_law_numbers) (hn : 1 ≤ n) (c : Int) (m : Nat) (hm : m ≤ 100000) (lim : Int) (h0 : 0 < lim) (hl : lim < 2 ^ 60) :
    ∃ xs : List Int, run T G n 1 [.int c, .int (m : Int), .int lim] = some (.ol (xs.map fun x => .sh (.int x))) ∧ Drawn xs m lim := by
  obtain ⟨k, rfl⟩ : ∃ k, n = k + 1 := ⟨n - 1, by omega⟩
  rw [run_at d_law_numbers hT rfl]
  have ediv : okDiv lim := ⟨by omega, by
    have : lim.natAbs < 2 ^ 60 := by omega
    exact Nat.lt_trans this (Nat.pow_lt_pow_right (by decide) (by decide))⟩
  have e0 : lim ≠ 0 := by omega
  have epow : ((10 : Int) ^ (18 : Int).toNat) = 1000000000000000000 := by decide
  have c1 : (0 : Int) ≤ 18 ∧ (18 : Int) ≤ 1000000 ∧ (10 : Int).natAbs < 2 ^ 64 := by decide
  have c2 : ∀ x : Int, okMul x 48271 := fun x => .inr (.inl (by decide))
  have c3 : ∀ x : Int, okMul x 69621 := fun x => .inr (.inl (by decide))
  have c4 : ∀ x : Int, okMul x 40692 := fun x => .inr (.inl (by decide))
  have c5 : ∀ x : Int, okMul x 16807 := fun x => .inr (.inl (by decide))
  have dl : ∀ {d : List Nat} {x : Nat} {rest : List Nat}, List.range m = d ++ x :: rest → d.length < m ∧ x < m := by
    intro d x rest hd
    have h1 := congrArg List.length hd
    rw [List.length_range, List.length_append, List.length_cons] at h1
    have h2 : x ∈ List.range m := by rw [hd]; simp
    exact ⟨by omega, List.mem_range.mp h2⟩
  by_cases hc : (1000000000000000000 : Int) ≤ c
  · simp (disch := omega) only [d_law_numbers, Rf.ev_var, Rf.ev_gl, Rf.ev_non, Rf.ev_bl, Rf.ev_int, Rf.ev_str, Rf.ev_bin, Rf.ev_neg, Rf.ev_not, Rf.ev_and, Rf.ev_or, Rf.ev_cmp, Rf.ev_chain, Rf.ev_ite, Rf.ev_blt, Rf.ev_isi, Rf.ev_call, Rf.ev_ix, Rf.ev_sl, Rf.ev_rev, Rf.ev_lst, Rf.ev_tup, Rf.ev_lrng, Rf.ev_fl, Rf.evs_nil, Rf.evs_cons, Rf.evT_yes, Rf.evT_e, Rf.evT_not, Rf.evT_and, Rf.evT_or, Rf.evI_it, Rf.evI_r1, Rf.evI_r2, Rf.evI_en, Rf.evI_zp, Rf.evI_rv, Rf.ex_set, Rf.ex_setO, Rf.ex_unp, Rf.ex_par, Rf.ex_aug, Rf.ex_app, Rf.ex_ifs, Rf.ex_ret, Rf.ex_retV, Rf.ex_retN, Rf.ex_brk, Rf.ex_cnt, Rf.ex_pass, Rf.ex_drop, Rf.ex_shr, Rf.ev_comp, Rf.ex_fr, Rf.exs_nil, Rf.exs_cons, Rf.seqF_nx, Rf.seqF_rt, Rf.seqF_bk, Rf.seqF_ct, Rf.gt, Rf.st, Rf.clr, Rf.puts, Rf.bindT, Rf.retM, Rf.clrF, Rf.turnS_eq, Rf.compT_eq, Rf.M.share, Rf.M.shares, Rf.bltM, Rf.binD, Rf.augD, Rf.addD, Rf.mulD, Rf.cmpD, Rf.eqM_int, Rf.eqM_bl, Rf.eqM_str, Rf.eqM_non, Rf.truD, Rf.isiD, Rf.itD, Rf.lstD, Rf.nbM, Rf.isNon, Rf.isN, Rf.entry, Rf.big, Rf.bigI, true_or, or_true, false_or, or_false, and_true, true_and, and_self, and_false, false_and, Nat.zero_le, eq_self, decide_true, decide_false, Rf.enD_map, Rf.shares_mapF, Rf.ix_t0, Rf.ix_t1, Rf.ix_t2, Rf.ix_t3, Rf.ix_t4, Rf.ix_l0, Rf.ix_l1, Rf.ix_l2, Rf.ix_l3, Rf.ix_l4, List.getElem?_cons_zero, List.getElem?_cons_succ, Option.bind_some, Option.bind_none, Option.map_some, Option.map_none, List.map_cons, List.map_nil, List.cons_append, List.nil_append, List.append_nil, List.replicate, List.length_cons, List.length_nil, if_true, if_false, reduceCtorEq, Bool.false_eq_true, Bool.not_true, Bool.not_false, Bool.or_true, Bool.true_or, Bool.or_false, Bool.false_or, Bool.and_true, Bool.true_and, Bool.and_false, Bool.false_and, if_pos, Rf.rngD_nat, c1, epow, hc]
    obtain ⟨S', h1, xs, c', h2, h3⟩ := loopS_inv (c := run T G k) (G := G) (tg := .nm 4) (body := b_law_numbers_1) (fg := [4])
      (fun i : Nat => D.int (i : Int)) (fun d S => ∃ (xs : List Int) (c' : Int), Drawn xs d.length lim ∧ S = [some (.sh (.int c')), some (.sh (.int (m : Int))), some (.sh (.int lim)), some (.ol (xs.map fun x => .sh (.int x))), none, none]) (List.range m)
      [some (.sh (.int c)), some (.sh (.int (m : Int))), some (.sh (.int lim)), some (.ol []), none, none] ⟨[], c, ⟨rfl, by simp⟩, rfl⟩ fun d x rest hd S hS => by
        obtain ⟨xs, c', hx, rfl⟩ := hS
        have hdm := (dl hd).1
        refine ⟨[some (.sh (.int (c'.fdiv lim))), some (.sh (.int (m : Int))), some (.sh (.int lim)), some (.ol ((xs ++ [c'.fmod lim]).map fun x => .sh (.int x))), none, none], ?_, xs ++ [c'.fmod lim], _, by rw [List.length_append]; exact hx.snoc (int_mod_nn h0).1 (int_mod_nn h0).2, rfl⟩
        have hxl := hx.1
        simp (disch := omega) only [b_law_numbers_1, Rf.ev_var, Rf.ev_gl, Rf.ev_non, Rf.ev_bl, Rf.ev_int, Rf.ev_str, Rf.ev_bin, Rf.ev_neg, Rf.ev_not, Rf.ev_and, Rf.ev_or, Rf.ev_cmp, Rf.ev_chain, Rf.ev_ite, Rf.ev_blt, Rf.ev_isi, Rf.ev_call, Rf.ev_ix, Rf.ev_sl, Rf.ev_rev, Rf.ev_lst, Rf.ev_tup, Rf.ev_lrng, Rf.ev_fl, Rf.evs_nil, Rf.evs_cons, Rf.evT_yes, Rf.evT_e, Rf.evT_not, Rf.evT_and, Rf.evT_or, Rf.evI_it, Rf.evI_r1, Rf.evI_r2, Rf.evI_en, Rf.evI_zp, Rf.evI_rv, Rf.ex_set, Rf.ex_setO, Rf.ex_unp, Rf.ex_par, Rf.ex_aug, Rf.ex_app, Rf.ex_ifs, Rf.ex_ret, Rf.ex_retV, Rf.ex_retN, Rf.ex_brk, Rf.ex_cnt, Rf.ex_pass, Rf.ex_drop, Rf.ex_shr, Rf.ev_comp, Rf.ex_fr, Rf.exs_nil, Rf.exs_cons, Rf.seqF_nx, Rf.seqF_rt, Rf.seqF_bk, Rf.seqF_ct, Rf.gt, Rf.st, Rf.clr, Rf.puts, Rf.bindT, Rf.retM, Rf.clrF, Rf.turnS_eq, Rf.compT_eq, Rf.M.share, Rf.M.shares, Rf.bltM, Rf.binD, Rf.augD, Rf.addD, Rf.mulD, Rf.cmpD, Rf.eqM_int, Rf.eqM_bl, Rf.eqM_str, Rf.eqM_non, Rf.truD, Rf.isiD, Rf.itD, Rf.lstD, Rf.nbM, Rf.isNon, Rf.isN, Rf.entry, Rf.big, Rf.bigI, true_or, or_true, false_or, or_false, and_true, true_and, and_self, and_false, false_and, Nat.zero_le, eq_self, decide_true, decide_false, Rf.enD_map, Rf.shares_mapF, Rf.ix_t0, Rf.ix_t1, Rf.ix_t2, Rf.ix_t3, Rf.ix_t4, Rf.ix_l0, Rf.ix_l1, Rf.ix_l2, Rf.ix_l3, Rf.ix_l4, List.getElem?_cons_zero, List.getElem?_cons_succ, Option.bind_some, Option.bind_none, Option.map_some, Option.map_none, List.map_cons, List.map_nil, List.cons_append, List.nil_append, List.append_nil, List.replicate, List.length_cons, List.length_nil, if_true, if_false, reduceCtorEq, Bool.false_eq_true, Bool.not_true, Bool.not_false, Bool.or_true, Bool.true_or, Bool.or_false, Bool.false_or, Bool.and_true, Bool.true_and, Bool.and_false, Bool.false_and, if_pos, Rf.rngD_nat, e0, ediv, List.length_map, ne_eq, not_false_eq_true, List.map_append]
    rw [h1, h3]
    exact ⟨xs, by simp only [Rf.ev_var, Rf.ev_gl, Rf.ev_non, Rf.ev_bl, Rf.ev_int, Rf.ev_str, Rf.ev_bin, Rf.ev_neg, Rf.ev_not, Rf.ev_and, Rf.ev_or, Rf.ev_cmp, Rf.ev_chain, Rf.ev_ite, Rf.ev_blt, Rf.ev_isi, Rf.ev_call, Rf.ev_ix, Rf.ev_sl, Rf.ev_rev, Rf.ev_lst, Rf.ev_tup, Rf.ev_lrng, Rf.ev_fl, Rf.evs_nil, Rf.evs_cons, Rf.evT_yes, Rf.evT_e, Rf.evT_not, Rf.evT_and, Rf.evT_or, Rf.evI_it, Rf.evI_r1, Rf.evI_r2, Rf.evI_en, Rf.evI_zp, Rf.evI_rv, Rf.ex_set, Rf.ex_setO, Rf.ex_unp, Rf.ex_par, Rf.ex_aug, Rf.ex_app, Rf.ex_ifs, Rf.ex_ret, Rf.ex_retV, Rf.ex_retN, Rf.ex_brk, Rf.ex_cnt, Rf.ex_pass, Rf.ex_drop, Rf.ex_shr, Rf.ev_comp, Rf.ex_fr, Rf.exs_nil, Rf.exs_cons, Rf.seqF_nx, Rf.seqF_rt, Rf.seqF_bk, Rf.seqF_ct, Rf.gt, Rf.st, Rf.clr, Rf.puts, Rf.bindT, Rf.retM, Rf.clrF, Rf.turnS_eq, Rf.compT_eq, Rf.M.share, Rf.M.shares, Rf.bltM, Rf.binD, Rf.augD, Rf.addD, Rf.mulD, Rf.cmpD, Rf.eqM_int, Rf.eqM_bl, Rf.eqM_str, Rf.eqM_non, Rf.truD, Rf.isiD, Rf.itD, Rf.lstD, Rf.nbM, Rf.isNon, Rf.isN, Rf.entry, Rf.big, Rf.bigI, true_or, or_true, false_or, or_false, and_true, true_and, and_self, and_false, false_and, Nat.zero_le, eq_self, decide_true, decide_false, Rf.enD_map, Rf.shares_mapF, Rf.ix_t0, Rf.ix_t1, Rf.ix_t2, Rf.ix_t3, Rf.ix_t4, Rf.ix_l0, Rf.ix_l1, Rf.ix_l2, Rf.ix_l3, Rf.ix_l4, List.getElem?_cons_zero, List.getElem?_cons_succ, Option.bind_some, Option.bind_none, Option.map_some, Option.map_none, List.map_cons, List.map_nil, List.cons_append, List.nil_append, List.append_nil, List.replicate, List.length_cons, List.length_nil, if_true, if_false, reduceCtorEq, Bool.false_eq_true, Bool.not_true, Bool.not_false, Bool.or_true, Bool.true_or, Bool.or_false, Bool.false_or, Bool.and_true, Bool.true_and, Bool.and_false, Bool.false_and], by rw [List.length_range] at h2; exact h2⟩
  · simp (disch := omega) only [d_law_numbers, Rf.ev_var, Rf.ev_gl, Rf.ev_non, Rf.ev_bl, Rf.ev_int, Rf.ev_str, Rf.ev_bin, Rf.ev_neg, Rf.ev_not, Rf.ev_and, Rf.ev_or, Rf.ev_cmp, Rf.ev_chain, Rf.ev_ite, Rf.ev_blt, Rf.ev_isi, Rf.ev_call, Rf.ev_ix, Rf.ev_sl, Rf.ev_rev, Rf.ev_lst, Rf.ev_tup, Rf.ev_lrng, Rf.ev_fl, Rf.evs_nil, Rf.evs_cons, Rf.evT_yes, Rf.evT_e, Rf.evT_not, Rf.evT_and, Rf.evT_or, Rf.evI_it, Rf.evI_r1, Rf.evI_r2, Rf.evI_en, Rf.evI_zp, Rf.evI_rv, Rf.ex_set, Rf.ex_setO, Rf.ex_unp, Rf.ex_par, Rf.ex_aug, Rf.ex_app, Rf.ex_ifs, Rf.ex_ret, Rf.ex_retV, Rf.ex_retN, Rf.ex_brk, Rf.ex_cnt, Rf.ex_pass, Rf.ex_drop, Rf.ex_shr, Rf.ev_comp, Rf.ex_fr, Rf.exs_nil, Rf.exs_cons, Rf.seqF_nx, Rf.seqF_rt, Rf.seqF_bk, Rf.seqF_ct, Rf.gt, Rf.st, Rf.clr, Rf.puts, Rf.bindT, Rf.retM, Rf.clrF, Rf.turnS_eq, Rf.compT_eq, Rf.M.share, Rf.M.shares, Rf.bltM, Rf.binD, Rf.augD, Rf.addD, Rf.mulD, Rf.cmpD, Rf.eqM_int, Rf.eqM_bl, Rf.eqM_str, Rf.eqM_non, Rf.truD, Rf.isiD, Rf.itD, Rf.lstD, Rf.nbM, Rf.isNon, Rf.isN, Rf.entry, Rf.big, Rf.bigI, true_or, or_true, false_or, or_false, and_true, true_and, and_self, and_false, false_and, Nat.zero_le, eq_self, decide_true, decide_false, Rf.enD_map, Rf.shares_mapF, Rf.ix_t0, Rf.ix_t1, Rf.ix_t2, Rf.ix_t3, Rf.ix_t4, Rf.ix_l0, Rf.ix_l1, Rf.ix_l2, Rf.ix_l3, Rf.ix_l4, List.getElem?_cons_zero, List.getElem?_cons_succ, Option.bind_some, Option.bind_none, Option.map_some, Option.map_none, List.map_cons, List.map_nil, List.cons_append, List.nil_append, List.append_nil, List.replicate, List.length_cons, List.length_nil, if_true, if_false, reduceCtorEq, Bool.false_eq_true, Bool.not_true, Bool.not_false, Bool.or_true, Bool.true_or, Bool.or_false, Bool.false_or, Bool.and_true, Bool.true_and, Bool.and_false, Bool.false_and, if_pos, Rf.rngD_nat, c1, epow, hc]
    have d32 : okDiv 32 := ⟨by decide, Nat.lt_trans (show (32 : Int).natAbs < 2 ^ 60 by decide) (Nat.pow_lt_pow_right (by decide) (by decide))⟩
    obtain ⟨S', h1, xs, h2, h3⟩ := loopS_inv (c := run T G k) (G := G) (tg := .nm 4) (body := b_law_numbers_2) (fg := [4, 5])
      (fun i : Nat => D.int (i : Int)) (fun d S => ∃ (xs : List Int), Drawn xs d.length lim ∧ S = [some (.sh (.int c)), some (.sh (.int (m : Int))), some (.sh (.int lim)), some (.ol (xs.map fun x => .sh (.int x))), none, none]) (List.range m)
      [some (.sh (.int c)), some (.sh (.int (m : Int))), some (.sh (.int lim)), some (.ol []), none, none] ⟨[], ⟨rfl, by simp⟩, rfl⟩ fun d x rest hd S hS => by
        obtain ⟨xs, hx, rfl⟩ := hS
        obtain ⟨hdm, hxm⟩ := dl hd
        generalize ha : (c * 48271 + (x : Int) * 69621 + 7).fmod 2147483647 = a
        obtain ⟨a0, a1⟩ := int_mod_nn (a := c * 48271 + (x : Int) * 69621 + 7) (b := 2147483647) (by decide)
        rw [ha] at a0 a1
        have c6 : okMul a a := .inl (by omega)
        generalize hb : (a * a + a * 40692 + (x : Int) * 16807 + 11).fmod 2147483399 = b
        refine ⟨[some (.sh (.int c)), some (.sh (.int (m : Int))), some (.sh (.int lim)), some (.ol ((xs ++ [(b.fdiv 32).fmod lim]).map fun x => .sh (.int x))), none, none], ?_, xs ++ [(b.fdiv 32).fmod lim], by rw [List.length_append]; exact hx.snoc (int_mod_nn h0).1 (int_mod_nn h0).2, rfl⟩
        have hxl := hx.1
        simp (disch := omega) only [b_law_numbers_2, Rf.ev_var, Rf.ev_gl, Rf.ev_non, Rf.ev_bl, Rf.ev_int, Rf.ev_str, Rf.ev_bin, Rf.ev_neg, Rf.ev_not, Rf.ev_and, Rf.ev_or, Rf.ev_cmp, Rf.ev_chain, Rf.ev_ite, Rf.ev_blt, Rf.ev_isi, Rf.ev_call, Rf.ev_ix, Rf.ev_sl, Rf.ev_rev, Rf.ev_lst, Rf.ev_tup, Rf.ev_lrng, Rf.ev_fl, Rf.evs_nil, Rf.evs_cons, Rf.evT_yes, Rf.evT_e, Rf.evT_not, Rf.evT_and, Rf.evT_or, Rf.evI_it, Rf.evI_r1, Rf.evI_r2, Rf.evI_en, Rf.evI_zp, Rf.evI_rv, Rf.ex_set, Rf.ex_setO, Rf.ex_unp, Rf.ex_par, Rf.ex_aug, Rf.ex_app, Rf.ex_ifs, Rf.ex_ret, Rf.ex_retV, Rf.ex_retN, Rf.ex_brk, Rf.ex_cnt, Rf.ex_pass, Rf.ex_drop, Rf.ex_shr, Rf.ev_comp, Rf.ex_fr, Rf.exs_nil, Rf.exs_cons, Rf.seqF_nx, Rf.seqF_rt, Rf.seqF_bk, Rf.seqF_ct, Rf.gt, Rf.st, Rf.clr, Rf.puts, Rf.bindT, Rf.retM, Rf.clrF, Rf.turnS_eq, Rf.compT_eq, Rf.M.share, Rf.M.shares, Rf.bltM, Rf.binD, Rf.augD, Rf.addD, Rf.mulD, Rf.cmpD, Rf.eqM_int, Rf.eqM_bl, Rf.eqM_str, Rf.eqM_non, Rf.truD, Rf.isiD, Rf.itD, Rf.lstD, Rf.nbM, Rf.isNon, Rf.isN, Rf.entry, Rf.big, Rf.bigI, true_or, or_true, false_or, or_false, and_true, true_and, and_self, and_false, false_and, Nat.zero_le, eq_self, decide_true, decide_false, Rf.enD_map, Rf.shares_mapF, Rf.ix_t0, Rf.ix_t1, Rf.ix_t2, Rf.ix_t3, Rf.ix_t4, Rf.ix_l0, Rf.ix_l1, Rf.ix_l2, Rf.ix_l3, Rf.ix_l4, List.getElem?_cons_zero, List.getElem?_cons_succ, Option.bind_some, Option.bind_none, Option.map_some, Option.map_none, List.map_cons, List.map_nil, List.cons_append, List.nil_append, List.append_nil, List.replicate, List.length_cons, List.length_nil, if_true, if_false, reduceCtorEq, Bool.false_eq_true, Bool.not_true, Bool.not_false, Bool.or_true, Bool.true_or, Bool.or_false, Bool.false_or, Bool.and_true, Bool.true_and, Bool.and_false, Bool.false_and, if_pos, Rf.rngD_nat, e0, ediv, d32, c2, c3, c4, c5, c6, ha, hb, List.length_map, ne_eq, not_false_eq_true, List.map_append, Int.reduceEq]
    rw [h1, h3]
    exact ⟨xs, by simp only [Rf.ev_var, Rf.ev_gl, Rf.ev_non, Rf.ev_bl, Rf.ev_int, Rf.ev_str, Rf.ev_bin, Rf.ev_neg, Rf.ev_not, Rf.ev_and, Rf.ev_or, Rf.ev_cmp, Rf.ev_chain, Rf.ev_ite, Rf.ev_blt, Rf.ev_isi, Rf.ev_call, Rf.ev_ix, Rf.ev_sl, Rf.ev_rev, Rf.ev_lst, Rf.ev_tup, Rf.ev_lrng, Rf.ev_fl, Rf.evs_nil, Rf.evs_cons, Rf.evT_yes, Rf.evT_e, Rf.evT_not, Rf.evT_and, Rf.evT_or, Rf.evI_it, Rf.evI_r1, Rf.evI_r2, Rf.evI_en, Rf.evI_zp, Rf.evI_rv, Rf.ex_set, Rf.ex_setO, Rf.ex_unp, Rf.ex_par, Rf.ex_aug, Rf.ex_app, Rf.ex_ifs, Rf.ex_ret, Rf.ex_retV, Rf.ex_retN, Rf.ex_brk, Rf.ex_cnt, Rf.ex_pass, Rf.ex_drop, Rf.ex_shr, Rf.ev_comp, Rf.ex_fr, Rf.exs_nil, Rf.exs_cons, Rf.seqF_nx, Rf.seqF_rt, Rf.seqF_bk, Rf.seqF_ct, Rf.gt, Rf.st, Rf.clr, Rf.puts, Rf.bindT, Rf.retM, Rf.clrF, Rf.turnS_eq, Rf.compT_eq, Rf.M.share, Rf.M.shares, Rf.bltM, Rf.binD, Rf.augD, Rf.addD, Rf.mulD, Rf.cmpD, Rf.eqM_int, Rf.eqM_bl, Rf.eqM_str, Rf.eqM_non, Rf.truD, Rf.isiD, Rf.itD, Rf.lstD, Rf.nbM, Rf.isNon, Rf.isN, Rf.entry, Rf.big, Rf.bigI, true_or, or_true, false_or, or_false, and_true, true_and, and_self, and_false, false_and, Nat.zero_le, eq_self, decide_true, decide_false, Rf.enD_map, Rf.shares_mapF, Rf.ix_t0, Rf.ix_t1, Rf.ix_t2, Rf.ix_t3, Rf.ix_t4, Rf.ix_l0, Rf.ix_l1, Rf.ix_l2, Rf.ix_l3, Rf.ix_l4, List.getElem?_cons_zero, List.getElem?_cons_succ, Option.bind_some, Option.bind_none, Option.map_some, Option.map_none, List.map_cons, List.map_nil, List.cons_append, List.nil_append, List.append_nil, List.replicate, List.length_cons, List.length_nil, if_true, if_false, reduceCtorEq, Bool.false_eq_true, Bool.not_true, Bool.not_false, Bool.or_true, Bool.true_or, Bool.or_false, Bool.false_or, Bool.and_true, Bool.true_and, Bool.and_false, Bool.false_and], by rw [List.length_range] at h2; exact h2⟩
/-- what _law_same says yes to, of itself -/
def okSm : Nat → D → Bool
  | n + 1, .lst xs => decide (xs.length ≤ 1000000) && xs.all (okSm n)
  | n + 1, .tup xs => decide (xs.length ≤ 1000000) && xs.all (okSm n)
  | _, .non => true
  | _, .bl _ => true
  | _, .int _ => true
  | _, .str _ => true
  | _, _ => false
theorem run_same_refl (hT : T[2]? = some d_law_same) : ∀ (n : Nat) (d : D), okSm n d = true → run T G (n + 1) 2 [d, d] = some (.sh (.bl true)) := by
  intro n
  induction n with
  | zero =>
    intro d h
    rw [run_at d_law_same hT rfl]
    cases d with
    | non => simp only [d_law_same, Rf.ev_var, Rf.ev_gl, Rf.ev_non, Rf.ev_bl, Rf.ev_int, Rf.ev_str, Rf.ev_bin, Rf.ev_neg, Rf.ev_not, Rf.ev_and, Rf.ev_or, Rf.ev_cmp, Rf.ev_chain, Rf.ev_ite, Rf.ev_blt, Rf.ev_isi, Rf.ev_call, Rf.ev_ix, Rf.ev_sl, Rf.ev_rev, Rf.ev_lst, Rf.ev_tup, Rf.ev_lrng, Rf.ev_fl, Rf.evs_nil, Rf.evs_cons, Rf.evT_yes, Rf.evT_e, Rf.evT_not, Rf.evT_and, Rf.evT_or, Rf.evI_it, Rf.evI_r1, Rf.evI_r2, Rf.evI_en, Rf.evI_zp, Rf.evI_rv, Rf.ex_set, Rf.ex_setO, Rf.ex_unp, Rf.ex_par, Rf.ex_aug, Rf.ex_app, Rf.ex_ifs, Rf.ex_ret, Rf.ex_retV, Rf.ex_retN, Rf.ex_brk, Rf.ex_cnt, Rf.ex_pass, Rf.ex_drop, Rf.ex_shr, Rf.ev_comp, Rf.ex_fr, Rf.exs_nil, Rf.exs_cons, Rf.seqF_nx, Rf.seqF_rt, Rf.seqF_bk, Rf.seqF_ct, Rf.gt, Rf.st, Rf.clr, Rf.puts, Rf.bindT, Rf.retM, Rf.clrF, Rf.turnS_eq, Rf.compT_eq, Rf.M.share, Rf.M.shares, Rf.bltM, Rf.binD, Rf.augD, Rf.addD, Rf.mulD, Rf.cmpD, Rf.eqM_int, Rf.eqM_bl, Rf.eqM_str, Rf.eqM_non, Rf.truD, Rf.isiD, Rf.itD, Rf.lstD, Rf.nbM, Rf.isNon, Rf.isN, Rf.entry, Rf.big, Rf.bigI, true_or, or_true, false_or, or_false, and_true, true_and, and_self, and_false, false_and, Nat.zero_le, eq_self, decide_true, decide_false, Rf.enD_map, Rf.shares_mapF, Rf.ix_t0, Rf.ix_t1, Rf.ix_t2, Rf.ix_t3, Rf.ix_t4, Rf.ix_l0, Rf.ix_l1, Rf.ix_l2, Rf.ix_l3, Rf.ix_l4, List.getElem?_cons_zero, List.getElem?_cons_succ, Option.bind_some, Option.bind_none, Option.map_some, Option.map_none, List.map_cons, List.map_nil, List.cons_append, List.nil_append, List.append_nil, List.replicate, List.length_cons, List.length_nil, if_true, if_false, reduceCtorEq, Bool.false_eq_true, Bool.not_true, Bool.not_false, Bool.or_true, Bool.true_or, Bool.or_false, Bool.false_or, Bool.and_true, Bool.true_and, Bool.and_false, Bool.false_and]
    | bl b => simp only [d_law_same, Rf.ev_var, Rf.ev_gl, Rf.ev_non, Rf.ev_bl, Rf.ev_int, Rf.ev_str, Rf.ev_bin, Rf.ev_neg, Rf.ev_not, Rf.ev_and, Rf.ev_or, Rf.ev_cmp, Rf.ev_chain, Rf.ev_ite, Rf.ev_blt, Rf.ev_isi, Rf.ev_call, Rf.ev_ix, Rf.ev_sl, Rf.ev_rev, Rf.ev_lst, Rf.ev_tup, Rf.ev_lrng, Rf.ev_fl, Rf.evs_nil, Rf.evs_cons, Rf.evT_yes, Rf.evT_e, Rf.evT_not, Rf.evT_and, Rf.evT_or, Rf.evI_it, Rf.evI_r1, Rf.evI_r2, Rf.evI_en, Rf.evI_zp, Rf.evI_rv, Rf.ex_set, Rf.ex_setO, Rf.ex_unp, Rf.ex_par, Rf.ex_aug, Rf.ex_app, Rf.ex_ifs, Rf.ex_ret, Rf.ex_retV, Rf.ex_retN, Rf.ex_brk, Rf.ex_cnt, Rf.ex_pass, Rf.ex_drop, Rf.ex_shr, Rf.ev_comp, Rf.ex_fr, Rf.exs_nil, Rf.exs_cons, Rf.seqF_nx, Rf.seqF_rt, Rf.seqF_bk, Rf.seqF_ct, Rf.gt, Rf.st, Rf.clr, Rf.puts, Rf.bindT, Rf.retM, Rf.clrF, Rf.turnS_eq, Rf.compT_eq, Rf.M.share, Rf.M.shares, Rf.bltM, Rf.binD, Rf.augD, Rf.addD, Rf.mulD, Rf.cmpD, Rf.eqM_int, Rf.eqM_bl, Rf.eqM_str, Rf.eqM_non, Rf.truD, Rf.isiD, Rf.itD, Rf.lstD, Rf.nbM, Rf.isNon, Rf.isN, Rf.entry, Rf.big, Rf.bigI, true_or, or_true, false_or, or_false, and_true, true_and, and_self, and_false, false_and, Nat.zero_le, eq_self, decide_true, decide_false, Rf.enD_map, Rf.shares_mapF, Rf.ix_t0, Rf.ix_t1, Rf.ix_t2, Rf.ix_t3, Rf.ix_t4, Rf.ix_l0, Rf.ix_l1, Rf.ix_l2, Rf.ix_l3, Rf.ix_l4, List.getElem?_cons_zero, List.getElem?_cons_succ, Option.bind_some, Option.bind_none, Option.map_some, Option.map_none, List.map_cons, List.map_nil, List.cons_append, List.nil_append, List.append_nil, List.replicate, List.length_cons, List.length_nil, if_true, if_false, reduceCtorEq, Bool.false_eq_true, Bool.not_true, Bool.not_false, Bool.or_true, Bool.true_or, Bool.or_false, Bool.false_or, Bool.and_true, Bool.true_and, Bool.and_false, Bool.false_and, eqD, beq_self_eq_true]
    | int i => simp only [d_law_same, Rf.ev_var, Rf.ev_gl, Rf.ev_non, Rf.ev_bl, Rf.ev_int, Rf.ev_str, Rf.ev_bin, Rf.ev_neg, Rf.ev_not, Rf.ev_and, Rf.ev_or, Rf.ev_cmp, Rf.ev_chain, Rf.ev_ite, Rf.ev_blt, Rf.ev_isi, Rf.ev_call, Rf.ev_ix, Rf.ev_sl, Rf.ev_rev, Rf.ev_lst, Rf.ev_tup, Rf.ev_lrng, Rf.ev_fl, Rf.evs_nil, Rf.evs_cons, Rf.evT_yes, Rf.evT_e, Rf.evT_not, Rf.evT_and, Rf.evT_or, Rf.evI_it, Rf.evI_r1, Rf.evI_r2, Rf.evI_en, Rf.evI_zp, Rf.evI_rv, Rf.ex_set, Rf.ex_setO, Rf.ex_unp, Rf.ex_par, Rf.ex_aug, Rf.ex_app, Rf.ex_ifs, Rf.ex_ret, Rf.ex_retV, Rf.ex_retN, Rf.ex_brk, Rf.ex_cnt, Rf.ex_pass, Rf.ex_drop, Rf.ex_shr, Rf.ev_comp, Rf.ex_fr, Rf.exs_nil, Rf.exs_cons, Rf.seqF_nx, Rf.seqF_rt, Rf.seqF_bk, Rf.seqF_ct, Rf.gt, Rf.st, Rf.clr, Rf.puts, Rf.bindT, Rf.retM, Rf.clrF, Rf.turnS_eq, Rf.compT_eq, Rf.M.share, Rf.M.shares, Rf.bltM, Rf.binD, Rf.augD, Rf.addD, Rf.mulD, Rf.cmpD, Rf.eqM_int, Rf.eqM_bl, Rf.eqM_str, Rf.eqM_non, Rf.truD, Rf.isiD, Rf.itD, Rf.lstD, Rf.nbM, Rf.isNon, Rf.isN, Rf.entry, Rf.big, Rf.bigI, true_or, or_true, false_or, or_false, and_true, true_and, and_self, and_false, false_and, Nat.zero_le, eq_self, decide_true, decide_false, Rf.enD_map, Rf.shares_mapF, Rf.ix_t0, Rf.ix_t1, Rf.ix_t2, Rf.ix_t3, Rf.ix_t4, Rf.ix_l0, Rf.ix_l1, Rf.ix_l2, Rf.ix_l3, Rf.ix_l4, List.getElem?_cons_zero, List.getElem?_cons_succ, Option.bind_some, Option.bind_none, Option.map_some, Option.map_none, List.map_cons, List.map_nil, List.cons_append, List.nil_append, List.append_nil, List.replicate, List.length_cons, List.length_nil, if_true, if_false, reduceCtorEq, Bool.false_eq_true, Bool.not_true, Bool.not_false, Bool.or_true, Bool.true_or, Bool.or_false, Bool.false_or, Bool.and_true, Bool.true_and, Bool.and_false, Bool.false_and, eqD, beq_self_eq_true]
    | str s => simp only [d_law_same, Rf.ev_var, Rf.ev_gl, Rf.ev_non, Rf.ev_bl, Rf.ev_int, Rf.ev_str, Rf.ev_bin, Rf.ev_neg, Rf.ev_not, Rf.ev_and, Rf.ev_or, Rf.ev_cmp, Rf.ev_chain, Rf.ev_ite, Rf.ev_blt, Rf.ev_isi, Rf.ev_call, Rf.ev_ix, Rf.ev_sl, Rf.ev_rev, Rf.ev_lst, Rf.ev_tup, Rf.ev_lrng, Rf.ev_fl, Rf.evs_nil, Rf.evs_cons, Rf.evT_yes, Rf.evT_e, Rf.evT_not, Rf.evT_and, Rf.evT_or, Rf.evI_it, Rf.evI_r1, Rf.evI_r2, Rf.evI_en, Rf.evI_zp, Rf.evI_rv, Rf.ex_set, Rf.ex_setO, Rf.ex_unp, Rf.ex_par, Rf.ex_aug, Rf.ex_app, Rf.ex_ifs, Rf.ex_ret, Rf.ex_retV, Rf.ex_retN, Rf.ex_brk, Rf.ex_cnt, Rf.ex_pass, Rf.ex_drop, Rf.ex_shr, Rf.ev_comp, Rf.ex_fr, Rf.exs_nil, Rf.exs_cons, Rf.seqF_nx, Rf.seqF_rt, Rf.seqF_bk, Rf.seqF_ct, Rf.gt, Rf.st, Rf.clr, Rf.puts, Rf.bindT, Rf.retM, Rf.clrF, Rf.turnS_eq, Rf.compT_eq, Rf.M.share, Rf.M.shares, Rf.bltM, Rf.binD, Rf.augD, Rf.addD, Rf.mulD, Rf.cmpD, Rf.eqM_int, Rf.eqM_bl, Rf.eqM_str, Rf.eqM_non, Rf.truD, Rf.isiD, Rf.itD, Rf.lstD, Rf.nbM, Rf.isNon, Rf.isN, Rf.entry, Rf.big, Rf.bigI, true_or, or_true, false_or, or_false, and_true, true_and, and_self, and_false, false_and, Nat.zero_le, eq_self, decide_true, decide_false, Rf.enD_map, Rf.shares_mapF, Rf.ix_t0, Rf.ix_t1, Rf.ix_t2, Rf.ix_t3, Rf.ix_t4, Rf.ix_l0, Rf.ix_l1, Rf.ix_l2, Rf.ix_l3, Rf.ix_l4, List.getElem?_cons_zero, List.getElem?_cons_succ, Option.bind_some, Option.bind_none, Option.map_some, Option.map_none, List.map_cons, List.map_nil, List.cons_append, List.nil_append, List.append_nil, List.replicate, List.length_cons, List.length_nil, if_true, if_false, reduceCtorEq, Bool.false_eq_true, Bool.not_true, Bool.not_false, Bool.or_true, Bool.true_or, Bool.or_false, Bool.false_or, Bool.and_true, Bool.true_and, Bool.and_false, Bool.false_and, eqD, beq_self_eq_true]
    | _ => simp [okSm] at h
  | succ n ih =>
    intro d h
    rw [run_at d_law_same hT rfl]
    have key : ∀ (xs : List D) (w : D), (∀ i : Nat, ixD w (.int (i : Int)) = xs[i]?) → xs.all (okSm n) = true → loopS (run T G (n + 1)) G (.nm 2) b_law_same_1 [2] ((List.range xs.length).map fun (i : Nat) => D.int (i : Int)) [some (.sh w), some (.sh w), none] = some (.nx [some (.sh w), some (.sh w), none]) := by
      intro xs w hw ha
      refine loopS_stay _ _ _ fun i hi => ?_
      have hi' := List.mem_range.mp hi
      have h1 := ih xs[i] (List.all_eq_true.mp ha _ (List.getElem_mem hi'))
      simp only [b_law_same_1, Rf.ev_var, Rf.ev_gl, Rf.ev_non, Rf.ev_bl, Rf.ev_int, Rf.ev_str, Rf.ev_bin, Rf.ev_neg, Rf.ev_not, Rf.ev_and, Rf.ev_or, Rf.ev_cmp, Rf.ev_chain, Rf.ev_ite, Rf.ev_blt, Rf.ev_isi, Rf.ev_call, Rf.ev_ix, Rf.ev_sl, Rf.ev_rev, Rf.ev_lst, Rf.ev_tup, Rf.ev_lrng, Rf.ev_fl, Rf.evs_nil, Rf.evs_cons, Rf.evT_yes, Rf.evT_e, Rf.evT_not, Rf.evT_and, Rf.evT_or, Rf.evI_it, Rf.evI_r1, Rf.evI_r2, Rf.evI_en, Rf.evI_zp, Rf.evI_rv, Rf.ex_set, Rf.ex_setO, Rf.ex_unp, Rf.ex_par, Rf.ex_aug, Rf.ex_app, Rf.ex_ifs, Rf.ex_ret, Rf.ex_retV, Rf.ex_retN, Rf.ex_brk, Rf.ex_cnt, Rf.ex_pass, Rf.ex_drop, Rf.ex_shr, Rf.ev_comp, Rf.ex_fr, Rf.exs_nil, Rf.exs_cons, Rf.seqF_nx, Rf.seqF_rt, Rf.seqF_bk, Rf.seqF_ct, Rf.gt, Rf.st, Rf.clr, Rf.puts, Rf.bindT, Rf.retM, Rf.clrF, Rf.turnS_eq, Rf.compT_eq, Rf.M.share, Rf.M.shares, Rf.bltM, Rf.binD, Rf.augD, Rf.addD, Rf.mulD, Rf.cmpD, Rf.eqM_int, Rf.eqM_bl, Rf.eqM_str, Rf.eqM_non, Rf.truD, Rf.isiD, Rf.itD, Rf.lstD, Rf.nbM, Rf.isNon, Rf.isN, Rf.entry, Rf.big, Rf.bigI, true_or, or_true, false_or, or_false, and_true, true_and, and_self, and_false, false_and, Nat.zero_le, eq_self, decide_true, decide_false, Rf.enD_map, Rf.shares_mapF, Rf.ix_t0, Rf.ix_t1, Rf.ix_t2, Rf.ix_t3, Rf.ix_t4, Rf.ix_l0, Rf.ix_l1, Rf.ix_l2, Rf.ix_l3, Rf.ix_l4, List.getElem?_cons_zero, List.getElem?_cons_succ, Option.bind_some, Option.bind_none, Option.map_some, Option.map_none, List.map_cons, List.map_nil, List.cons_append, List.nil_append, List.append_nil, List.replicate, List.length_cons, List.length_nil, if_true, if_false, reduceCtorEq, Bool.false_eq_true, Bool.not_true, Bool.not_false, Bool.or_true, Bool.true_or, Bool.or_false, Bool.false_or, Bool.and_true, Bool.true_and, Bool.and_false, Bool.false_and, hw, List.getElem?_eq_getElem hi', h1]
    cases d with
    | non => simp only [d_law_same, Rf.ev_var, Rf.ev_gl, Rf.ev_non, Rf.ev_bl, Rf.ev_int, Rf.ev_str, Rf.ev_bin, Rf.ev_neg, Rf.ev_not, Rf.ev_and, Rf.ev_or, Rf.ev_cmp, Rf.ev_chain, Rf.ev_ite, Rf.ev_blt, Rf.ev_isi, Rf.ev_call, Rf.ev_ix, Rf.ev_sl, Rf.ev_rev, Rf.ev_lst, Rf.ev_tup, Rf.ev_lrng, Rf.ev_fl, Rf.evs_nil, Rf.evs_cons, Rf.evT_yes, Rf.evT_e, Rf.evT_not, Rf.evT_and, Rf.evT_or, Rf.evI_it, Rf.evI_r1, Rf.evI_r2, Rf.evI_en, Rf.evI_zp, Rf.evI_rv, Rf.ex_set, Rf.ex_setO, Rf.ex_unp, Rf.ex_par, Rf.ex_aug, Rf.ex_app, Rf.ex_ifs, Rf.ex_ret, Rf.ex_retV, Rf.ex_retN, Rf.ex_brk, Rf.ex_cnt, Rf.ex_pass, Rf.ex_drop, Rf.ex_shr, Rf.ev_comp, Rf.ex_fr, Rf.exs_nil, Rf.exs_cons, Rf.seqF_nx, Rf.seqF_rt, Rf.seqF_bk, Rf.seqF_ct, Rf.gt, Rf.st, Rf.clr, Rf.puts, Rf.bindT, Rf.retM, Rf.clrF, Rf.turnS_eq, Rf.compT_eq, Rf.M.share, Rf.M.shares, Rf.bltM, Rf.binD, Rf.augD, Rf.addD, Rf.mulD, Rf.cmpD, Rf.eqM_int, Rf.eqM_bl, Rf.eqM_str, Rf.eqM_non, Rf.truD, Rf.isiD, Rf.itD, Rf.lstD, Rf.nbM, Rf.isNon, Rf.isN, Rf.entry, Rf.big, Rf.bigI, true_or, or_true, false_or, or_false, and_true, true_and, and_self, and_false, false_and, Nat.zero_le, eq_self, decide_true, decide_false, Rf.enD_map, Rf.shares_mapF, Rf.ix_t0, Rf.ix_t1, Rf.ix_t2, Rf.ix_t3, Rf.ix_t4, Rf.ix_l0, Rf.ix_l1, Rf.ix_l2, Rf.ix_l3, Rf.ix_l4, List.getElem?_cons_zero, List.getElem?_cons_succ, Option.bind_some, Option.bind_none, Option.map_some, Option.map_none, List.map_cons, List.map_nil, List.cons_append, List.nil_append, List.append_nil, List.replicate, List.length_cons, List.length_nil, if_true, if_false, reduceCtorEq, Bool.false_eq_true, Bool.not_true, Bool.not_false, Bool.or_true, Bool.true_or, Bool.or_false, Bool.false_or, Bool.and_true, Bool.true_and, Bool.and_false, Bool.false_and]
    | bl b => simp only [d_law_same, Rf.ev_var, Rf.ev_gl, Rf.ev_non, Rf.ev_bl, Rf.ev_int, Rf.ev_str, Rf.ev_bin, Rf.ev_neg, Rf.ev_not, Rf.ev_and, Rf.ev_or, Rf.ev_cmp, Rf.ev_chain, Rf.ev_ite, Rf.ev_blt, Rf.ev_isi, Rf.ev_call, Rf.ev_ix, Rf.ev_sl, Rf.ev_rev, Rf.ev_lst, Rf.ev_tup, Rf.ev_lrng, Rf.ev_fl, Rf.evs_nil, Rf.evs_cons, Rf.evT_yes, Rf.evT_e, Rf.evT_not, Rf.evT_and, Rf.evT_or, Rf.evI_it, Rf.evI_r1, Rf.evI_r2, Rf.evI_en, Rf.evI_zp, Rf.evI_rv, Rf.ex_set, Rf.ex_setO, Rf.ex_unp, Rf.ex_par, Rf.ex_aug, Rf.ex_app, Rf.ex_ifs, Rf.ex_ret, Rf.ex_retV, Rf.ex_retN, Rf.ex_brk, Rf.ex_cnt, Rf.ex_pass, Rf.ex_drop, Rf.ex_shr, Rf.ev_comp, Rf.ex_fr, Rf.exs_nil, Rf.exs_cons, Rf.seqF_nx, Rf.seqF_rt, Rf.seqF_bk, Rf.seqF_ct, Rf.gt, Rf.st, Rf.clr, Rf.puts, Rf.bindT, Rf.retM, Rf.clrF, Rf.turnS_eq, Rf.compT_eq, Rf.M.share, Rf.M.shares, Rf.bltM, Rf.binD, Rf.augD, Rf.addD, Rf.mulD, Rf.cmpD, Rf.eqM_int, Rf.eqM_bl, Rf.eqM_str, Rf.eqM_non, Rf.truD, Rf.isiD, Rf.itD, Rf.lstD, Rf.nbM, Rf.isNon, Rf.isN, Rf.entry, Rf.big, Rf.bigI, true_or, or_true, false_or, or_false, and_true, true_and, and_self, and_false, false_and, Nat.zero_le, eq_self, decide_true, decide_false, Rf.enD_map, Rf.shares_mapF, Rf.ix_t0, Rf.ix_t1, Rf.ix_t2, Rf.ix_t3, Rf.ix_t4, Rf.ix_l0, Rf.ix_l1, Rf.ix_l2, Rf.ix_l3, Rf.ix_l4, List.getElem?_cons_zero, List.getElem?_cons_succ, Option.bind_some, Option.bind_none, Option.map_some, Option.map_none, List.map_cons, List.map_nil, List.cons_append, List.nil_append, List.append_nil, List.replicate, List.length_cons, List.length_nil, if_true, if_false, reduceCtorEq, Bool.false_eq_true, Bool.not_true, Bool.not_false, Bool.or_true, Bool.true_or, Bool.or_false, Bool.false_or, Bool.and_true, Bool.true_and, Bool.and_false, Bool.false_and, eqD, beq_self_eq_true]
    | int i => simp only [d_law_same, Rf.ev_var, Rf.ev_gl, Rf.ev_non, Rf.ev_bl, Rf.ev_int, Rf.ev_str, Rf.ev_bin, Rf.ev_neg, Rf.ev_not, Rf.ev_and, Rf.ev_or, Rf.ev_cmp, Rf.ev_chain, Rf.ev_ite, Rf.ev_blt, Rf.ev_isi, Rf.ev_call, Rf.ev_ix, Rf.ev_sl, Rf.ev_rev, Rf.ev_lst, Rf.ev_tup, Rf.ev_lrng, Rf.ev_fl, Rf.evs_nil, Rf.evs_cons, Rf.evT_yes, Rf.evT_e, Rf.evT_not, Rf.evT_and, Rf.evT_or, Rf.evI_it, Rf.evI_r1, Rf.evI_r2, Rf.evI_en, Rf.evI_zp, Rf.evI_rv, Rf.ex_set, Rf.ex_setO, Rf.ex_unp, Rf.ex_par, Rf.ex_aug, Rf.ex_app, Rf.ex_ifs, Rf.ex_ret, Rf.ex_retV, Rf.ex_retN, Rf.ex_brk, Rf.ex_cnt, Rf.ex_pass, Rf.ex_drop, Rf.ex_shr, Rf.ev_comp, Rf.ex_fr, Rf.exs_nil, Rf.exs_cons, Rf.seqF_nx, Rf.seqF_rt, Rf.seqF_bk, Rf.seqF_ct, Rf.gt, Rf.st, Rf.clr, Rf.puts, Rf.bindT, Rf.retM, Rf.clrF, Rf.turnS_eq, Rf.compT_eq, Rf.M.share, Rf.M.shares, Rf.bltM, Rf.binD, Rf.augD, Rf.addD, Rf.mulD, Rf.cmpD, Rf.eqM_int, Rf.eqM_bl, Rf.eqM_str, Rf.eqM_non, Rf.truD, Rf.isiD, Rf.itD, Rf.lstD, Rf.nbM, Rf.isNon, Rf.isN, Rf.entry, Rf.big, Rf.bigI, true_or, or_true, false_or, or_false, and_true, true_and, and_self, and_false, false_and, Nat.zero_le, eq_self, decide_true, decide_false, Rf.enD_map, Rf.shares_mapF, Rf.ix_t0, Rf.ix_t1, Rf.ix_t2, Rf.ix_t3, Rf.ix_t4, Rf.ix_l0, Rf.ix_l1, Rf.ix_l2, Rf.ix_l3, Rf.ix_l4, List.getElem?_cons_zero, List.getElem?_cons_succ, Option.bind_some, Option.bind_none, Option.map_some, Option.map_none, List.map_cons, List.map_nil, List.cons_append, List.nil_append, List.append_nil, List.replicate, List.length_cons, List.length_nil, if_true, if_false, reduceCtorEq, Bool.false_eq_true, Bool.not_true, Bool.not_false, Bool.or_true, Bool.true_or, Bool.or_false, Bool.false_or, Bool.and_true, Bool.true_and, Bool.and_false, Bool.false_and, eqD, beq_self_eq_true]
    | str s => simp only [d_law_same, Rf.ev_var, Rf.ev_gl, Rf.ev_non, Rf.ev_bl, Rf.ev_int, Rf.ev_str, Rf.ev_bin, Rf.ev_neg, Rf.ev_not, Rf.ev_and, Rf.ev_or, Rf.ev_cmp, Rf.ev_chain, Rf.ev_ite, Rf.ev_blt, Rf.ev_isi, Rf.ev_call, Rf.ev_ix, Rf.ev_sl, Rf.ev_rev, Rf.ev_lst, Rf.ev_tup, Rf.ev_lrng, Rf.ev_fl, Rf.evs_nil, Rf.evs_cons, Rf.evT_yes, Rf.evT_e, Rf.evT_not, Rf.evT_and, Rf.evT_or, Rf.evI_it, Rf.evI_r1, Rf.evI_r2, Rf.evI_en, Rf.evI_zp, Rf.evI_rv, Rf.ex_set, Rf.ex_setO, Rf.ex_unp, Rf.ex_par, Rf.ex_aug, Rf.ex_app, Rf.ex_ifs, Rf.ex_ret, Rf.ex_retV, Rf.ex_retN, Rf.ex_brk, Rf.ex_cnt, Rf.ex_pass, Rf.ex_drop, Rf.ex_shr, Rf.ev_comp, Rf.ex_fr, Rf.exs_nil, Rf.exs_cons, Rf.seqF_nx, Rf.seqF_rt, Rf.seqF_bk, Rf.seqF_ct, Rf.gt, Rf.st, Rf.clr, Rf.puts, Rf.bindT, Rf.retM, Rf.clrF, Rf.turnS_eq, Rf.compT_eq, Rf.M.share, Rf.M.shares, Rf.bltM, Rf.binD, Rf.augD, Rf.addD, Rf.mulD, Rf.cmpD, Rf.eqM_int, Rf.eqM_bl, Rf.eqM_str, Rf.eqM_non, Rf.truD, Rf.isiD, Rf.itD, Rf.lstD, Rf.nbM, Rf.isNon, Rf.isN, Rf.entry, Rf.big, Rf.bigI, true_or, or_true, false_or, or_false, and_true, true_and, and_self, and_false, false_and, Nat.zero_le, eq_self, decide_true, decide_false, Rf.enD_map, Rf.shares_mapF, Rf.ix_t0, Rf.ix_t1, Rf.ix_t2, Rf.ix_t3, Rf.ix_t4, Rf.ix_l0, Rf.ix_l1, Rf.ix_l2, Rf.ix_l3, Rf.ix_l4, List.getElem?_cons_zero, List.getElem?_cons_succ, Option.bind_some, Option.bind_none, Option.map_some, Option.map_none, List.map_cons, List.map_nil, List.cons_append, List.nil_append, List.append_nil, List.replicate, List.length_cons, List.length_nil, if_true, if_false, reduceCtorEq, Bool.false_eq_true, Bool.not_true, Bool.not_false, Bool.or_true, Bool.true_or, Bool.or_false, Bool.false_or, Bool.and_true, Bool.true_and, Bool.and_false, Bool.false_and, eqD, beq_self_eq_true]
    | lst xs =>
      simp only [okSm, Bool.and_eq_true, decide_eq_true_eq] at h
      have h0 := h.1
      simp (disch := omega) only [d_law_same, Rf.ev_var, Rf.ev_gl, Rf.ev_non, Rf.ev_bl, Rf.ev_int, Rf.ev_str, Rf.ev_bin, Rf.ev_neg, Rf.ev_not, Rf.ev_and, Rf.ev_or, Rf.ev_cmp, Rf.ev_chain, Rf.ev_ite, Rf.ev_blt, Rf.ev_isi, Rf.ev_call, Rf.ev_ix, Rf.ev_sl, Rf.ev_rev, Rf.ev_lst, Rf.ev_tup, Rf.ev_lrng, Rf.ev_fl, Rf.evs_nil, Rf.evs_cons, Rf.evT_yes, Rf.evT_e, Rf.evT_not, Rf.evT_and, Rf.evT_or, Rf.evI_it, Rf.evI_r1, Rf.evI_r2, Rf.evI_en, Rf.evI_zp, Rf.evI_rv, Rf.ex_set, Rf.ex_setO, Rf.ex_unp, Rf.ex_par, Rf.ex_aug, Rf.ex_app, Rf.ex_ifs, Rf.ex_ret, Rf.ex_retV, Rf.ex_retN, Rf.ex_brk, Rf.ex_cnt, Rf.ex_pass, Rf.ex_drop, Rf.ex_shr, Rf.ev_comp, Rf.ex_fr, Rf.exs_nil, Rf.exs_cons, Rf.seqF_nx, Rf.seqF_rt, Rf.seqF_bk, Rf.seqF_ct, Rf.gt, Rf.st, Rf.clr, Rf.puts, Rf.bindT, Rf.retM, Rf.clrF, Rf.turnS_eq, Rf.compT_eq, Rf.M.share, Rf.M.shares, Rf.bltM, Rf.binD, Rf.augD, Rf.addD, Rf.mulD, Rf.cmpD, Rf.eqM_int, Rf.eqM_bl, Rf.eqM_str, Rf.eqM_non, Rf.truD, Rf.isiD, Rf.itD, Rf.lstD, Rf.nbM, Rf.isNon, Rf.isN, Rf.entry, Rf.big, Rf.bigI, true_or, or_true, false_or, or_false, and_true, true_and, and_self, and_false, false_and, Nat.zero_le, eq_self, decide_true, decide_false, Rf.enD_map, Rf.shares_mapF, Rf.ix_t0, Rf.ix_t1, Rf.ix_t2, Rf.ix_t3, Rf.ix_t4, Rf.ix_l0, Rf.ix_l1, Rf.ix_l2, Rf.ix_l3, Rf.ix_l4, List.getElem?_cons_zero, List.getElem?_cons_succ, Option.bind_some, Option.bind_none, Option.map_some, Option.map_none, List.map_cons, List.map_nil, List.cons_append, List.nil_append, List.append_nil, List.replicate, List.length_cons, List.length_nil, if_true, if_false, reduceCtorEq, Bool.false_eq_true, Bool.not_true, Bool.not_false, Bool.or_true, Bool.true_or, Bool.or_false, Bool.false_or, Bool.and_true, Bool.true_and, Bool.and_false, Bool.false_and, if_pos, Rf.rngD_nat, eqD, beq_self_eq_true, key xs (.lst xs) (fun i => ix_lstN i) h.2]
    | tup xs =>
      simp only [okSm, Bool.and_eq_true, decide_eq_true_eq] at h
      have h0 := h.1
      simp (disch := omega) only [d_law_same, Rf.ev_var, Rf.ev_gl, Rf.ev_non, Rf.ev_bl, Rf.ev_int, Rf.ev_str, Rf.ev_bin, Rf.ev_neg, Rf.ev_not, Rf.ev_and, Rf.ev_or, Rf.ev_cmp, Rf.ev_chain, Rf.ev_ite, Rf.ev_blt, Rf.ev_isi, Rf.ev_call, Rf.ev_ix, Rf.ev_sl, Rf.ev_rev, Rf.ev_lst, Rf.ev_tup, Rf.ev_lrng, Rf.ev_fl, Rf.evs_nil, Rf.evs_cons, Rf.evT_yes, Rf.evT_e, Rf.evT_not, Rf.evT_and, Rf.evT_or, Rf.evI_it, Rf.evI_r1, Rf.evI_r2, Rf.evI_en, Rf.evI_zp, Rf.evI_rv, Rf.ex_set, Rf.ex_setO, Rf.ex_unp, Rf.ex_par, Rf.ex_aug, Rf.ex_app, Rf.ex_ifs, Rf.ex_ret, Rf.ex_retV, Rf.ex_retN, Rf.ex_brk, Rf.ex_cnt, Rf.ex_pass, Rf.ex_drop, Rf.ex_shr, Rf.ev_comp, Rf.ex_fr, Rf.exs_nil, Rf.exs_cons, Rf.seqF_nx, Rf.seqF_rt, Rf.seqF_bk, Rf.seqF_ct, Rf.gt, Rf.st, Rf.clr, Rf.puts, Rf.bindT, Rf.retM, Rf.clrF, Rf.turnS_eq, Rf.compT_eq, Rf.M.share, Rf.M.shares, Rf.bltM, Rf.binD, Rf.augD, Rf.addD, Rf.mulD, Rf.cmpD, Rf.eqM_int, Rf.eqM_bl, Rf.eqM_str, Rf.eqM_non, Rf.truD, Rf.isiD, Rf.itD, Rf.lstD, Rf.nbM, Rf.isNon, Rf.isN, Rf.entry, Rf.big, Rf.bigI, true_or, or_true, false_or, or_false, and_true, true_and, and_self, and_false, false_and, Nat.zero_le, eq_self, decide_true, decide_false, Rf.enD_map, Rf.shares_mapF, Rf.ix_t0, Rf.ix_t1, Rf.ix_t2, Rf.ix_t3, Rf.ix_t4, Rf.ix_l0, Rf.ix_l1, Rf.ix_l2, Rf.ix_l3, Rf.ix_l4, List.getElem?_cons_zero, List.getElem?_cons_succ, Option.bind_some, Option.bind_none, Option.map_some, Option.map_none, List.map_cons, List.map_nil, List.cons_append, List.nil_append, List.append_nil, List.replicate, List.length_cons, List.length_nil, if_true, if_false, reduceCtorEq, Bool.false_eq_true, Bool.not_true, Bool.not_false, Bool.or_true, Bool.true_or, Bool.or_false, Bool.false_or, Bool.and_true, Bool.true_and, Bool.and_false, Bool.false_and, if_pos, Rf.rngD_nat, eqD, beq_self_eq_true, key xs (.tup xs) (fun i => ix_tupN i) h.2]
    | scr _ => simp [okSm] at h
theorem run_same (hT : T[2]? = some d_law_same) {n m : Nat} (d : D) (h : okSm m d = true) (hn : m + 1 ≤ n) : run T G n 2 [d, d] = some (.sh (.bl true)) := by
  have up : ∀ (m : Nat) (d : D), okSm m d = true → okSm (m + 1) d = true := by
    intro m
    induction m with
    | zero => intro d h; cases d <;> simp [okSm] at h ⊢
    | succ m ih =>
      intro d h
      cases d with
      | lst xs =>
        simp only [okSm, Bool.and_eq_true, decide_eq_true_eq, List.all_eq_true] at h ⊢
        exact ⟨h.1, fun x hx => by have := ih x (h.2 x hx); simpa only [okSm] using this⟩
      | tup xs =>
        simp only [okSm, Bool.and_eq_true, decide_eq_true_eq, List.all_eq_true] at h ⊢
        exact ⟨h.1, fun x hx => by have := ih x (h.2 x hx); simpa only [okSm] using this⟩
      | scr _ => simp [okSm] at h
      | _ => simp [okSm]
  obtain ⟨j, rfl⟩ : ∃ j, n = m + j + 1 := ⟨n - m - 1, by omega⟩
  refine run_same_refl hT (m + j) d ?_
  clear hn
  induction j with
  | zero => exact h
  | succ j ih => exact up _ _ ih
end
end Rf

set_option Elab.async false
set_option linter.all false
set_option maxRecDepth 100000
set_option maxHeartbeats 4000000
namespace K67
open PySem PySem.Spec PyProof.Rows L2 Rf
abbrev prog : Program := PySem.Challenge.pw_wordsweighed_k67_whole_best_orders_of_jo
def top (i : Nat) : Stmt := prog.main.body.getD i (.Pass ⟨0, 0, 0, 0⟩)
def b_finish_1 : Ss := 
  (.cons (.unp [5, 6] (.ix (.var 0) (.var 4))) 
  (.cons (.aug 2 .Add (.var 5)) 
  (.cons (.set 3 (.bin .Add (.blt .max2 (.cons (.var 2) (.cons (.var 3) .nil))) (.var 6))) .nil)))
def d_finish : Fd := ⟨"finish", 2, ["jobs", "order", "set_at", "printed_at", "number", "setting", "printing"], [],
    (.cons (.set 2 (.int 0)) 
    (.cons (.set 3 (.int 0)) 
    (.cons (.fr (.nm 4) (.it (.var 1)) b_finish_1 [4, 5, 6]) 
    (.cons (.retV 3) .nil))))⟩
def d_best_order : Fd := ⟨"best_order", 1, ["jobs", "quick", "k", "job", "slow", "_"], [],
    (.cons (.set 1 (.comp (.tup (.cons (.ix (.var 3) (.int 0)) (.cons (.var 2) .nil))) (.tp [2, 3]) (.en (.var 0)) (.e (.cmp .LtE (.ix (.var 3) (.int 0)) (.ix (.var 3) (.int 1)))) [2, 3])) 
    (.cons (.set 4 (.comp (.tup (.cons (.neg (.ix (.var 3) (.int 1))) (.cons (.var 2) .nil))) (.tp [2, 3]) (.en (.var 0)) (.e (.cmp .Gt (.ix (.var 3) (.int 0)) (.ix (.var 3) (.int 1)))) [2, 3])) 
    (.cons (.ret (.bin .Add (.comp (.var 2) (.tp [5, 2]) (.it (.blt .sorted (.cons (.var 1) .nil))) (.yes) [5, 2]) (.comp (.var 2) (.tp [5, 2]) (.it (.blt .sorted (.cons (.var 4) .nil))) (.yes) [5, 2]))) .nil)))⟩
def b_law_orders_1 : Ss := 
  (.cons (.set 3 (.bin .Add (.var 3) (.comp (.bin .Add (.var 4) (.lst (.cons (.var 5) .nil))) (.nm 5) (.r1 (.var 0)) (.e (.cmp .NotIn (.var 5) (.var 4))) [5]))) .nil)
def b_law_orders_2 : Ss := 
  (.cons (.set 3 (.lst .nil)) 
  (.cons (.drop [4]) 
  (.cons (.fr (.nm 4) (.it (.var 1)) b_law_orders_1 [4]) 
  (.cons (.set 1 (.var 3)) .nil))))
def d_law_orders : Fd := ⟨"_law_orders", 1, ["count", "found", "k", "more", "order", "one"], [],
    (.cons (.set 1 (.lst (.cons (.lst .nil) .nil))) 
    (.cons (.fr (.nm 2) (.r1 (.var 0)) b_law_orders_2 [2, 3, 4]) 
    (.cons (.retV 1) .nil)))⟩
def b_law_finish_1 : Ss := 
  (.cons (.set 2 (.blt .max2 (.cons (.var 2) (.cons (.bin .Add (.blt .sum (.cons (.comp (.ix (.ix (.var 0) (.var 4)) (.int 0)) (.nm 4) (.it (.sl (.var 1) (.int 0) (.bin .Add (.var 3) (.int 1)))) (.yes) [4]) .nil)) (.blt .sum (.cons (.comp (.ix (.ix (.var 0) (.var 4)) (.int 1)) (.nm 4) (.it (.sl (.var 1) (.var 3) .non)) (.yes) [4]) .nil))) .nil)))) .nil)
def d_law_finish : Fd := ⟨"_law_finish", 2, ["jobs", "order", "best", "k", "one"], [],
    (.cons (.set 2 (.int 0)) 
    (.cons (.fr (.nm 3) (.r1 (.blt .len (.cons (.var 1) .nil))) b_law_finish_1 [3]) 
    (.cons (.retV 2) .nil)))⟩
def b_law_best_1 : Ss := 
  (.cons (.ifs (.e (.cmp .LtE (.ix (.ix (.var 0) (.var 2)) (.int 0)) (.ix (.ix (.var 0) (.var 2)) (.int 1)))) (
          (.cons (.app 1 (.tup (.cons (.int 0) (.cons (.ix (.ix (.var 0) (.var 2)) (.int 0)) (.cons (.var 2) .nil))))) .nil)) (
          (.cons (.app 1 (.tup (.cons (.int 1) (.cons (.bin .Sub (.int 0) (.ix (.ix (.var 0) (.var 2)) (.int 1))) (.cons (.var 2) .nil))))) .nil))) .nil)
def d_law_best : Fd := ⟨"_law_best", 1, ["jobs", "keys", "k", "key"], [1],
    (.cons (.setO 1 (.lst .nil)) 
    (.cons (.fr (.nm 2) (.r1 (.blt .len (.cons (.var 0) .nil))) b_law_best_1 [2]) 
    (.cons (.shr 1) 
    (.cons (.ret (.comp (.ix (.var 3) (.int 2)) (.nm 3) (.it (.blt .sorted (.cons (.var 1) .nil))) (.yes) [3])) .nil))))⟩
def b_law_1 : Ss := 
  (.cons (.setO 9 (.call 4 (.cons (.var 4) .nil))) 
  (.cons (.ifs (.or (.not (.e (.call 2 (.cons (.var 9) (.cons (.var 7) .nil))))) (.e (.cmp .NotEq (.var 4) (.var 6)))) (
              (.cons (.ret (.bl false)) .nil)) (.nil)) 
  (.cons (.app 9 (.int 0)) .nil)))
def b_law_2 : Ss := 
  (.cons (.set 13 (.blt .list (.cons (.var 12) .nil))) 
  (.cons (.set 14 (.call 3 (.cons (.var 4) (.cons (.var 12) .nil)))) 
  (.cons (.ifs (.or (.not (.e (.call 2 (.cons (.var 14) (.cons (.call 6 (.cons (.var 4) (.cons (.var 12) .nil))) .nil))))) (.or (.e (.cmp .Lt (.var 14) (.var 10))) (.e (.cmp .NotEq (.var 12) (.var 13))))) (
              (.cons (.ret (.bl false)) .nil)) (.nil)) .nil)))
def b_law_3 : Ss := 
  (.cons (.set 2 (.call 1 (.cons (.call 0 (.cons (.var 0) (.cons (.var 1) .nil))) (.cons (.int 36) (.cons (.int 5040) .nil))))) 
  (.cons (.set 3 (.ix (.lst (.cons (.int 4) (.cons (.int 20) (.cons (.int 1001) .nil)))) (.bin .Mod (.ix (.var 2) (.int 1)) (.int 3)))) 
  (.cons (.set 4 (.comp (.tup (.cons (.bin .Mod (.ix (.var 2) (.bin .Add (.int 4) (.bin .Mult (.int 2) (.var 5)))) (.var 3)) (.cons (.bin .Mod (.ix (.var 2) (.bin .Add (.int 5) (.bin .Mult (.int 2) (.var 5)))) (.var 3)) .nil))) (.nm 5) (.r1 (.bin .Mod (.ix (.var 2) (.int 0)) (.ix (.lst (.cons (.int 6) (.cons (.int 11) .nil))) (.var 1)))) (.yes) [5])) 
  (.cons (.set 6 (.blt .list (.cons (.var 4) .nil))) 
  (.cons (.set 7 (.call 7 (.cons (.var 4) .nil))) 
  (.cons (.drop [8, 9]) 
  (.cons (.fr (.nm 8) (.r1 (.int 2)) b_law_1 [8, 9]) 
  (.cons (.set 10 (.call 6 (.cons (.var 4) (.cons (.var 7) .nil)))) 
  (.cons (.set 11 (.lst (.cons (.var 7) (.cons (.rev (.var 7)) (.cons (.lrng (.blt .len (.cons (.var 4) .nil))) .nil))))) 
  (.cons (.ifs (.e (.cmp .Eq (.var 1) (.int 0))) (
          (.cons (.set 11 (.call 5 (.cons (.blt .len (.cons (.var 4) .nil)) .nil))) .nil)) (.nil)) 
  (.cons (.drop [12, 13, 14]) 
  (.cons (.fr (.nm 12) (.it (.var 11)) b_law_2 [12, 13, 14]) 
  (.cons (.set 15 (.bin .Add (.sl (.var 4) (.int 0) (.int 9)) (.lst (.cons (.tup (.cons (.bin .Mod (.ix (.var 2) (.int 2)) (.var 3)) (.cons (.bin .Mod (.ix (.var 2) (.int 3)) (.var 3)) .nil))) .nil)))) 
  (.cons (.ifs (.e (.cmp .Lt (.call 3 (.cons (.var 15) (.cons (.call 4 (.cons (.var 15) .nil)) .nil))) (.call 3 (.cons (.sl (.var 4) (.int 0) (.int 9)) (.cons (.call 4 (.cons (.sl (.var 4) (.int 0) (.int 9)) .nil)) .nil))))) (
          (.cons (.ret (.bl false)) .nil)) (.nil)) .nil))))))))))))))
def d_law : Fd := ⟨"law", 1, ["script", "at", "draws", "most", "jobs", "k", "kept", "due", "turn", "told", "least", "orders", "order", "before", "time", "more"], [9],
    (.cons (.fr (.nm 1) (.r1 (.int 2)) b_law_3 [1, 2, 3, 4, 6, 7, 8, 9, 10, 11, 12, 13, 14, 15]) 
    (.cons (.ret (.bl true)) .nil))⟩
def tab : List Fd := [d_law_cell, d_law_numbers, d_law_same, d_finish, d_best_order, d_law_orders, d_law_finish, d_law_best, d_law]
def tops : List Nat := [4, 5, 6, 1, 2, 7, 8, 9, 10]

def txt : List Stmt := tops.map top
def gs : List (Str × D) := []
theorem b_law_cell : BndOk (top 4) (d_law_cell.N.take d_law_cell.np) := fun _ _ _ _ _ _ _ _ us hl => match us, hl with | [_, _], _ => rfl
theorem b_law_numbers : BndOk (top 5) (d_law_numbers.N.take d_law_numbers.np) := fun _ _ _ _ _ _ _ _ us hl => match us, hl with | [_, _, _], _ => rfl
theorem b_law_same : BndOk (top 6) (d_law_same.N.take d_law_same.np) := fun _ _ _ _ _ _ _ _ us hl => match us, hl with | [_, _], _ => rfl
theorem b_finish : BndOk (top 1) (d_finish.N.take d_finish.np) := fun _ _ _ _ _ _ _ _ us hl => match us, hl with | [_, _], _ => rfl
theorem b_best_order : BndOk (top 2) (d_best_order.N.take d_best_order.np) := fun _ _ _ _ _ _ _ _ us hl => match us, hl with | [_], _ => rfl
theorem b_law_orders : BndOk (top 7) (d_law_orders.N.take d_law_orders.np) := fun _ _ _ _ _ _ _ _ us hl => match us, hl with | [_], _ => rfl
theorem b_law_finish : BndOk (top 8) (d_law_finish.N.take d_law_finish.np) := fun _ _ _ _ _ _ _ _ us hl => match us, hl with | [_, _], _ => rfl
theorem b_law_best : BndOk (top 9) (d_law_best.N.take d_law_best.np) := fun _ _ _ _ _ _ _ _ us hl => match us, hl with | [_], _ => rfl
theorem b_law : BndOk (top 10) (d_law.N.take d_law.np) := fun _ _ _ _ _ _ _ _ us hl => match us, hl with | [_], _ => rfl
theorem bnd : BndAll tab txt := ⟨b_law_cell, b_law_numbers, b_law_same, b_finish, b_best_order, b_law_orders, b_law_finish, b_law_best, b_law, trivial⟩

theorem chk : chkAll tab gs [] 60 tab txt = true := by decide +kernel
end K67

set_option Elab.async false
set_option linter.all false
set_option maxRecDepth 100000
set_option maxHeartbeats 4000000
namespace K67
/-! ### jobs one behind another -/
abbrev Job := Int × Int
def fstep (s : Int × Int) (j : Job) : Int × Int := (s.1 + j.1, (if s.2 > s.1 + j.1 then s.2 else s.1 + j.1) + j.2)
def sA : List Job → Int
  | [] => 0
  | j :: l => j.1 + sA l
def sB : List Job → Int
  | [] => 0
  | j :: l => j.2 + sB l
theorem sA_app : ∀ l m : List Job, sA (l ++ m) = sA l + sA m
  | [], m => by simp [sA]
  | j :: l, m => by rw [List.cons_append, sA, sA, sA_app l m]; omega
theorem sB_app : ∀ l m : List Job, sB (l ++ m) = sB l + sB m
  | [], m => by simp [sB]
  | j :: l, m => by rw [List.cons_append, sB, sB, sB_app l m]; omega
def F (l : List Job) : Int := (l.foldl fstep (0, 0)).2
theorem f_base : ∀ (l : List Job) (s : Int × Int), s.2 + sB l ≤ (l.foldl fstep s).2
  | [], s => by simp [sB]
  | j :: l, s => by
    rw [List.foldl_cons, sB]
    have h := f_base l (fstep s j)
    have : s.2 + j.2 ≤ (fstep s j).2 := by
      unfold fstep
      dsimp only
      split <;> omega
    omega
theorem f_ge : ∀ (P : List Job) (y : Job) (R : List Job) (s : Int × Int), s.1 + sA P + y.1 + y.2 + sB R ≤ ((P ++ y :: R).foldl fstep s).2
  | [], y, R, s => by
    rw [List.nil_append, List.foldl_cons, sA]
    have h := f_base R (fstep s y)
    have : s.1 + y.1 + y.2 ≤ (fstep s y).2 := by
      unfold fstep
      dsimp only
      split <;> omega
    omega
  | j :: P, y, R, s => by
    rw [List.cons_append, List.foldl_cons, sA]
    have h := f_ge P y R (fstep s j)
    have : (fstep s j).1 = s.1 + j.1 := rfl
    omega
theorem f_le : ∀ (l : List Job) (s : Int × Int) (M : Int), s.2 + sB l ≤ M → (∀ P y R, l = P ++ y :: R → s.1 + sA P + y.1 + y.2 + sB R ≤ M) → (l.foldl fstep s).2 ≤ M
  | [], s, M, h, _ => by simpa [sB] using h
  | j :: l, s, M, h, hs => by
    rw [List.foldl_cons]
    refine f_le l (fstep s j) M ?_ fun P y R e => ?_
    · have h0 := hs [] j l rfl
      rw [sB] at h
      simp only [sA] at h0
      unfold fstep
      dsimp only
      split <;> omega
    · have h1 := hs (j :: P) y R (by rw [e]; rfl)
      rw [sA] at h1
      have : (fstep s j).1 = s.1 + j.1 := rfl
      omega
def NN (l : List Job) : Prop := ∀ j ∈ l, 0 ≤ j.1 ∧ 0 ≤ j.2
theorem F_ge (P : List Job) (y : Job) (R : List Job) : sA P + y.1 + y.2 + sB R ≤ F (P ++ y :: R) := by
  have := f_ge P y R (0, 0)
  unfold F
  simpa using this
theorem F_le (l : List Job) (M : Int) (h0 : 0 ≤ M) (hn : NN l) (h : ∀ P y R, l = P ++ y :: R → sA P + y.1 + y.2 + sB R ≤ M) : F l ≤ M := by
  refine f_le l (0, 0) M ?_ fun P y R e => by simpa using h P y R e
  cases l with
  | nil => simpa [sB] using h0
  | cons j l =>
    have h1 := h [] j l rfl
    have h2 := (hn j (List.mem_cons_self ..)).1
    simp only [sA, sB] at h1 ⊢
    omega
theorem F_nn (l : List Job) (hn : NN l) : 0 ≤ F l := by
  have h := f_base l (0, 0)
  have : ∀ l : List Job, NN l → 0 ≤ sB l := by
    intro l
    induction l with
    | nil => intro _; simp [sB]
    | cons j l ih =>
      intro hn
      have h1 := (hn j (List.mem_cons_self ..)).2
      have h2 := ih fun k hk => hn k (List.mem_cons_of_mem _ hk)
      rw [sB]; omega
  have := this l hn
  unfold F
  simp only at h
  omega
/-! ### fewer jobs -/
theorem f_mono {l m : List Job} (h : l.Sublist m) : ∀ (s t : Int × Int), NN m → s.1 ≤ t.1 → s.2 ≤ t.2 → (l.foldl fstep s).2 ≤ (m.foldl fstep t).2 := by
  induction h with
  | slnil => intro s t _ h1 h2; exact h2
  | @cons l m j h ih =>
    intro s t hn h1 h2
    rw [List.foldl_cons]
    have hj := hn j (List.mem_cons_self ..)
    refine ih s (fstep t j) (fun k hk => hn k (List.mem_cons_of_mem _ hk)) ?_ ?_
    · show s.1 ≤ t.1 + j.1; omega
    · unfold fstep; dsimp only; split <;> omega
  | @cons_cons l m j h ih =>
    intro s t hn h1 h2
    rw [List.foldl_cons, List.foldl_cons]
    refine ih (fstep s j) (fstep t j) (fun k hk => hn k (List.mem_cons_of_mem _ hk)) ?_ ?_
    · show s.1 + j.1 ≤ t.1 + j.1; omega
    · unfold fstep; dsimp only; split <;> split <;> omega
theorem F_sub {l m : List Job} (h : l.Sublist m) (hn : NN m) : F l ≤ F m := f_mono h _ _ hn (Int.le_refl _) (Int.le_refl _)
/-! ### the best order -/
def JR (e f : Job) : Prop := (e.1 ≤ e.2 ∧ (f.2 < f.1 ∨ e.1 ≤ f.1)) ∨ (e.2 < e.1 ∧ f.2 < f.1 ∧ f.2 ≤ e.2)
def sG (g : Job → Int) : List Job → Int
  | [] => 0
  | j :: l => g j + sG g l
theorem sG_app (g : Job → Int) : ∀ l m : List Job, sG g (l ++ m) = sG g l + sG g m
  | [], m => by simp [sG]
  | j :: l, m => by rw [List.cons_append, sG, sG, sG_app g l m]; omega
theorem sG_perm (g : Job → Int) {l m : List Job} (h : l.Perm m) : sG g l = sG g m := by
  induction h with
  | nil => rfl
  | cons x _ ih => rw [sG, sG, ih]
  | swap x y l => simp only [sG]; omega
  | trans _ _ h1 h2 => rw [h1, h2]
theorem sA_le_G (g : Job → Int) : ∀ l : List Job, (∀ e ∈ l, e.1 ≤ g e) → sA l ≤ sG g l
  | [], _ => Int.le_refl _
  | j :: l, h => by
    have h1 := h j (List.mem_cons_self ..)
    have h2 := sA_le_G g l fun e he => h e (List.mem_cons_of_mem _ he)
    rw [sA, sG]; omega
theorem sG_le_A (g : Job → Int) : ∀ l : List Job, (∀ e ∈ l, g e ≤ e.1) → sG g l ≤ sA l
  | [], _ => Int.le_refl _
  | j :: l, h => by
    have h1 := h j (List.mem_cons_self ..)
    have h2 := sG_le_A g l fun e he => h e (List.mem_cons_of_mem _ he)
    rw [sA, sG]; omega
theorem sB_le_G (g : Job → Int) : ∀ l : List Job, (∀ e ∈ l, e.2 ≤ g e) → sB l ≤ sG g l
  | [], _ => Int.le_refl _
  | j :: l, h => by
    have h1 := h j (List.mem_cons_self ..)
    have h2 := sB_le_G g l fun e he => h e (List.mem_cons_of_mem _ he)
    rw [sB, sG]; omega
theorem sG_le_B (g : Job → Int) : ∀ l : List Job, (∀ e ∈ l, g e ≤ e.2) → sG g l ≤ sB l
  | [], _ => Int.le_refl _
  | j :: l, h => by
    have h1 := h j (List.mem_cons_self ..)
    have h2 := sG_le_B g l fun e he => h e (List.mem_cons_of_mem _ he)
    rw [sB, sG]; omega
theorem first_of (p : Job → Prop) [DecidablePred p] : ∀ l : List Job, (∃ e ∈ l, p e) → ∃ P y R, l = P ++ y :: R ∧ p y ∧ ∀ e ∈ P, ¬ p e
  | [], h => by obtain ⟨_, h, _⟩ := h; exact absurd h (by simp)
  | j :: l, h => by
    by_cases hj : p j
    · exact ⟨[], j, l, rfl, hj, by simp⟩
    · obtain ⟨e, he, pe⟩ := h
      rcases List.mem_cons.mp he with q | q
      · subst q; exact absurd pe hj
      · obtain ⟨P, y, R, e1, e2, e3⟩ := first_of p l ⟨e, q, pe⟩
        refine ⟨j :: P, y, R, by rw [e1]; rfl, e2, fun k hk => ?_⟩
        rcases List.mem_cons.mp hk with z | z
        · subst z; exact hj
        · exact e3 k z
theorem last_of (p : Job → Prop) [DecidablePred p] : ∀ l : List Job, (∃ e ∈ l, p e) → ∃ P y R, l = P ++ y :: R ∧ p y ∧ ∀ e ∈ R, ¬ p e
  | [], h => by obtain ⟨_, h, _⟩ := h; exact absurd h (by simp)
  | j :: l, h => by
    by_cases hl : ∃ e ∈ l, p e
    · obtain ⟨P, y, R, e1, e2, e3⟩ := last_of p l hl
      exact ⟨j :: P, y, R, by rw [e1]; rfl, e2, e3⟩
    · obtain ⟨e, he, pe⟩ := h
      rcases List.mem_cons.mp he with q | q
      · subst q; exact ⟨[], e, l, rfl, pe, fun k hk hp => hl ⟨k, hk, hp⟩⟩
      · exact absurd ⟨e, q, pe⟩ hl
theorem johnson {l m : List Job} (hp : l.Perm m) (hj : l.Pairwise JR) (hn : NN l) : F l ≤ F m := by
  have hnm : NN m := fun j h => hn j (hp.symm.subset h)
  refine F_le l (F m) (F_nn m hnm) hn fun u x v e => ?_
  subst e
  obtain ⟨_, hxv, hux⟩ := List.pairwise_append.mp hj
  obtain ⟨hxv, _⟩ := List.pairwise_cons.mp hxv
  have hux : ∀ a ∈ u, JR a x := fun a ha => hux a ha x (List.mem_cons_self ..)
  have hxm : x ∈ m := hp.subset (List.mem_append_right _ (List.mem_cons_self ..))
  have inl : ∀ a ∈ u, 0 ≤ a.1 ∧ 0 ≤ a.2 := fun a ha => hn a (List.mem_append_left _ ha)
  by_cases hq : x.1 ≤ x.2
  · -- x is quick: the first quick one with as much setting
    obtain ⟨P, y, R, e1, e2, e3⟩ := first_of (fun e => e.1 ≤ e.2 ∧ x.1 ≤ e.1) m ⟨x, hxm, hq, Int.le_refl _⟩
    let g : Job → Int := fun e => if e.1 ≤ e.2 ∧ e.1 < x.1 then e.1 else e.2
    have hG := sG_perm g hp
    rw [e1, sG_app, sG_app, sG, sG] at hG
    have h1 : sA u ≤ sG g u := sA_le_G g u fun a ha => by
      have := hux a ha
      unfold JR at this
      show a.1 ≤ if a.1 ≤ a.2 ∧ a.1 < x.1 then a.1 else a.2
      split <;> omega
    have h2 : sB v ≤ sG g v := sB_le_G g v fun a ha => by
      have := hxv a ha
      unfold JR at this
      show a.2 ≤ if a.1 ≤ a.2 ∧ a.1 < x.1 then a.1 else a.2
      split <;> omega
    have h3 : g x = x.2 := by
      show (if x.1 ≤ x.2 ∧ x.1 < x.1 then x.1 else x.2) = x.2
      rw [if_neg (by omega)]
    have h4 : sG g P ≤ sA P := sG_le_A g P fun a ha => by
      have := e3 a ha
      show (if a.1 ≤ a.2 ∧ a.1 < x.1 then a.1 else a.2) ≤ a.1
      split <;> omega
    have h5 : g y ≤ y.2 := by
      show (if y.1 ≤ y.2 ∧ y.1 < x.1 then y.1 else y.2) ≤ y.2
      split <;> omega
    have h6 : sG g R ≤ sB R := sG_le_B g R fun a ha => by
      show (if a.1 ≤ a.2 ∧ a.1 < x.1 then a.1 else a.2) ≤ a.2
      split <;> omega
    have h7 := F_ge P y R
    rw [e1]
    have := e2.2
    omega
  · obtain ⟨P, y, R, e1, e2, e3⟩ := last_of (fun e => e.2 < e.1 ∧ x.2 ≤ e.2) m ⟨x, hxm, by omega, Int.le_refl _⟩
    let g : Job → Int := fun e => if e.2 < e.1 ∧ e.2 < x.2 then e.2 else e.1
    have hG := sG_perm g hp
    rw [e1, sG_app, sG_app, sG, sG] at hG
    have h1 : sA u ≤ sG g u := sA_le_G g u fun a ha => by
      have := hux a ha
      unfold JR at this
      show a.1 ≤ if a.2 < a.1 ∧ a.2 < x.2 then a.2 else a.1
      split <;> omega
    have h2 : sB v ≤ sG g v := sB_le_G g v fun a ha => by
      have := hxv a ha
      unfold JR at this
      show a.2 ≤ if a.2 < a.1 ∧ a.2 < x.2 then a.2 else a.1
      split <;> omega
    have h3 : g x = x.1 := by
      show (if x.2 < x.1 ∧ x.2 < x.2 then x.2 else x.1) = x.1
      rw [if_neg (by omega)]
    have h4 : sG g P ≤ sA P := sG_le_A g P fun a ha => by
      show (if a.2 < a.1 ∧ a.2 < x.2 then a.2 else a.1) ≤ a.1
      split <;> omega
    have h5 : g y ≤ y.1 := by
      show (if y.2 < y.1 ∧ y.2 < x.2 then y.2 else y.1) ≤ y.1
      split <;> omega
    have h6 : sG g R ≤ sB R := sG_le_B g R fun a ha => by
      have := e3 a ha
      show (if a.2 < a.1 ∧ a.2 < x.2 then a.2 else a.1) ≤ a.2
      split <;> omega
    have h7 := F_ge P y R
    rw [e1]
    have := e2.2
    omega
/-! ### the greatest of the sums -/
def mx (a b : Int) : Int := if b > a then b else a
def LF (l : List Job) : Int := (List.range l.length).foldl (fun best k => mx best (sA (l.take (k + 1)) + sB (l.drop k))) 0
theorem mx_fold {α : Type} (t : α → Int) : ∀ (xs : List α) (b : Int), b ≤ xs.foldl (fun best k => mx best (t k)) b ∧ (∀ k ∈ xs, t k ≤ xs.foldl (fun best k => mx best (t k)) b) ∧ ∀ M, b ≤ M → (∀ k ∈ xs, t k ≤ M) → xs.foldl (fun best k => mx best (t k)) b ≤ M
  | [], b => ⟨Int.le_refl _, fun _ h => absurd h (by simp), fun M h _ => h⟩
  | x :: xs, b => by
    obtain ⟨h1, h2, h3⟩ := mx_fold t xs (mx b (t x))
    have m1 : b ≤ mx b (t x) := by unfold mx; split <;> omega
    have m2 : t x ≤ mx b (t x) := by unfold mx; split <;> omega
    refine ⟨Int.le_trans m1 h1, fun k hk => ?_, fun M hb hM => h3 M ?_ fun k hk => hM k (List.mem_cons_of_mem _ hk)⟩
    · rcases List.mem_cons.mp hk with e | e
      · subst e; exact Int.le_trans m2 h1
      · exact h2 k e
    · have := hM x (List.mem_cons_self ..)
      unfold mx; split <;> omega
theorem LF_eq (l : List Job) (hn : NN l) : LF l = F l := by
  obtain ⟨h1, h2, h3⟩ := mx_fold (fun k => sA (l.take (k + 1)) + sB (l.drop k)) (List.range l.length) 0
  have term : ∀ k, k < l.length → ∃ P y R, l = P ++ y :: R ∧ P.length = k ∧ sA (l.take (k + 1)) + sB (l.drop k) = sA P + y.1 + y.2 + sB R := by
    intro k hk
    refine ⟨l.take k, l[k], l.drop (k + 1), ?_, by rw [List.length_take]; omega, ?_⟩
    · rw [← List.drop_eq_getElem_cons hk, List.take_append_drop]
    · rw [List.take_succ_eq_append_getElem hk, sA_app, List.drop_eq_getElem_cons hk, sB, sA, sA]
      omega
  apply Int.le_antisymm
  · refine h3 _ (F_nn l hn) fun k hk => ?_
    obtain ⟨P, y, R, e, _, et⟩ := term k (List.mem_range.mp hk)
    rw [et]
    conv => rhs; rw [e]
    exact F_ge P y R
  · refine F_le l _ h1 hn fun P y R e => ?_
    have hk : P.length < l.length := by rw [e, List.length_append, List.length_cons]; omega
    have := h2 P.length (List.mem_range.mpr hk)
    have t1 : l.take (P.length + 1) = P ++ [y] := by
      rw [e, List.take_append]
      simp
      rw [List.take_of_length_le (by omega)]
    have t2 : l.drop P.length = y :: R := by rw [e, List.drop_left]
    simp only [t1, t2, sA_app, sA, sB] at this
    show _ ≤ LF l
    unfold LF
    omega
end K67

set_option Elab.async false
set_option linter.all false
set_option maxRecDepth 100000
set_option maxHeartbeats 4000000
namespace K67
open PySem PySem.Spec PyProof.Rows L2 Rf
def jobD (j : Job) : D := .tup [.int j.1, .int j.2]
def jat (js : List Job) (o : Nat) : Job := js.getD o (0, 0)
theorem ix_job {js : List Job} {o : Nat} (h : o < js.length) : ixD (.lst (js.map jobD)) (.int (o : Int)) = some (jobD (jat js o)) := by
  rw [ix_lst jobD h]; simp [jat, h]
theorem run_finish {n : Nat} (hn : 1 ≤ n) (js : List Job) (os : List Nat) (h : ∀ o ∈ os, o < js.length) : run tab gs n 3 [.lst (js.map jobD), .lst (os.map natD)] = some (.sh (.int (F (os.map (jat js))))) := by
  obtain ⟨k, rfl⟩ : ∃ k, n = k + 1 := ⟨n - 1, by omega⟩
  rw [run_at d_finish rfl rfl]
  simp only [d_finish, Rf.ev_var, Rf.ev_gl, Rf.ev_non, Rf.ev_bl, Rf.ev_int, Rf.ev_str, Rf.ev_bin, Rf.ev_neg, Rf.ev_not, Rf.ev_and, Rf.ev_or, Rf.ev_cmp, Rf.ev_chain, Rf.ev_ite, Rf.ev_blt, Rf.ev_isi, Rf.ev_call, Rf.ev_ix, Rf.ev_sl, Rf.ev_rev, Rf.ev_lst, Rf.ev_tup, Rf.ev_lrng, Rf.ev_fl, Rf.evs_nil, Rf.evs_cons, Rf.evT_yes, Rf.evT_e, Rf.evT_not, Rf.evT_and, Rf.evT_or, Rf.evI_it, Rf.evI_r1, Rf.evI_r2, Rf.evI_en, Rf.evI_zp, Rf.evI_rv, Rf.ex_set, Rf.ex_setO, Rf.ex_unp, Rf.ex_par, Rf.ex_aug, Rf.ex_app, Rf.ex_ifs, Rf.ex_ret, Rf.ex_retV, Rf.ex_retN, Rf.ex_brk, Rf.ex_cnt, Rf.ex_pass, Rf.ex_drop, Rf.ex_shr, Rf.ev_comp, Rf.ex_fr, Rf.exs_nil, Rf.exs_cons, Rf.seqF_nx, Rf.seqF_rt, Rf.seqF_bk, Rf.seqF_ct, Rf.gt, Rf.st, Rf.clr, Rf.puts, Rf.bindT, Rf.retM, Rf.clrF, Rf.turnS_eq, Rf.compT_eq, Rf.M.share, Rf.M.shares, Rf.bltM, Rf.binD, Rf.augD, Rf.addD, Rf.mulD, Rf.cmpD, Rf.eqM_int, Rf.eqM_bl, Rf.eqM_str, Rf.eqM_non, Rf.truD, Rf.isiD, Rf.itD, Rf.lstD, Rf.nbM, Rf.isNon, Rf.isN, Rf.entry, Rf.big, Rf.bigI, true_or, or_true, false_or, or_false, and_true, true_and, and_self, and_false, false_and, Nat.zero_le, eq_self, decide_true, decide_false, Rf.enD_map, Rf.shares_mapF, Rf.ix_t0, Rf.ix_t1, Rf.ix_t2, Rf.ix_t3, Rf.ix_t4, Rf.ix_l0, Rf.ix_l1, Rf.ix_l2, Rf.ix_l3, Rf.ix_l4, List.getElem?_cons_zero, List.getElem?_cons_succ, Option.bind_some, Option.bind_none, Option.map_some, Option.map_none, List.map_cons, List.map_nil, List.cons_append, List.nil_append, List.append_nil, List.replicate, List.length_cons, List.length_nil, if_true, if_false, reduceCtorEq, Bool.false_eq_true, Bool.not_true, Bool.not_false, Bool.or_true, Bool.true_or, Bool.or_false, Bool.false_or, Bool.and_true, Bool.true_and, Bool.and_false, Bool.false_and]
  rw [loopS_fold0 (fun b : Int × Int => [some (.sh (.lst (js.map jobD))), some (.sh (.lst (os.map natD))), some (.sh (.int b.1)), some (.sh (.int b.2)), none, none, none]) (fun s o => fstep s (jat js o)) natD os (0, 0)]
  · simp only [Rf.ev_var, Rf.ev_gl, Rf.ev_non, Rf.ev_bl, Rf.ev_int, Rf.ev_str, Rf.ev_bin, Rf.ev_neg, Rf.ev_not, Rf.ev_and, Rf.ev_or, Rf.ev_cmp, Rf.ev_chain, Rf.ev_ite, Rf.ev_blt, Rf.ev_isi, Rf.ev_call, Rf.ev_ix, Rf.ev_sl, Rf.ev_rev, Rf.ev_lst, Rf.ev_tup, Rf.ev_lrng, Rf.ev_fl, Rf.evs_nil, Rf.evs_cons, Rf.evT_yes, Rf.evT_e, Rf.evT_not, Rf.evT_and, Rf.evT_or, Rf.evI_it, Rf.evI_r1, Rf.evI_r2, Rf.evI_en, Rf.evI_zp, Rf.evI_rv, Rf.ex_set, Rf.ex_setO, Rf.ex_unp, Rf.ex_par, Rf.ex_aug, Rf.ex_app, Rf.ex_ifs, Rf.ex_ret, Rf.ex_retV, Rf.ex_retN, Rf.ex_brk, Rf.ex_cnt, Rf.ex_pass, Rf.ex_drop, Rf.ex_shr, Rf.ev_comp, Rf.ex_fr, Rf.exs_nil, Rf.exs_cons, Rf.seqF_nx, Rf.seqF_rt, Rf.seqF_bk, Rf.seqF_ct, Rf.gt, Rf.st, Rf.clr, Rf.puts, Rf.bindT, Rf.retM, Rf.clrF, Rf.turnS_eq, Rf.compT_eq, Rf.M.share, Rf.M.shares, Rf.bltM, Rf.binD, Rf.augD, Rf.addD, Rf.mulD, Rf.cmpD, Rf.eqM_int, Rf.eqM_bl, Rf.eqM_str, Rf.eqM_non, Rf.truD, Rf.isiD, Rf.itD, Rf.lstD, Rf.nbM, Rf.isNon, Rf.isN, Rf.entry, Rf.big, Rf.bigI, true_or, or_true, false_or, or_false, and_true, true_and, and_self, and_false, false_and, Nat.zero_le, eq_self, decide_true, decide_false, Rf.enD_map, Rf.shares_mapF, Rf.ix_t0, Rf.ix_t1, Rf.ix_t2, Rf.ix_t3, Rf.ix_t4, Rf.ix_l0, Rf.ix_l1, Rf.ix_l2, Rf.ix_l3, Rf.ix_l4, List.getElem?_cons_zero, List.getElem?_cons_succ, Option.bind_some, Option.bind_none, Option.map_some, Option.map_none, List.map_cons, List.map_nil, List.cons_append, List.nil_append, List.append_nil, List.replicate, List.length_cons, List.length_nil, if_true, if_false, reduceCtorEq, Bool.false_eq_true, Bool.not_true, Bool.not_false, Bool.or_true, Bool.true_or, Bool.or_false, Bool.false_or, Bool.and_true, Bool.true_and, Bool.and_false, Bool.false_and, F, List.foldl_map]
  intro o ho b
  simp only [b_finish_1, Rf.ev_var, Rf.ev_gl, Rf.ev_non, Rf.ev_bl, Rf.ev_int, Rf.ev_str, Rf.ev_bin, Rf.ev_neg, Rf.ev_not, Rf.ev_and, Rf.ev_or, Rf.ev_cmp, Rf.ev_chain, Rf.ev_ite, Rf.ev_blt, Rf.ev_isi, Rf.ev_call, Rf.ev_ix, Rf.ev_sl, Rf.ev_rev, Rf.ev_lst, Rf.ev_tup, Rf.ev_lrng, Rf.ev_fl, Rf.evs_nil, Rf.evs_cons, Rf.evT_yes, Rf.evT_e, Rf.evT_not, Rf.evT_and, Rf.evT_or, Rf.evI_it, Rf.evI_r1, Rf.evI_r2, Rf.evI_en, Rf.evI_zp, Rf.evI_rv, Rf.ex_set, Rf.ex_setO, Rf.ex_unp, Rf.ex_par, Rf.ex_aug, Rf.ex_app, Rf.ex_ifs, Rf.ex_ret, Rf.ex_retV, Rf.ex_retN, Rf.ex_brk, Rf.ex_cnt, Rf.ex_pass, Rf.ex_drop, Rf.ex_shr, Rf.ev_comp, Rf.ex_fr, Rf.exs_nil, Rf.exs_cons, Rf.seqF_nx, Rf.seqF_rt, Rf.seqF_bk, Rf.seqF_ct, Rf.gt, Rf.st, Rf.clr, Rf.puts, Rf.bindT, Rf.retM, Rf.clrF, Rf.turnS_eq, Rf.compT_eq, Rf.M.share, Rf.M.shares, Rf.bltM, Rf.binD, Rf.augD, Rf.addD, Rf.mulD, Rf.cmpD, Rf.eqM_int, Rf.eqM_bl, Rf.eqM_str, Rf.eqM_non, Rf.truD, Rf.isiD, Rf.itD, Rf.lstD, Rf.nbM, Rf.isNon, Rf.isN, Rf.entry, Rf.big, Rf.bigI, true_or, or_true, false_or, or_false, and_true, true_and, and_self, and_false, false_and, Nat.zero_le, eq_self, decide_true, decide_false, Rf.enD_map, Rf.shares_mapF, Rf.ix_t0, Rf.ix_t1, Rf.ix_t2, Rf.ix_t3, Rf.ix_t4, Rf.ix_l0, Rf.ix_l1, Rf.ix_l2, Rf.ix_l3, Rf.ix_l4, List.getElem?_cons_zero, List.getElem?_cons_succ, Option.bind_some, Option.bind_none, Option.map_some, Option.map_none, List.map_cons, List.map_nil, List.cons_append, List.nil_append, List.append_nil, List.replicate, List.length_cons, List.length_nil, if_true, if_false, reduceCtorEq, Bool.false_eq_true, Bool.not_true, Bool.not_false, Bool.or_true, Bool.true_or, Bool.or_false, Bool.false_or, Bool.and_true, Bool.true_and, Bool.and_false, Bool.false_and, natD, ix_job (h o ho), jobD, fstep]
/-! ### the best order -/
abbrev JZ := Job × Nat
def qz (z : JZ) : Bool := decide (z.1.1 ≤ z.1.2)
def eQ (z : JZ) : List Int := [z.1.1, z.2]
def eS (z : JZ) : List Int := [-z.1.2, z.2]
def eK (z : JZ) : List Int := if qz z then [0, z.1.1, z.2] else [1, 0 - z.1.2, z.2]
def byE (e : JZ → List Int) (a b : JZ) : Bool := !decide (e b < e a)
def bestZ (js : List Job) : List JZ := (js.zipIdx.filter qz).mergeSort (byE eQ) ++ (js.zipIdx.filter fun z => !qz z).mergeSort (byE eS)
def best (js : List Job) : List Nat := (bestZ js).map (·.2)
theorem tup_eQ (z : JZ) : D.tup [.int z.1.1, .int (z.2 : Int)] = .tup ((eQ z).map .int) := rfl
theorem tup_eS (z : JZ) : D.tup [.int (-z.1.2), .int (z.2 : Int)] = .tup ((eS z).map .int) := rfl
theorem run_best {n : Nat} (hn : 1 ≤ n) (js : List Job) (hl : js.length ≤ 1000) : run tab gs n 4 [.lst (js.map jobD)] = some (.od ((best js).map natD)) := by
  obtain ⟨k, rfl⟩ : ∃ k, n = k + 1 := ⟨n - 1, by omega⟩
  rw [run_at d_best_order rfl rfl]
  simp only [d_best_order, Rf.ev_var, Rf.ev_gl, Rf.ev_non, Rf.ev_bl, Rf.ev_int, Rf.ev_str, Rf.ev_bin, Rf.ev_neg, Rf.ev_not, Rf.ev_and, Rf.ev_or, Rf.ev_cmp, Rf.ev_chain, Rf.ev_ite, Rf.ev_blt, Rf.ev_isi, Rf.ev_call, Rf.ev_ix, Rf.ev_sl, Rf.ev_rev, Rf.ev_lst, Rf.ev_tup, Rf.ev_lrng, Rf.ev_fl, Rf.evs_nil, Rf.evs_cons, Rf.evT_yes, Rf.evT_e, Rf.evT_not, Rf.evT_and, Rf.evT_or, Rf.evI_it, Rf.evI_r1, Rf.evI_r2, Rf.evI_en, Rf.evI_zp, Rf.evI_rv, Rf.ex_set, Rf.ex_setO, Rf.ex_unp, Rf.ex_par, Rf.ex_aug, Rf.ex_app, Rf.ex_ifs, Rf.ex_ret, Rf.ex_retV, Rf.ex_retN, Rf.ex_brk, Rf.ex_cnt, Rf.ex_pass, Rf.ex_drop, Rf.ex_shr, Rf.ev_comp, Rf.ex_fr, Rf.exs_nil, Rf.exs_cons, Rf.seqF_nx, Rf.seqF_rt, Rf.seqF_bk, Rf.seqF_ct, Rf.gt, Rf.st, Rf.clr, Rf.puts, Rf.bindT, Rf.retM, Rf.clrF, Rf.turnS_eq, Rf.compT_eq, Rf.M.share, Rf.M.shares, Rf.bltM, Rf.binD, Rf.augD, Rf.addD, Rf.mulD, Rf.cmpD, Rf.eqM_int, Rf.eqM_bl, Rf.eqM_str, Rf.eqM_non, Rf.truD, Rf.isiD, Rf.itD, Rf.lstD, Rf.nbM, Rf.isNon, Rf.isN, Rf.entry, Rf.big, Rf.bigI, true_or, or_true, false_or, or_false, and_true, true_and, and_self, and_false, false_and, Nat.zero_le, eq_self, decide_true, decide_false, Rf.enD_map, Rf.shares_mapF, Rf.ix_t0, Rf.ix_t1, Rf.ix_t2, Rf.ix_t3, Rf.ix_t4, Rf.ix_l0, Rf.ix_l1, Rf.ix_l2, Rf.ix_l3, Rf.ix_l4, List.getElem?_cons_zero, List.getElem?_cons_succ, Option.bind_some, Option.bind_none, Option.map_some, Option.map_none, List.map_cons, List.map_nil, List.cons_append, List.nil_append, List.append_nil, List.replicate, List.length_cons, List.length_nil, if_true, if_false, reduceCtorEq, Bool.false_eq_true, Bool.not_true, Bool.not_false, Bool.or_true, Bool.true_or, Bool.or_false, Bool.false_or, Bool.and_true, Bool.true_and, Bool.and_false, Bool.false_and]
  rw [turnsS_filter (fun z : JZ => .tup [.int (z.2 : Int), jobD z.1]) qz (fun z => .ot [.sh (.int z.1.1), .sh (.int (z.2 : Int))])]
  rw [Option.map_some]
  simp only [Rf.ev_var, Rf.ev_gl, Rf.ev_non, Rf.ev_bl, Rf.ev_int, Rf.ev_str, Rf.ev_bin, Rf.ev_neg, Rf.ev_not, Rf.ev_and, Rf.ev_or, Rf.ev_cmp, Rf.ev_chain, Rf.ev_ite, Rf.ev_blt, Rf.ev_isi, Rf.ev_call, Rf.ev_ix, Rf.ev_sl, Rf.ev_rev, Rf.ev_lst, Rf.ev_tup, Rf.ev_lrng, Rf.ev_fl, Rf.evs_nil, Rf.evs_cons, Rf.evT_yes, Rf.evT_e, Rf.evT_not, Rf.evT_and, Rf.evT_or, Rf.evI_it, Rf.evI_r1, Rf.evI_r2, Rf.evI_en, Rf.evI_zp, Rf.evI_rv, Rf.ex_set, Rf.ex_setO, Rf.ex_unp, Rf.ex_par, Rf.ex_aug, Rf.ex_app, Rf.ex_ifs, Rf.ex_ret, Rf.ex_retV, Rf.ex_retN, Rf.ex_brk, Rf.ex_cnt, Rf.ex_pass, Rf.ex_drop, Rf.ex_shr, Rf.ev_comp, Rf.ex_fr, Rf.exs_nil, Rf.exs_cons, Rf.seqF_nx, Rf.seqF_rt, Rf.seqF_bk, Rf.seqF_ct, Rf.gt, Rf.st, Rf.clr, Rf.puts, Rf.bindT, Rf.retM, Rf.clrF, Rf.turnS_eq, Rf.compT_eq, Rf.M.share, Rf.M.shares, Rf.bltM, Rf.binD, Rf.augD, Rf.addD, Rf.mulD, Rf.cmpD, Rf.eqM_int, Rf.eqM_bl, Rf.eqM_str, Rf.eqM_non, Rf.truD, Rf.isiD, Rf.itD, Rf.lstD, Rf.nbM, Rf.isNon, Rf.isN, Rf.entry, Rf.big, Rf.bigI, true_or, or_true, false_or, or_false, and_true, true_and, and_self, and_false, false_and, Nat.zero_le, eq_self, decide_true, decide_false, Rf.enD_map, Rf.shares_mapF, Rf.ix_t0, Rf.ix_t1, Rf.ix_t2, Rf.ix_t3, Rf.ix_t4, Rf.ix_l0, Rf.ix_l1, Rf.ix_l2, Rf.ix_l3, Rf.ix_l4, List.getElem?_cons_zero, List.getElem?_cons_succ, Option.bind_some, Option.bind_none, Option.map_some, Option.map_none, List.map_cons, List.map_nil, List.cons_append, List.nil_append, List.append_nil, List.replicate, List.length_cons, List.length_nil, if_true, if_false, reduceCtorEq, Bool.false_eq_true, Bool.not_true, Bool.not_false, Bool.or_true, Bool.true_or, Bool.or_false, Bool.false_or, Bool.and_true, Bool.true_and, Bool.and_false, Bool.false_and, tup_eQ]
  rw [turnsS_filter (fun z : JZ => .tup [.int (z.2 : Int), jobD z.1]) (fun z => !qz z) (fun z => .ot [.sh (.int (-z.1.2)), .sh (.int (z.2 : Int))])]
  simp only [Rf.ev_var, Rf.ev_gl, Rf.ev_non, Rf.ev_bl, Rf.ev_int, Rf.ev_str, Rf.ev_bin, Rf.ev_neg, Rf.ev_not, Rf.ev_and, Rf.ev_or, Rf.ev_cmp, Rf.ev_chain, Rf.ev_ite, Rf.ev_blt, Rf.ev_isi, Rf.ev_call, Rf.ev_ix, Rf.ev_sl, Rf.ev_rev, Rf.ev_lst, Rf.ev_tup, Rf.ev_lrng, Rf.ev_fl, Rf.evs_nil, Rf.evs_cons, Rf.evT_yes, Rf.evT_e, Rf.evT_not, Rf.evT_and, Rf.evT_or, Rf.evI_it, Rf.evI_r1, Rf.evI_r2, Rf.evI_en, Rf.evI_zp, Rf.evI_rv, Rf.ex_set, Rf.ex_setO, Rf.ex_unp, Rf.ex_par, Rf.ex_aug, Rf.ex_app, Rf.ex_ifs, Rf.ex_ret, Rf.ex_retV, Rf.ex_retN, Rf.ex_brk, Rf.ex_cnt, Rf.ex_pass, Rf.ex_drop, Rf.ex_shr, Rf.ev_comp, Rf.ex_fr, Rf.exs_nil, Rf.exs_cons, Rf.seqF_nx, Rf.seqF_rt, Rf.seqF_bk, Rf.seqF_ct, Rf.gt, Rf.st, Rf.clr, Rf.puts, Rf.bindT, Rf.retM, Rf.clrF, Rf.turnS_eq, Rf.compT_eq, Rf.M.share, Rf.M.shares, Rf.bltM, Rf.binD, Rf.augD, Rf.addD, Rf.mulD, Rf.cmpD, Rf.eqM_int, Rf.eqM_bl, Rf.eqM_str, Rf.eqM_non, Rf.truD, Rf.isiD, Rf.itD, Rf.lstD, Rf.nbM, Rf.isNon, Rf.isN, Rf.entry, Rf.big, Rf.bigI, true_or, or_true, false_or, or_false, and_true, true_and, and_self, and_false, false_and, Nat.zero_le, eq_self, decide_true, decide_false, Rf.enD_map, Rf.shares_mapF, Rf.ix_t0, Rf.ix_t1, Rf.ix_t2, Rf.ix_t3, Rf.ix_t4, Rf.ix_l0, Rf.ix_l1, Rf.ix_l2, Rf.ix_l3, Rf.ix_l4, List.getElem?_cons_zero, List.getElem?_cons_succ, Option.bind_some, Option.bind_none, Option.map_some, Option.map_none, List.map_cons, List.map_nil, List.cons_append, List.nil_append, List.append_nil, List.replicate, List.length_cons, List.length_nil, if_true, if_false, reduceCtorEq, Bool.false_eq_true, Bool.not_true, Bool.not_false, Bool.or_true, Bool.true_or, Bool.or_false, Bool.false_or, Bool.and_true, Bool.true_and, Bool.and_false, Bool.false_and, tup_eS]
  rw [srtM_ints eQ _ (fun x _ => by simp [eQ]), srtM_ints eS _ (fun x _ => by simp [eS])]
  simp only [Rf.ev_var, Rf.ev_gl, Rf.ev_non, Rf.ev_bl, Rf.ev_int, Rf.ev_str, Rf.ev_bin, Rf.ev_neg, Rf.ev_not, Rf.ev_and, Rf.ev_or, Rf.ev_cmp, Rf.ev_chain, Rf.ev_ite, Rf.ev_blt, Rf.ev_isi, Rf.ev_call, Rf.ev_ix, Rf.ev_sl, Rf.ev_rev, Rf.ev_lst, Rf.ev_tup, Rf.ev_lrng, Rf.ev_fl, Rf.evs_nil, Rf.evs_cons, Rf.evT_yes, Rf.evT_e, Rf.evT_not, Rf.evT_and, Rf.evT_or, Rf.evI_it, Rf.evI_r1, Rf.evI_r2, Rf.evI_en, Rf.evI_zp, Rf.evI_rv, Rf.ex_set, Rf.ex_setO, Rf.ex_unp, Rf.ex_par, Rf.ex_aug, Rf.ex_app, Rf.ex_ifs, Rf.ex_ret, Rf.ex_retV, Rf.ex_retN, Rf.ex_brk, Rf.ex_cnt, Rf.ex_pass, Rf.ex_drop, Rf.ex_shr, Rf.ev_comp, Rf.ex_fr, Rf.exs_nil, Rf.exs_cons, Rf.seqF_nx, Rf.seqF_rt, Rf.seqF_bk, Rf.seqF_ct, Rf.gt, Rf.st, Rf.clr, Rf.puts, Rf.bindT, Rf.retM, Rf.clrF, Rf.turnS_eq, Rf.compT_eq, Rf.M.share, Rf.M.shares, Rf.bltM, Rf.binD, Rf.augD, Rf.addD, Rf.mulD, Rf.cmpD, Rf.eqM_int, Rf.eqM_bl, Rf.eqM_str, Rf.eqM_non, Rf.truD, Rf.isiD, Rf.itD, Rf.lstD, Rf.nbM, Rf.isNon, Rf.isN, Rf.entry, Rf.big, Rf.bigI, true_or, or_true, false_or, or_false, and_true, true_and, and_self, and_false, false_and, Nat.zero_le, eq_self, decide_true, decide_false, Rf.enD_map, Rf.shares_mapF, Rf.ix_t0, Rf.ix_t1, Rf.ix_t2, Rf.ix_t3, Rf.ix_t4, Rf.ix_l0, Rf.ix_l1, Rf.ix_l2, Rf.ix_l3, Rf.ix_l4, List.getElem?_cons_zero, List.getElem?_cons_succ, Option.bind_some, Option.bind_none, Option.map_some, Option.map_none, List.map_cons, List.map_nil, List.cons_append, List.nil_append, List.append_nil, List.replicate, List.length_cons, List.length_nil, if_true, if_false, reduceCtorEq, Bool.false_eq_true, Bool.not_true, Bool.not_false, Bool.or_true, Bool.true_or, Bool.or_false, Bool.false_or, Bool.and_true, Bool.true_and, Bool.and_false, Bool.false_and]
  rw [turnsS_map (fun z : JZ => .tup ((eQ z).map .int)) (fun z => .sh (natD z.2)), turnsS_map (fun z : JZ => .tup ((eS z).map .int)) (fun z => .sh (natD z.2))]
  simp only [Rf.ev_var, Rf.ev_gl, Rf.ev_non, Rf.ev_bl, Rf.ev_int, Rf.ev_str, Rf.ev_bin, Rf.ev_neg, Rf.ev_not, Rf.ev_and, Rf.ev_or, Rf.ev_cmp, Rf.ev_chain, Rf.ev_ite, Rf.ev_blt, Rf.ev_isi, Rf.ev_call, Rf.ev_ix, Rf.ev_sl, Rf.ev_rev, Rf.ev_lst, Rf.ev_tup, Rf.ev_lrng, Rf.ev_fl, Rf.evs_nil, Rf.evs_cons, Rf.evT_yes, Rf.evT_e, Rf.evT_not, Rf.evT_and, Rf.evT_or, Rf.evI_it, Rf.evI_r1, Rf.evI_r2, Rf.evI_en, Rf.evI_zp, Rf.evI_rv, Rf.ex_set, Rf.ex_setO, Rf.ex_unp, Rf.ex_par, Rf.ex_aug, Rf.ex_app, Rf.ex_ifs, Rf.ex_ret, Rf.ex_retV, Rf.ex_retN, Rf.ex_brk, Rf.ex_cnt, Rf.ex_pass, Rf.ex_drop, Rf.ex_shr, Rf.ev_comp, Rf.ex_fr, Rf.exs_nil, Rf.exs_cons, Rf.seqF_nx, Rf.seqF_rt, Rf.seqF_bk, Rf.seqF_ct, Rf.gt, Rf.st, Rf.clr, Rf.puts, Rf.bindT, Rf.retM, Rf.clrF, Rf.turnS_eq, Rf.compT_eq, Rf.M.share, Rf.M.shares, Rf.bltM, Rf.binD, Rf.augD, Rf.addD, Rf.mulD, Rf.cmpD, Rf.eqM_int, Rf.eqM_bl, Rf.eqM_str, Rf.eqM_non, Rf.truD, Rf.isiD, Rf.itD, Rf.lstD, Rf.nbM, Rf.isNon, Rf.isN, Rf.entry, Rf.big, Rf.bigI, true_or, or_true, false_or, or_false, and_true, true_and, and_self, and_false, false_and, Nat.zero_le, eq_self, decide_true, decide_false, Rf.enD_map, Rf.shares_mapF, Rf.ix_t0, Rf.ix_t1, Rf.ix_t2, Rf.ix_t3, Rf.ix_t4, Rf.ix_l0, Rf.ix_l1, Rf.ix_l2, Rf.ix_l3, Rf.ix_l4, List.getElem?_cons_zero, List.getElem?_cons_succ, Option.bind_some, Option.bind_none, Option.map_some, Option.map_none, List.map_cons, List.map_nil, List.cons_append, List.nil_append, List.append_nil, List.replicate, List.length_cons, List.length_nil, if_true, if_false, reduceCtorEq, Bool.false_eq_true, Bool.not_true, Bool.not_false, Bool.or_true, Bool.true_or, Bool.or_false, Bool.false_or, Bool.and_true, Bool.true_and, Bool.and_false, Bool.false_and, List.length_map]
  rw [if_pos]
  · unfold best bestZ
    simp only [Rf.ev_var, Rf.ev_gl, Rf.ev_non, Rf.ev_bl, Rf.ev_int, Rf.ev_str, Rf.ev_bin, Rf.ev_neg, Rf.ev_not, Rf.ev_and, Rf.ev_or, Rf.ev_cmp, Rf.ev_chain, Rf.ev_ite, Rf.ev_blt, Rf.ev_isi, Rf.ev_call, Rf.ev_ix, Rf.ev_sl, Rf.ev_rev, Rf.ev_lst, Rf.ev_tup, Rf.ev_lrng, Rf.ev_fl, Rf.evs_nil, Rf.evs_cons, Rf.evT_yes, Rf.evT_e, Rf.evT_not, Rf.evT_and, Rf.evT_or, Rf.evI_it, Rf.evI_r1, Rf.evI_r2, Rf.evI_en, Rf.evI_zp, Rf.evI_rv, Rf.ex_set, Rf.ex_setO, Rf.ex_unp, Rf.ex_par, Rf.ex_aug, Rf.ex_app, Rf.ex_ifs, Rf.ex_ret, Rf.ex_retV, Rf.ex_retN, Rf.ex_brk, Rf.ex_cnt, Rf.ex_pass, Rf.ex_drop, Rf.ex_shr, Rf.ev_comp, Rf.ex_fr, Rf.exs_nil, Rf.exs_cons, Rf.seqF_nx, Rf.seqF_rt, Rf.seqF_bk, Rf.seqF_ct, Rf.gt, Rf.st, Rf.clr, Rf.puts, Rf.bindT, Rf.retM, Rf.clrF, Rf.turnS_eq, Rf.compT_eq, Rf.M.share, Rf.M.shares, Rf.bltM, Rf.binD, Rf.augD, Rf.addD, Rf.mulD, Rf.cmpD, Rf.eqM_int, Rf.eqM_bl, Rf.eqM_str, Rf.eqM_non, Rf.truD, Rf.isiD, Rf.itD, Rf.lstD, Rf.nbM, Rf.isNon, Rf.isN, Rf.entry, Rf.big, Rf.bigI, true_or, or_true, false_or, or_false, and_true, true_and, and_self, and_false, false_and, Nat.zero_le, eq_self, decide_true, decide_false, Rf.enD_map, Rf.shares_mapF, Rf.ix_t0, Rf.ix_t1, Rf.ix_t2, Rf.ix_t3, Rf.ix_t4, Rf.ix_l0, Rf.ix_l1, Rf.ix_l2, Rf.ix_l3, Rf.ix_l4, List.getElem?_cons_zero, List.getElem?_cons_succ, Option.bind_some, Option.bind_none, Option.map_some, Option.map_none, List.map_cons, List.map_nil, List.cons_append, List.nil_append, List.append_nil, List.replicate, List.length_cons, List.length_nil, if_true, if_false, reduceCtorEq, Bool.false_eq_true, Bool.not_true, Bool.not_false, Bool.or_true, Bool.true_or, Bool.or_false, Bool.false_or, Bool.and_true, Bool.true_and, Bool.and_false, Bool.false_and, List.map_append, List.map_map]
    rfl
  · rw [List.length_mergeSort, List.length_mergeSort]
    have h1 := List.length_filter_le qz js.zipIdx
    have h2 := List.length_filter_le (fun z => !qz z) js.zipIdx
    rw [List.length_zipIdx] at h1 h2
    show _ ≤ 1000000
    omega
  · intro z hz
    simp only [Rf.ev_var, Rf.ev_gl, Rf.ev_non, Rf.ev_bl, Rf.ev_int, Rf.ev_str, Rf.ev_bin, Rf.ev_neg, Rf.ev_not, Rf.ev_and, Rf.ev_or, Rf.ev_cmp, Rf.ev_chain, Rf.ev_ite, Rf.ev_blt, Rf.ev_isi, Rf.ev_call, Rf.ev_ix, Rf.ev_sl, Rf.ev_rev, Rf.ev_lst, Rf.ev_tup, Rf.ev_lrng, Rf.ev_fl, Rf.evs_nil, Rf.evs_cons, Rf.evT_yes, Rf.evT_e, Rf.evT_not, Rf.evT_and, Rf.evT_or, Rf.evI_it, Rf.evI_r1, Rf.evI_r2, Rf.evI_en, Rf.evI_zp, Rf.evI_rv, Rf.ex_set, Rf.ex_setO, Rf.ex_unp, Rf.ex_par, Rf.ex_aug, Rf.ex_app, Rf.ex_ifs, Rf.ex_ret, Rf.ex_retV, Rf.ex_retN, Rf.ex_brk, Rf.ex_cnt, Rf.ex_pass, Rf.ex_drop, Rf.ex_shr, Rf.ev_comp, Rf.ex_fr, Rf.exs_nil, Rf.exs_cons, Rf.seqF_nx, Rf.seqF_rt, Rf.seqF_bk, Rf.seqF_ct, Rf.gt, Rf.st, Rf.clr, Rf.puts, Rf.bindT, Rf.retM, Rf.clrF, Rf.turnS_eq, Rf.compT_eq, Rf.M.share, Rf.M.shares, Rf.bltM, Rf.binD, Rf.augD, Rf.addD, Rf.mulD, Rf.cmpD, Rf.eqM_int, Rf.eqM_bl, Rf.eqM_str, Rf.eqM_non, Rf.truD, Rf.isiD, Rf.itD, Rf.lstD, Rf.nbM, Rf.isNon, Rf.isN, Rf.entry, Rf.big, Rf.bigI, true_or, or_true, false_or, or_false, and_true, true_and, and_self, and_false, false_and, Nat.zero_le, eq_self, decide_true, decide_false, Rf.enD_map, Rf.shares_mapF, Rf.ix_t0, Rf.ix_t1, Rf.ix_t2, Rf.ix_t3, Rf.ix_t4, Rf.ix_l0, Rf.ix_l1, Rf.ix_l2, Rf.ix_l3, Rf.ix_l4, List.getElem?_cons_zero, List.getElem?_cons_succ, Option.bind_some, Option.bind_none, Option.map_some, Option.map_none, List.map_cons, List.map_nil, List.cons_append, List.nil_append, List.append_nil, List.replicate, List.length_cons, List.length_nil, if_true, if_false, reduceCtorEq, Bool.false_eq_true, Bool.not_true, Bool.not_false, Bool.or_true, Bool.true_or, Bool.or_false, Bool.false_or, Bool.and_true, Bool.true_and, Bool.and_false, Bool.false_and, eS, natD]
  · intro z hz
    simp only [Rf.ev_var, Rf.ev_gl, Rf.ev_non, Rf.ev_bl, Rf.ev_int, Rf.ev_str, Rf.ev_bin, Rf.ev_neg, Rf.ev_not, Rf.ev_and, Rf.ev_or, Rf.ev_cmp, Rf.ev_chain, Rf.ev_ite, Rf.ev_blt, Rf.ev_isi, Rf.ev_call, Rf.ev_ix, Rf.ev_sl, Rf.ev_rev, Rf.ev_lst, Rf.ev_tup, Rf.ev_lrng, Rf.ev_fl, Rf.evs_nil, Rf.evs_cons, Rf.evT_yes, Rf.evT_e, Rf.evT_not, Rf.evT_and, Rf.evT_or, Rf.evI_it, Rf.evI_r1, Rf.evI_r2, Rf.evI_en, Rf.evI_zp, Rf.evI_rv, Rf.ex_set, Rf.ex_setO, Rf.ex_unp, Rf.ex_par, Rf.ex_aug, Rf.ex_app, Rf.ex_ifs, Rf.ex_ret, Rf.ex_retV, Rf.ex_retN, Rf.ex_brk, Rf.ex_cnt, Rf.ex_pass, Rf.ex_drop, Rf.ex_shr, Rf.ev_comp, Rf.ex_fr, Rf.exs_nil, Rf.exs_cons, Rf.seqF_nx, Rf.seqF_rt, Rf.seqF_bk, Rf.seqF_ct, Rf.gt, Rf.st, Rf.clr, Rf.puts, Rf.bindT, Rf.retM, Rf.clrF, Rf.turnS_eq, Rf.compT_eq, Rf.M.share, Rf.M.shares, Rf.bltM, Rf.binD, Rf.augD, Rf.addD, Rf.mulD, Rf.cmpD, Rf.eqM_int, Rf.eqM_bl, Rf.eqM_str, Rf.eqM_non, Rf.truD, Rf.isiD, Rf.itD, Rf.lstD, Rf.nbM, Rf.isNon, Rf.isN, Rf.entry, Rf.big, Rf.bigI, true_or, or_true, false_or, or_false, and_true, true_and, and_self, and_false, false_and, Nat.zero_le, eq_self, decide_true, decide_false, Rf.enD_map, Rf.shares_mapF, Rf.ix_t0, Rf.ix_t1, Rf.ix_t2, Rf.ix_t3, Rf.ix_t4, Rf.ix_l0, Rf.ix_l1, Rf.ix_l2, Rf.ix_l3, Rf.ix_l4, List.getElem?_cons_zero, List.getElem?_cons_succ, Option.bind_some, Option.bind_none, Option.map_some, Option.map_none, List.map_cons, List.map_nil, List.cons_append, List.nil_append, List.append_nil, List.replicate, List.length_cons, List.length_nil, if_true, if_false, reduceCtorEq, Bool.false_eq_true, Bool.not_true, Bool.not_false, Bool.or_true, Bool.true_or, Bool.or_false, Bool.false_or, Bool.and_true, Bool.true_and, Bool.and_false, Bool.false_and, eQ, natD]
  · intro z hz
    simp only [Rf.ev_var, Rf.ev_gl, Rf.ev_non, Rf.ev_bl, Rf.ev_int, Rf.ev_str, Rf.ev_bin, Rf.ev_neg, Rf.ev_not, Rf.ev_and, Rf.ev_or, Rf.ev_cmp, Rf.ev_chain, Rf.ev_ite, Rf.ev_blt, Rf.ev_isi, Rf.ev_call, Rf.ev_ix, Rf.ev_sl, Rf.ev_rev, Rf.ev_lst, Rf.ev_tup, Rf.ev_lrng, Rf.ev_fl, Rf.evs_nil, Rf.evs_cons, Rf.evT_yes, Rf.evT_e, Rf.evT_not, Rf.evT_and, Rf.evT_or, Rf.evI_it, Rf.evI_r1, Rf.evI_r2, Rf.evI_en, Rf.evI_zp, Rf.evI_rv, Rf.ex_set, Rf.ex_setO, Rf.ex_unp, Rf.ex_par, Rf.ex_aug, Rf.ex_app, Rf.ex_ifs, Rf.ex_ret, Rf.ex_retV, Rf.ex_retN, Rf.ex_brk, Rf.ex_cnt, Rf.ex_pass, Rf.ex_drop, Rf.ex_shr, Rf.ev_comp, Rf.ex_fr, Rf.exs_nil, Rf.exs_cons, Rf.seqF_nx, Rf.seqF_rt, Rf.seqF_bk, Rf.seqF_ct, Rf.gt, Rf.st, Rf.clr, Rf.puts, Rf.bindT, Rf.retM, Rf.clrF, Rf.turnS_eq, Rf.compT_eq, Rf.M.share, Rf.M.shares, Rf.bltM, Rf.binD, Rf.augD, Rf.addD, Rf.mulD, Rf.cmpD, Rf.eqM_int, Rf.eqM_bl, Rf.eqM_str, Rf.eqM_non, Rf.truD, Rf.isiD, Rf.itD, Rf.lstD, Rf.nbM, Rf.isNon, Rf.isN, Rf.entry, Rf.big, Rf.bigI, true_or, or_true, false_or, or_false, and_true, true_and, and_self, and_false, false_and, Nat.zero_le, eq_self, decide_true, decide_false, Rf.enD_map, Rf.shares_mapF, Rf.ix_t0, Rf.ix_t1, Rf.ix_t2, Rf.ix_t3, Rf.ix_t4, Rf.ix_l0, Rf.ix_l1, Rf.ix_l2, Rf.ix_l3, Rf.ix_l4, List.getElem?_cons_zero, List.getElem?_cons_succ, Option.bind_some, Option.bind_none, Option.map_some, Option.map_none, List.map_cons, List.map_nil, List.cons_append, List.nil_append, List.append_nil, List.replicate, List.length_cons, List.length_nil, if_true, if_false, reduceCtorEq, Bool.false_eq_true, Bool.not_true, Bool.not_false, Bool.or_true, Bool.true_or, Bool.or_false, Bool.false_or, Bool.and_true, Bool.true_and, Bool.and_false, Bool.false_and, jobD]
    by_cases h : z.1.1 ≤ z.1.2
    · have h' : ¬ z.1.2 < z.1.1 := by omega
      simp [qz, h, h']
    · have h' : z.1.2 < z.1.1 := by omega
      simp [qz, h, h', M.share]
  · intro z hz
    simp only [Rf.ev_var, Rf.ev_gl, Rf.ev_non, Rf.ev_bl, Rf.ev_int, Rf.ev_str, Rf.ev_bin, Rf.ev_neg, Rf.ev_not, Rf.ev_and, Rf.ev_or, Rf.ev_cmp, Rf.ev_chain, Rf.ev_ite, Rf.ev_blt, Rf.ev_isi, Rf.ev_call, Rf.ev_ix, Rf.ev_sl, Rf.ev_rev, Rf.ev_lst, Rf.ev_tup, Rf.ev_lrng, Rf.ev_fl, Rf.evs_nil, Rf.evs_cons, Rf.evT_yes, Rf.evT_e, Rf.evT_not, Rf.evT_and, Rf.evT_or, Rf.evI_it, Rf.evI_r1, Rf.evI_r2, Rf.evI_en, Rf.evI_zp, Rf.evI_rv, Rf.ex_set, Rf.ex_setO, Rf.ex_unp, Rf.ex_par, Rf.ex_aug, Rf.ex_app, Rf.ex_ifs, Rf.ex_ret, Rf.ex_retV, Rf.ex_retN, Rf.ex_brk, Rf.ex_cnt, Rf.ex_pass, Rf.ex_drop, Rf.ex_shr, Rf.ev_comp, Rf.ex_fr, Rf.exs_nil, Rf.exs_cons, Rf.seqF_nx, Rf.seqF_rt, Rf.seqF_bk, Rf.seqF_ct, Rf.gt, Rf.st, Rf.clr, Rf.puts, Rf.bindT, Rf.retM, Rf.clrF, Rf.turnS_eq, Rf.compT_eq, Rf.M.share, Rf.M.shares, Rf.bltM, Rf.binD, Rf.augD, Rf.addD, Rf.mulD, Rf.cmpD, Rf.eqM_int, Rf.eqM_bl, Rf.eqM_str, Rf.eqM_non, Rf.truD, Rf.isiD, Rf.itD, Rf.lstD, Rf.nbM, Rf.isNon, Rf.isN, Rf.entry, Rf.big, Rf.bigI, true_or, or_true, false_or, or_false, and_true, true_and, and_self, and_false, false_and, Nat.zero_le, eq_self, decide_true, decide_false, Rf.enD_map, Rf.shares_mapF, Rf.ix_t0, Rf.ix_t1, Rf.ix_t2, Rf.ix_t3, Rf.ix_t4, Rf.ix_l0, Rf.ix_l1, Rf.ix_l2, Rf.ix_l3, Rf.ix_l4, List.getElem?_cons_zero, List.getElem?_cons_succ, Option.bind_some, Option.bind_none, Option.map_some, Option.map_none, List.map_cons, List.map_nil, List.cons_append, List.nil_append, List.append_nil, List.replicate, List.length_cons, List.length_nil, if_true, if_false, reduceCtorEq, Bool.false_eq_true, Bool.not_true, Bool.not_false, Bool.or_true, Bool.true_or, Bool.or_false, Bool.false_or, Bool.and_true, Bool.true_and, Bool.and_false, Bool.false_and, jobD]
    by_cases h : z.1.1 ≤ z.1.2 <;> simp [qz, h]
/-! ### the order as the law reckons it -/
theorem run_lbest {n : Nat} (hn : 1 ≤ n) (js : List Job) (hl : js.length ≤ 1000) : run tab gs n 7 [.lst (js.map jobD)] = some (.ol ((js.zipIdx.mergeSort (byE eK)).map fun z => .sh (natD z.2))) := by
  obtain ⟨k, rfl⟩ : ∃ k, n = k + 1 := ⟨n - 1, by omega⟩
  rw [run_at d_law_best rfl rfl]
  simp (disch := omega) only [d_law_best, Rf.ev_var, Rf.ev_gl, Rf.ev_non, Rf.ev_bl, Rf.ev_int, Rf.ev_str, Rf.ev_bin, Rf.ev_neg, Rf.ev_not, Rf.ev_and, Rf.ev_or, Rf.ev_cmp, Rf.ev_chain, Rf.ev_ite, Rf.ev_blt, Rf.ev_isi, Rf.ev_call, Rf.ev_ix, Rf.ev_sl, Rf.ev_rev, Rf.ev_lst, Rf.ev_tup, Rf.ev_lrng, Rf.ev_fl, Rf.evs_nil, Rf.evs_cons, Rf.evT_yes, Rf.evT_e, Rf.evT_not, Rf.evT_and, Rf.evT_or, Rf.evI_it, Rf.evI_r1, Rf.evI_r2, Rf.evI_en, Rf.evI_zp, Rf.evI_rv, Rf.ex_set, Rf.ex_setO, Rf.ex_unp, Rf.ex_par, Rf.ex_aug, Rf.ex_app, Rf.ex_ifs, Rf.ex_ret, Rf.ex_retV, Rf.ex_retN, Rf.ex_brk, Rf.ex_cnt, Rf.ex_pass, Rf.ex_drop, Rf.ex_shr, Rf.ev_comp, Rf.ex_fr, Rf.exs_nil, Rf.exs_cons, Rf.seqF_nx, Rf.seqF_rt, Rf.seqF_bk, Rf.seqF_ct, Rf.gt, Rf.st, Rf.clr, Rf.puts, Rf.bindT, Rf.retM, Rf.clrF, Rf.turnS_eq, Rf.compT_eq, Rf.M.share, Rf.M.shares, Rf.bltM, Rf.binD, Rf.augD, Rf.addD, Rf.mulD, Rf.cmpD, Rf.eqM_int, Rf.eqM_bl, Rf.eqM_str, Rf.eqM_non, Rf.truD, Rf.isiD, Rf.itD, Rf.lstD, Rf.nbM, Rf.isNon, Rf.isN, Rf.entry, Rf.big, Rf.bigI, true_or, or_true, false_or, or_false, and_true, true_and, and_self, and_false, false_and, Nat.zero_le, eq_self, decide_true, decide_false, Rf.enD_map, Rf.shares_mapF, Rf.ix_t0, Rf.ix_t1, Rf.ix_t2, Rf.ix_t3, Rf.ix_t4, Rf.ix_l0, Rf.ix_l1, Rf.ix_l2, Rf.ix_l3, Rf.ix_l4, List.getElem?_cons_zero, List.getElem?_cons_succ, Option.bind_some, Option.bind_none, Option.map_some, Option.map_none, List.map_cons, List.map_nil, List.cons_append, List.nil_append, List.append_nil, List.replicate, List.length_cons, List.length_nil, if_true, if_false, reduceCtorEq, Bool.false_eq_true, Bool.not_true, Bool.not_false, Bool.or_true, Bool.true_or, Bool.or_false, Bool.false_or, Bool.and_true, Bool.true_and, Bool.and_false, Bool.false_and, List.length_map, if_pos, Rf.rngD_nat]
  have hz : (List.range js.length).map (fun i : Nat => D.int (i : Int)) = js.zipIdx.map fun z => D.int (z.2 : Int) := by
    apply List.ext_getElem?
    intro i
    by_cases h : i < js.length <;> simp [h]
  rw [hz, loopS_doneE (fun z : JZ => D.int (z.2 : Int)) (fun d : List JZ => [some (.sh (.lst (js.map jobD))), some (.ol (d.map fun z => .ot ((eK z).map fun i => .sh (.int i)))), none, none])]
  · simp only [Rf.ev_var, Rf.ev_gl, Rf.ev_non, Rf.ev_bl, Rf.ev_int, Rf.ev_str, Rf.ev_bin, Rf.ev_neg, Rf.ev_not, Rf.ev_and, Rf.ev_or, Rf.ev_cmp, Rf.ev_chain, Rf.ev_ite, Rf.ev_blt, Rf.ev_isi, Rf.ev_call, Rf.ev_ix, Rf.ev_sl, Rf.ev_rev, Rf.ev_lst, Rf.ev_tup, Rf.ev_lrng, Rf.ev_fl, Rf.evs_nil, Rf.evs_cons, Rf.evT_yes, Rf.evT_e, Rf.evT_not, Rf.evT_and, Rf.evT_or, Rf.evI_it, Rf.evI_r1, Rf.evI_r2, Rf.evI_en, Rf.evI_zp, Rf.evI_rv, Rf.ex_set, Rf.ex_setO, Rf.ex_unp, Rf.ex_par, Rf.ex_aug, Rf.ex_app, Rf.ex_ifs, Rf.ex_ret, Rf.ex_retV, Rf.ex_retN, Rf.ex_brk, Rf.ex_cnt, Rf.ex_pass, Rf.ex_drop, Rf.ex_shr, Rf.ev_comp, Rf.ex_fr, Rf.exs_nil, Rf.exs_cons, Rf.seqF_nx, Rf.seqF_rt, Rf.seqF_bk, Rf.seqF_ct, Rf.gt, Rf.st, Rf.clr, Rf.puts, Rf.bindT, Rf.retM, Rf.clrF, Rf.turnS_eq, Rf.compT_eq, Rf.M.share, Rf.M.shares, Rf.bltM, Rf.binD, Rf.augD, Rf.addD, Rf.mulD, Rf.cmpD, Rf.eqM_int, Rf.eqM_bl, Rf.eqM_str, Rf.eqM_non, Rf.truD, Rf.isiD, Rf.itD, Rf.lstD, Rf.nbM, Rf.isNon, Rf.isN, Rf.entry, Rf.big, Rf.bigI, true_or, or_true, false_or, or_false, and_true, true_and, and_self, and_false, false_and, Nat.zero_le, eq_self, decide_true, decide_false, Rf.enD_map, Rf.shares_mapF, Rf.ix_t0, Rf.ix_t1, Rf.ix_t2, Rf.ix_t3, Rf.ix_t4, Rf.ix_l0, Rf.ix_l1, Rf.ix_l2, Rf.ix_l3, Rf.ix_l4, List.getElem?_cons_zero, List.getElem?_cons_succ, Option.bind_some, Option.bind_none, Option.map_some, Option.map_none, List.map_cons, List.map_nil, List.cons_append, List.nil_append, List.append_nil, List.replicate, List.length_cons, List.length_nil, if_true, if_false, reduceCtorEq, Bool.false_eq_true, Bool.not_true, Bool.not_false, Bool.or_true, Bool.true_or, Bool.or_false, Bool.false_or, Bool.and_true, Bool.true_and, Bool.and_false, Bool.false_and]
    rw [srtM_ints eK _ (fun x _ => by unfold eK; split <;> simp)]
    simp only [Rf.ev_var, Rf.ev_gl, Rf.ev_non, Rf.ev_bl, Rf.ev_int, Rf.ev_str, Rf.ev_bin, Rf.ev_neg, Rf.ev_not, Rf.ev_and, Rf.ev_or, Rf.ev_cmp, Rf.ev_chain, Rf.ev_ite, Rf.ev_blt, Rf.ev_isi, Rf.ev_call, Rf.ev_ix, Rf.ev_sl, Rf.ev_rev, Rf.ev_lst, Rf.ev_tup, Rf.ev_lrng, Rf.ev_fl, Rf.evs_nil, Rf.evs_cons, Rf.evT_yes, Rf.evT_e, Rf.evT_not, Rf.evT_and, Rf.evT_or, Rf.evI_it, Rf.evI_r1, Rf.evI_r2, Rf.evI_en, Rf.evI_zp, Rf.evI_rv, Rf.ex_set, Rf.ex_setO, Rf.ex_unp, Rf.ex_par, Rf.ex_aug, Rf.ex_app, Rf.ex_ifs, Rf.ex_ret, Rf.ex_retV, Rf.ex_retN, Rf.ex_brk, Rf.ex_cnt, Rf.ex_pass, Rf.ex_drop, Rf.ex_shr, Rf.ev_comp, Rf.ex_fr, Rf.exs_nil, Rf.exs_cons, Rf.seqF_nx, Rf.seqF_rt, Rf.seqF_bk, Rf.seqF_ct, Rf.gt, Rf.st, Rf.clr, Rf.puts, Rf.bindT, Rf.retM, Rf.clrF, Rf.turnS_eq, Rf.compT_eq, Rf.M.share, Rf.M.shares, Rf.bltM, Rf.binD, Rf.augD, Rf.addD, Rf.mulD, Rf.cmpD, Rf.eqM_int, Rf.eqM_bl, Rf.eqM_str, Rf.eqM_non, Rf.truD, Rf.isiD, Rf.itD, Rf.lstD, Rf.nbM, Rf.isNon, Rf.isN, Rf.entry, Rf.big, Rf.bigI, true_or, or_true, false_or, or_false, and_true, true_and, and_self, and_false, false_and, Nat.zero_le, eq_self, decide_true, decide_false, Rf.enD_map, Rf.shares_mapF, Rf.ix_t0, Rf.ix_t1, Rf.ix_t2, Rf.ix_t3, Rf.ix_t4, Rf.ix_l0, Rf.ix_l1, Rf.ix_l2, Rf.ix_l3, Rf.ix_l4, List.getElem?_cons_zero, List.getElem?_cons_succ, Option.bind_some, Option.bind_none, Option.map_some, Option.map_none, List.map_cons, List.map_nil, List.cons_append, List.nil_append, List.append_nil, List.replicate, List.length_cons, List.length_nil, if_true, if_false, reduceCtorEq, Bool.false_eq_true, Bool.not_true, Bool.not_false, Bool.or_true, Bool.true_or, Bool.or_false, Bool.false_or, Bool.and_true, Bool.true_and, Bool.and_false, Bool.false_and]
    rw [turnsS_map (fun z : JZ => .tup ((eK z).map .int)) (fun z => .sh (natD z.2))]
    · simp only [Rf.ev_var, Rf.ev_gl, Rf.ev_non, Rf.ev_bl, Rf.ev_int, Rf.ev_str, Rf.ev_bin, Rf.ev_neg, Rf.ev_not, Rf.ev_and, Rf.ev_or, Rf.ev_cmp, Rf.ev_chain, Rf.ev_ite, Rf.ev_blt, Rf.ev_isi, Rf.ev_call, Rf.ev_ix, Rf.ev_sl, Rf.ev_rev, Rf.ev_lst, Rf.ev_tup, Rf.ev_lrng, Rf.ev_fl, Rf.evs_nil, Rf.evs_cons, Rf.evT_yes, Rf.evT_e, Rf.evT_not, Rf.evT_and, Rf.evT_or, Rf.evI_it, Rf.evI_r1, Rf.evI_r2, Rf.evI_en, Rf.evI_zp, Rf.evI_rv, Rf.ex_set, Rf.ex_setO, Rf.ex_unp, Rf.ex_par, Rf.ex_aug, Rf.ex_app, Rf.ex_ifs, Rf.ex_ret, Rf.ex_retV, Rf.ex_retN, Rf.ex_brk, Rf.ex_cnt, Rf.ex_pass, Rf.ex_drop, Rf.ex_shr, Rf.ev_comp, Rf.ex_fr, Rf.exs_nil, Rf.exs_cons, Rf.seqF_nx, Rf.seqF_rt, Rf.seqF_bk, Rf.seqF_ct, Rf.gt, Rf.st, Rf.clr, Rf.puts, Rf.bindT, Rf.retM, Rf.clrF, Rf.turnS_eq, Rf.compT_eq, Rf.M.share, Rf.M.shares, Rf.bltM, Rf.binD, Rf.augD, Rf.addD, Rf.mulD, Rf.cmpD, Rf.eqM_int, Rf.eqM_bl, Rf.eqM_str, Rf.eqM_non, Rf.truD, Rf.isiD, Rf.itD, Rf.lstD, Rf.nbM, Rf.isNon, Rf.isN, Rf.entry, Rf.big, Rf.bigI, true_or, or_true, false_or, or_false, and_true, true_and, and_self, and_false, false_and, Nat.zero_le, eq_self, decide_true, decide_false, Rf.enD_map, Rf.shares_mapF, Rf.ix_t0, Rf.ix_t1, Rf.ix_t2, Rf.ix_t3, Rf.ix_t4, Rf.ix_l0, Rf.ix_l1, Rf.ix_l2, Rf.ix_l3, Rf.ix_l4, List.getElem?_cons_zero, List.getElem?_cons_succ, Option.bind_some, Option.bind_none, Option.map_some, Option.map_none, List.map_cons, List.map_nil, List.cons_append, List.nil_append, List.append_nil, List.replicate, List.length_cons, List.length_nil, if_true, if_false, reduceCtorEq, Bool.false_eq_true, Bool.not_true, Bool.not_false, Bool.or_true, Bool.true_or, Bool.or_false, Bool.false_or, Bool.and_true, Bool.true_and, Bool.and_false, Bool.false_and]
      rfl
    · intro z hz
      unfold eK
      simp only [Rf.ev_var, Rf.ev_gl, Rf.ev_non, Rf.ev_bl, Rf.ev_int, Rf.ev_str, Rf.ev_bin, Rf.ev_neg, Rf.ev_not, Rf.ev_and, Rf.ev_or, Rf.ev_cmp, Rf.ev_chain, Rf.ev_ite, Rf.ev_blt, Rf.ev_isi, Rf.ev_call, Rf.ev_ix, Rf.ev_sl, Rf.ev_rev, Rf.ev_lst, Rf.ev_tup, Rf.ev_lrng, Rf.ev_fl, Rf.evs_nil, Rf.evs_cons, Rf.evT_yes, Rf.evT_e, Rf.evT_not, Rf.evT_and, Rf.evT_or, Rf.evI_it, Rf.evI_r1, Rf.evI_r2, Rf.evI_en, Rf.evI_zp, Rf.evI_rv, Rf.ex_set, Rf.ex_setO, Rf.ex_unp, Rf.ex_par, Rf.ex_aug, Rf.ex_app, Rf.ex_ifs, Rf.ex_ret, Rf.ex_retV, Rf.ex_retN, Rf.ex_brk, Rf.ex_cnt, Rf.ex_pass, Rf.ex_drop, Rf.ex_shr, Rf.ev_comp, Rf.ex_fr, Rf.exs_nil, Rf.exs_cons, Rf.seqF_nx, Rf.seqF_rt, Rf.seqF_bk, Rf.seqF_ct, Rf.gt, Rf.st, Rf.clr, Rf.puts, Rf.bindT, Rf.retM, Rf.clrF, Rf.turnS_eq, Rf.compT_eq, Rf.M.share, Rf.M.shares, Rf.bltM, Rf.binD, Rf.augD, Rf.addD, Rf.mulD, Rf.cmpD, Rf.eqM_int, Rf.eqM_bl, Rf.eqM_str, Rf.eqM_non, Rf.truD, Rf.isiD, Rf.itD, Rf.lstD, Rf.nbM, Rf.isNon, Rf.isN, Rf.entry, Rf.big, Rf.bigI, true_or, or_true, false_or, or_false, and_true, true_and, and_self, and_false, false_and, Nat.zero_le, eq_self, decide_true, decide_false, Rf.enD_map, Rf.shares_mapF, Rf.ix_t0, Rf.ix_t1, Rf.ix_t2, Rf.ix_t3, Rf.ix_t4, Rf.ix_l0, Rf.ix_l1, Rf.ix_l2, Rf.ix_l3, Rf.ix_l4, List.getElem?_cons_zero, List.getElem?_cons_succ, Option.bind_some, Option.bind_none, Option.map_some, Option.map_none, List.map_cons, List.map_nil, List.cons_append, List.nil_append, List.append_nil, List.replicate, List.length_cons, List.length_nil, if_true, if_false, reduceCtorEq, Bool.false_eq_true, Bool.not_true, Bool.not_false, Bool.or_true, Bool.true_or, Bool.or_false, Bool.false_or, Bool.and_true, Bool.true_and, Bool.and_false, Bool.false_and, natD]
      split <;> simp only [Rf.ev_var, Rf.ev_gl, Rf.ev_non, Rf.ev_bl, Rf.ev_int, Rf.ev_str, Rf.ev_bin, Rf.ev_neg, Rf.ev_not, Rf.ev_and, Rf.ev_or, Rf.ev_cmp, Rf.ev_chain, Rf.ev_ite, Rf.ev_blt, Rf.ev_isi, Rf.ev_call, Rf.ev_ix, Rf.ev_sl, Rf.ev_rev, Rf.ev_lst, Rf.ev_tup, Rf.ev_lrng, Rf.ev_fl, Rf.evs_nil, Rf.evs_cons, Rf.evT_yes, Rf.evT_e, Rf.evT_not, Rf.evT_and, Rf.evT_or, Rf.evI_it, Rf.evI_r1, Rf.evI_r2, Rf.evI_en, Rf.evI_zp, Rf.evI_rv, Rf.ex_set, Rf.ex_setO, Rf.ex_unp, Rf.ex_par, Rf.ex_aug, Rf.ex_app, Rf.ex_ifs, Rf.ex_ret, Rf.ex_retV, Rf.ex_retN, Rf.ex_brk, Rf.ex_cnt, Rf.ex_pass, Rf.ex_drop, Rf.ex_shr, Rf.ev_comp, Rf.ex_fr, Rf.exs_nil, Rf.exs_cons, Rf.seqF_nx, Rf.seqF_rt, Rf.seqF_bk, Rf.seqF_ct, Rf.gt, Rf.st, Rf.clr, Rf.puts, Rf.bindT, Rf.retM, Rf.clrF, Rf.turnS_eq, Rf.compT_eq, Rf.M.share, Rf.M.shares, Rf.bltM, Rf.binD, Rf.augD, Rf.addD, Rf.mulD, Rf.cmpD, Rf.eqM_int, Rf.eqM_bl, Rf.eqM_str, Rf.eqM_non, Rf.truD, Rf.isiD, Rf.itD, Rf.lstD, Rf.nbM, Rf.isNon, Rf.isN, Rf.entry, Rf.big, Rf.bigI, true_or, or_true, false_or, or_false, and_true, true_and, and_self, and_false, false_and, Nat.zero_le, eq_self, decide_true, decide_false, Rf.enD_map, Rf.shares_mapF, Rf.ix_t0, Rf.ix_t1, Rf.ix_t2, Rf.ix_t3, Rf.ix_t4, Rf.ix_l0, Rf.ix_l1, Rf.ix_l2, Rf.ix_l3, Rf.ix_l4, List.getElem?_cons_zero, List.getElem?_cons_succ, Option.bind_some, Option.bind_none, Option.map_some, Option.map_none, List.map_cons, List.map_nil, List.cons_append, List.nil_append, List.append_nil, List.replicate, List.length_cons, List.length_nil, if_true, if_false, reduceCtorEq, Bool.false_eq_true, Bool.not_true, Bool.not_false, Bool.or_true, Bool.true_or, Bool.or_false, Bool.false_or, Bool.and_true, Bool.true_and, Bool.and_false, Bool.false_and]
  · rfl
  · intro d z rest hx
    obtain ⟨h1, h2⟩ : z.2 < js.length ∧ z.1 = jat js z.2 := by
      have : z ∈ js.zipIdx := by rw [hx]; simp
      rw [List.mem_zipIdx_iff_getElem?] at this
      obtain ⟨h, e⟩ := List.getElem?_eq_some_iff.mp this
      exact ⟨h, by simp [jat, h, ← e]⟩
    have h3 : d.length < js.length := by
      have := congrArg List.length hx
      rw [List.length_zipIdx, List.length_append, List.length_cons] at this
      omega
    unfold eK qz
    by_cases h : z.1.1 ≤ z.1.2 <;> simp (disch := omega) only [b_law_best_1, Rf.ev_var, Rf.ev_gl, Rf.ev_non, Rf.ev_bl, Rf.ev_int, Rf.ev_str, Rf.ev_bin, Rf.ev_neg, Rf.ev_not, Rf.ev_and, Rf.ev_or, Rf.ev_cmp, Rf.ev_chain, Rf.ev_ite, Rf.ev_blt, Rf.ev_isi, Rf.ev_call, Rf.ev_ix, Rf.ev_sl, Rf.ev_rev, Rf.ev_lst, Rf.ev_tup, Rf.ev_lrng, Rf.ev_fl, Rf.evs_nil, Rf.evs_cons, Rf.evT_yes, Rf.evT_e, Rf.evT_not, Rf.evT_and, Rf.evT_or, Rf.evI_it, Rf.evI_r1, Rf.evI_r2, Rf.evI_en, Rf.evI_zp, Rf.evI_rv, Rf.ex_set, Rf.ex_setO, Rf.ex_unp, Rf.ex_par, Rf.ex_aug, Rf.ex_app, Rf.ex_ifs, Rf.ex_ret, Rf.ex_retV, Rf.ex_retN, Rf.ex_brk, Rf.ex_cnt, Rf.ex_pass, Rf.ex_drop, Rf.ex_shr, Rf.ev_comp, Rf.ex_fr, Rf.exs_nil, Rf.exs_cons, Rf.seqF_nx, Rf.seqF_rt, Rf.seqF_bk, Rf.seqF_ct, Rf.gt, Rf.st, Rf.clr, Rf.puts, Rf.bindT, Rf.retM, Rf.clrF, Rf.turnS_eq, Rf.compT_eq, Rf.M.share, Rf.M.shares, Rf.bltM, Rf.binD, Rf.augD, Rf.addD, Rf.mulD, Rf.cmpD, Rf.eqM_int, Rf.eqM_bl, Rf.eqM_str, Rf.eqM_non, Rf.truD, Rf.isiD, Rf.itD, Rf.lstD, Rf.nbM, Rf.isNon, Rf.isN, Rf.entry, Rf.big, Rf.bigI, true_or, or_true, false_or, or_false, and_true, true_and, and_self, and_false, false_and, Nat.zero_le, eq_self, decide_true, decide_false, Rf.enD_map, Rf.shares_mapF, Rf.ix_t0, Rf.ix_t1, Rf.ix_t2, Rf.ix_t3, Rf.ix_t4, Rf.ix_l0, Rf.ix_l1, Rf.ix_l2, Rf.ix_l3, Rf.ix_l4, List.getElem?_cons_zero, List.getElem?_cons_succ, Option.bind_some, Option.bind_none, Option.map_some, Option.map_none, List.map_cons, List.map_nil, List.cons_append, List.nil_append, List.append_nil, List.replicate, List.length_cons, List.length_nil, if_true, if_false, reduceCtorEq, Bool.false_eq_true, Bool.not_true, Bool.not_false, Bool.or_true, Bool.true_or, Bool.or_false, Bool.false_or, Bool.and_true, Bool.true_and, Bool.and_false, Bool.false_and, if_pos, Rf.rngD_nat, ix_job h1, jobD, ← h2, List.length_map, h, List.map_append]
end K67

set_option Elab.async false
set_option linter.all false
set_option maxRecDepth 100000
set_option maxHeartbeats 4000000
namespace K67
open PySem PySem.Spec PyProof.Rows L2 Rf
/-! ### the law's own reckoning of an order's time -/
theorem sum_A (l : List Job) : (l.map fun j => j.1).sum = sA l := by
  induction l with
  | nil => rfl
  | cons j l ih => rw [List.map_cons, List.sum_cons, ih, sA]
theorem sum_B (l : List Job) : (l.map fun j => j.2).sum = sB l := by
  induction l with
  | nil => rfl
  | cons j l ih => rw [List.map_cons, List.sum_cons, ih, sB]
theorem run_lfinish {n : Nat} (hn : 1 ≤ n) (js : List Job) (os : List Nat) (ho : ∀ o ∈ os, o < js.length) (hl : os.length ≤ 1000) : run tab gs n 6 [.lst (js.map jobD), .lst (os.map natD)] = some (.sh (.int (LF (os.map (jat js))))) := by
  obtain ⟨k, rfl⟩ : ∃ k, n = k + 1 := ⟨n - 1, by omega⟩
  rw [run_at d_law_finish rfl rfl]
  simp (disch := omega) only [d_law_finish, Rf.ev_var, Rf.ev_gl, Rf.ev_non, Rf.ev_bl, Rf.ev_int, Rf.ev_str, Rf.ev_bin, Rf.ev_neg, Rf.ev_not, Rf.ev_and, Rf.ev_or, Rf.ev_cmp, Rf.ev_chain, Rf.ev_ite, Rf.ev_blt, Rf.ev_isi, Rf.ev_call, Rf.ev_ix, Rf.ev_sl, Rf.ev_rev, Rf.ev_lst, Rf.ev_tup, Rf.ev_lrng, Rf.ev_fl, Rf.evs_nil, Rf.evs_cons, Rf.evT_yes, Rf.evT_e, Rf.evT_not, Rf.evT_and, Rf.evT_or, Rf.evI_it, Rf.evI_r1, Rf.evI_r2, Rf.evI_en, Rf.evI_zp, Rf.evI_rv, Rf.ex_set, Rf.ex_setO, Rf.ex_unp, Rf.ex_par, Rf.ex_aug, Rf.ex_app, Rf.ex_ifs, Rf.ex_ret, Rf.ex_retV, Rf.ex_retN, Rf.ex_brk, Rf.ex_cnt, Rf.ex_pass, Rf.ex_drop, Rf.ex_shr, Rf.ev_comp, Rf.ex_fr, Rf.exs_nil, Rf.exs_cons, Rf.seqF_nx, Rf.seqF_rt, Rf.seqF_bk, Rf.seqF_ct, Rf.gt, Rf.st, Rf.clr, Rf.puts, Rf.bindT, Rf.retM, Rf.clrF, Rf.turnS_eq, Rf.compT_eq, Rf.M.share, Rf.M.shares, Rf.bltM, Rf.binD, Rf.augD, Rf.addD, Rf.mulD, Rf.cmpD, Rf.eqM_int, Rf.eqM_bl, Rf.eqM_str, Rf.eqM_non, Rf.truD, Rf.isiD, Rf.itD, Rf.lstD, Rf.nbM, Rf.isNon, Rf.isN, Rf.entry, Rf.big, Rf.bigI, true_or, or_true, false_or, or_false, and_true, true_and, and_self, and_false, false_and, Nat.zero_le, eq_self, decide_true, decide_false, Rf.enD_map, Rf.shares_mapF, Rf.ix_t0, Rf.ix_t1, Rf.ix_t2, Rf.ix_t3, Rf.ix_t4, Rf.ix_l0, Rf.ix_l1, Rf.ix_l2, Rf.ix_l3, Rf.ix_l4, List.getElem?_cons_zero, List.getElem?_cons_succ, Option.bind_some, Option.bind_none, Option.map_some, Option.map_none, List.map_cons, List.map_nil, List.cons_append, List.nil_append, List.append_nil, List.replicate, List.length_cons, List.length_nil, if_true, if_false, reduceCtorEq, Bool.false_eq_true, Bool.not_true, Bool.not_false, Bool.or_true, Bool.true_or, Bool.or_false, Bool.false_or, Bool.and_true, Bool.true_and, Bool.and_false, Bool.false_and, if_pos, Rf.rngD_nat, List.length_map]
  rw [loopS_foldE (fun b : Int => [some (.sh (.lst (js.map jobD))), some (.sh (.lst (os.map natD))), some (.sh (.int b)), none, none]) (fun b i => mx b (sA ((os.map (jat js)).take (i + 1)) + sB ((os.map (jat js)).drop i))) (fun i : Nat => D.int (i : Int)) (List.range os.length) 0 rfl]
  · simp only [Rf.ev_var, Rf.ev_gl, Rf.ev_non, Rf.ev_bl, Rf.ev_int, Rf.ev_str, Rf.ev_bin, Rf.ev_neg, Rf.ev_not, Rf.ev_and, Rf.ev_or, Rf.ev_cmp, Rf.ev_chain, Rf.ev_ite, Rf.ev_blt, Rf.ev_isi, Rf.ev_call, Rf.ev_ix, Rf.ev_sl, Rf.ev_rev, Rf.ev_lst, Rf.ev_tup, Rf.ev_lrng, Rf.ev_fl, Rf.evs_nil, Rf.evs_cons, Rf.evT_yes, Rf.evT_e, Rf.evT_not, Rf.evT_and, Rf.evT_or, Rf.evI_it, Rf.evI_r1, Rf.evI_r2, Rf.evI_en, Rf.evI_zp, Rf.evI_rv, Rf.ex_set, Rf.ex_setO, Rf.ex_unp, Rf.ex_par, Rf.ex_aug, Rf.ex_app, Rf.ex_ifs, Rf.ex_ret, Rf.ex_retV, Rf.ex_retN, Rf.ex_brk, Rf.ex_cnt, Rf.ex_pass, Rf.ex_drop, Rf.ex_shr, Rf.ev_comp, Rf.ex_fr, Rf.exs_nil, Rf.exs_cons, Rf.seqF_nx, Rf.seqF_rt, Rf.seqF_bk, Rf.seqF_ct, Rf.gt, Rf.st, Rf.clr, Rf.puts, Rf.bindT, Rf.retM, Rf.clrF, Rf.turnS_eq, Rf.compT_eq, Rf.M.share, Rf.M.shares, Rf.bltM, Rf.binD, Rf.augD, Rf.addD, Rf.mulD, Rf.cmpD, Rf.eqM_int, Rf.eqM_bl, Rf.eqM_str, Rf.eqM_non, Rf.truD, Rf.isiD, Rf.itD, Rf.lstD, Rf.nbM, Rf.isNon, Rf.isN, Rf.entry, Rf.big, Rf.bigI, true_or, or_true, false_or, or_false, and_true, true_and, and_self, and_false, false_and, Nat.zero_le, eq_self, decide_true, decide_false, Rf.enD_map, Rf.shares_mapF, Rf.ix_t0, Rf.ix_t1, Rf.ix_t2, Rf.ix_t3, Rf.ix_t4, Rf.ix_l0, Rf.ix_l1, Rf.ix_l2, Rf.ix_l3, Rf.ix_l4, List.getElem?_cons_zero, List.getElem?_cons_succ, Option.bind_some, Option.bind_none, Option.map_some, Option.map_none, List.map_cons, List.map_nil, List.cons_append, List.nil_append, List.append_nil, List.replicate, List.length_cons, List.length_nil, if_true, if_false, reduceCtorEq, Bool.false_eq_true, Bool.not_true, Bool.not_false, Bool.or_true, Bool.true_or, Bool.or_false, Bool.false_or, Bool.and_true, Bool.true_and, Bool.and_false, Bool.false_and, LF, List.length_map]
  · intro i hi b
    have hi' := List.mem_range.mp hi
    have e1 : ((i : Int) + 1) = ((i + 1 : Nat) : Int) := by omega
    have e2 : slM (.lst (os.map natD)) (.int 0) (.int ((i : Int) + 1)) = some (.od ((os.take (i + 1)).map natD)) := by
      rw [e1, show (0 : Int) = ((0 : Nat) : Int) from rfl, sl_lst, Nat.zero_min, cut_take, List.map_take]
    have e3 : slM (.lst (os.map natD)) (.int (i : Int)) .non = some (.od ((os.drop i).map natD)) := by
      rw [sl_from, cut_drop, List.map_drop]
    simp only [b_law_finish_1, Rf.ev_var, Rf.ev_gl, Rf.ev_non, Rf.ev_bl, Rf.ev_int, Rf.ev_str, Rf.ev_bin, Rf.ev_neg, Rf.ev_not, Rf.ev_and, Rf.ev_or, Rf.ev_cmp, Rf.ev_chain, Rf.ev_ite, Rf.ev_blt, Rf.ev_isi, Rf.ev_call, Rf.ev_ix, Rf.ev_sl, Rf.ev_rev, Rf.ev_lst, Rf.ev_tup, Rf.ev_lrng, Rf.ev_fl, Rf.evs_nil, Rf.evs_cons, Rf.evT_yes, Rf.evT_e, Rf.evT_not, Rf.evT_and, Rf.evT_or, Rf.evI_it, Rf.evI_r1, Rf.evI_r2, Rf.evI_en, Rf.evI_zp, Rf.evI_rv, Rf.ex_set, Rf.ex_setO, Rf.ex_unp, Rf.ex_par, Rf.ex_aug, Rf.ex_app, Rf.ex_ifs, Rf.ex_ret, Rf.ex_retV, Rf.ex_retN, Rf.ex_brk, Rf.ex_cnt, Rf.ex_pass, Rf.ex_drop, Rf.ex_shr, Rf.ev_comp, Rf.ex_fr, Rf.exs_nil, Rf.exs_cons, Rf.seqF_nx, Rf.seqF_rt, Rf.seqF_bk, Rf.seqF_ct, Rf.gt, Rf.st, Rf.clr, Rf.puts, Rf.bindT, Rf.retM, Rf.clrF, Rf.turnS_eq, Rf.compT_eq, Rf.M.share, Rf.M.shares, Rf.bltM, Rf.binD, Rf.augD, Rf.addD, Rf.mulD, Rf.cmpD, Rf.eqM_int, Rf.eqM_bl, Rf.eqM_str, Rf.eqM_non, Rf.truD, Rf.isiD, Rf.itD, Rf.lstD, Rf.nbM, Rf.isNon, Rf.isN, Rf.entry, Rf.big, Rf.bigI, true_or, or_true, false_or, or_false, and_true, true_and, and_self, and_false, false_and, Nat.zero_le, eq_self, decide_true, decide_false, Rf.enD_map, Rf.shares_mapF, Rf.ix_t0, Rf.ix_t1, Rf.ix_t2, Rf.ix_t3, Rf.ix_t4, Rf.ix_l0, Rf.ix_l1, Rf.ix_l2, Rf.ix_l3, Rf.ix_l4, List.getElem?_cons_zero, List.getElem?_cons_succ, Option.bind_some, Option.bind_none, Option.map_some, Option.map_none, List.map_cons, List.map_nil, List.cons_append, List.nil_append, List.append_nil, List.replicate, List.length_cons, List.length_nil, if_true, if_false, reduceCtorEq, Bool.false_eq_true, Bool.not_true, Bool.not_false, Bool.or_true, Bool.true_or, Bool.or_false, Bool.false_or, Bool.and_true, Bool.true_and, Bool.and_false, Bool.false_and, e2, e3]
    rw [turnsS_map natD (fun o => .sh (.int (jat js o).1)), turnsS_map natD (fun o => .sh (.int (jat js o).2))]
    · simp only [Rf.ev_var, Rf.ev_gl, Rf.ev_non, Rf.ev_bl, Rf.ev_int, Rf.ev_str, Rf.ev_bin, Rf.ev_neg, Rf.ev_not, Rf.ev_and, Rf.ev_or, Rf.ev_cmp, Rf.ev_chain, Rf.ev_ite, Rf.ev_blt, Rf.ev_isi, Rf.ev_call, Rf.ev_ix, Rf.ev_sl, Rf.ev_rev, Rf.ev_lst, Rf.ev_tup, Rf.ev_lrng, Rf.ev_fl, Rf.evs_nil, Rf.evs_cons, Rf.evT_yes, Rf.evT_e, Rf.evT_not, Rf.evT_and, Rf.evT_or, Rf.evI_it, Rf.evI_r1, Rf.evI_r2, Rf.evI_en, Rf.evI_zp, Rf.evI_rv, Rf.ex_set, Rf.ex_setO, Rf.ex_unp, Rf.ex_par, Rf.ex_aug, Rf.ex_app, Rf.ex_ifs, Rf.ex_ret, Rf.ex_retV, Rf.ex_retN, Rf.ex_brk, Rf.ex_cnt, Rf.ex_pass, Rf.ex_drop, Rf.ex_shr, Rf.ev_comp, Rf.ex_fr, Rf.exs_nil, Rf.exs_cons, Rf.seqF_nx, Rf.seqF_rt, Rf.seqF_bk, Rf.seqF_ct, Rf.gt, Rf.st, Rf.clr, Rf.puts, Rf.bindT, Rf.retM, Rf.clrF, Rf.turnS_eq, Rf.compT_eq, Rf.M.share, Rf.M.shares, Rf.bltM, Rf.binD, Rf.augD, Rf.addD, Rf.mulD, Rf.cmpD, Rf.eqM_int, Rf.eqM_bl, Rf.eqM_str, Rf.eqM_non, Rf.truD, Rf.isiD, Rf.itD, Rf.lstD, Rf.nbM, Rf.isNon, Rf.isN, Rf.entry, Rf.big, Rf.bigI, true_or, or_true, false_or, or_false, and_true, true_and, and_self, and_false, false_and, Nat.zero_le, eq_self, decide_true, decide_false, Rf.enD_map, Rf.shares_mapF, Rf.ix_t0, Rf.ix_t1, Rf.ix_t2, Rf.ix_t3, Rf.ix_t4, Rf.ix_l0, Rf.ix_l1, Rf.ix_l2, Rf.ix_l3, Rf.ix_l4, List.getElem?_cons_zero, List.getElem?_cons_succ, Option.bind_some, Option.bind_none, Option.map_some, Option.map_none, List.map_cons, List.map_nil, List.cons_append, List.nil_append, List.append_nil, List.replicate, List.length_cons, List.length_nil, if_true, if_false, reduceCtorEq, Bool.false_eq_true, Bool.not_true, Bool.not_false, Bool.or_true, Bool.true_or, Bool.or_false, Bool.false_or, Bool.and_true, Bool.true_and, Bool.and_false, Bool.false_and, intsD_map]
      have h1 : ((os.take (i + 1)).map fun o => (jat js o).1).sum = sA ((os.map (jat js)).take (i + 1)) := by
        rw [← sum_A, ← List.map_take, List.map_map]
        rfl
      have h2 : ((os.drop i).map fun o => (jat js o).2).sum = sB ((os.map (jat js)).drop i) := by
        rw [← sum_B, ← List.map_drop, List.map_map]
        rfl
      rw [h1, h2]
      rfl
    · intro o h
      simp only [Rf.ev_var, Rf.ev_gl, Rf.ev_non, Rf.ev_bl, Rf.ev_int, Rf.ev_str, Rf.ev_bin, Rf.ev_neg, Rf.ev_not, Rf.ev_and, Rf.ev_or, Rf.ev_cmp, Rf.ev_chain, Rf.ev_ite, Rf.ev_blt, Rf.ev_isi, Rf.ev_call, Rf.ev_ix, Rf.ev_sl, Rf.ev_rev, Rf.ev_lst, Rf.ev_tup, Rf.ev_lrng, Rf.ev_fl, Rf.evs_nil, Rf.evs_cons, Rf.evT_yes, Rf.evT_e, Rf.evT_not, Rf.evT_and, Rf.evT_or, Rf.evI_it, Rf.evI_r1, Rf.evI_r2, Rf.evI_en, Rf.evI_zp, Rf.evI_rv, Rf.ex_set, Rf.ex_setO, Rf.ex_unp, Rf.ex_par, Rf.ex_aug, Rf.ex_app, Rf.ex_ifs, Rf.ex_ret, Rf.ex_retV, Rf.ex_retN, Rf.ex_brk, Rf.ex_cnt, Rf.ex_pass, Rf.ex_drop, Rf.ex_shr, Rf.ev_comp, Rf.ex_fr, Rf.exs_nil, Rf.exs_cons, Rf.seqF_nx, Rf.seqF_rt, Rf.seqF_bk, Rf.seqF_ct, Rf.gt, Rf.st, Rf.clr, Rf.puts, Rf.bindT, Rf.retM, Rf.clrF, Rf.turnS_eq, Rf.compT_eq, Rf.M.share, Rf.M.shares, Rf.bltM, Rf.binD, Rf.augD, Rf.addD, Rf.mulD, Rf.cmpD, Rf.eqM_int, Rf.eqM_bl, Rf.eqM_str, Rf.eqM_non, Rf.truD, Rf.isiD, Rf.itD, Rf.lstD, Rf.nbM, Rf.isNon, Rf.isN, Rf.entry, Rf.big, Rf.bigI, true_or, or_true, false_or, or_false, and_true, true_and, and_self, and_false, false_and, Nat.zero_le, eq_self, decide_true, decide_false, Rf.enD_map, Rf.shares_mapF, Rf.ix_t0, Rf.ix_t1, Rf.ix_t2, Rf.ix_t3, Rf.ix_t4, Rf.ix_l0, Rf.ix_l1, Rf.ix_l2, Rf.ix_l3, Rf.ix_l4, List.getElem?_cons_zero, List.getElem?_cons_succ, Option.bind_some, Option.bind_none, Option.map_some, Option.map_none, List.map_cons, List.map_nil, List.cons_append, List.nil_append, List.append_nil, List.replicate, List.length_cons, List.length_nil, if_true, if_false, reduceCtorEq, Bool.false_eq_true, Bool.not_true, Bool.not_false, Bool.or_true, Bool.true_or, Bool.or_false, Bool.false_or, Bool.and_true, Bool.true_and, Bool.and_false, Bool.false_and, natD, ix_job (ho o (List.mem_of_mem_drop h)), jobD]
    · intro o h
      simp only [Rf.ev_var, Rf.ev_gl, Rf.ev_non, Rf.ev_bl, Rf.ev_int, Rf.ev_str, Rf.ev_bin, Rf.ev_neg, Rf.ev_not, Rf.ev_and, Rf.ev_or, Rf.ev_cmp, Rf.ev_chain, Rf.ev_ite, Rf.ev_blt, Rf.ev_isi, Rf.ev_call, Rf.ev_ix, Rf.ev_sl, Rf.ev_rev, Rf.ev_lst, Rf.ev_tup, Rf.ev_lrng, Rf.ev_fl, Rf.evs_nil, Rf.evs_cons, Rf.evT_yes, Rf.evT_e, Rf.evT_not, Rf.evT_and, Rf.evT_or, Rf.evI_it, Rf.evI_r1, Rf.evI_r2, Rf.evI_en, Rf.evI_zp, Rf.evI_rv, Rf.ex_set, Rf.ex_setO, Rf.ex_unp, Rf.ex_par, Rf.ex_aug, Rf.ex_app, Rf.ex_ifs, Rf.ex_ret, Rf.ex_retV, Rf.ex_retN, Rf.ex_brk, Rf.ex_cnt, Rf.ex_pass, Rf.ex_drop, Rf.ex_shr, Rf.ev_comp, Rf.ex_fr, Rf.exs_nil, Rf.exs_cons, Rf.seqF_nx, Rf.seqF_rt, Rf.seqF_bk, Rf.seqF_ct, Rf.gt, Rf.st, Rf.clr, Rf.puts, Rf.bindT, Rf.retM, Rf.clrF, Rf.turnS_eq, Rf.compT_eq, Rf.M.share, Rf.M.shares, Rf.bltM, Rf.binD, Rf.augD, Rf.addD, Rf.mulD, Rf.cmpD, Rf.eqM_int, Rf.eqM_bl, Rf.eqM_str, Rf.eqM_non, Rf.truD, Rf.isiD, Rf.itD, Rf.lstD, Rf.nbM, Rf.isNon, Rf.isN, Rf.entry, Rf.big, Rf.bigI, true_or, or_true, false_or, or_false, and_true, true_and, and_self, and_false, false_and, Nat.zero_le, eq_self, decide_true, decide_false, Rf.enD_map, Rf.shares_mapF, Rf.ix_t0, Rf.ix_t1, Rf.ix_t2, Rf.ix_t3, Rf.ix_t4, Rf.ix_l0, Rf.ix_l1, Rf.ix_l2, Rf.ix_l3, Rf.ix_l4, List.getElem?_cons_zero, List.getElem?_cons_succ, Option.bind_some, Option.bind_none, Option.map_some, Option.map_none, List.map_cons, List.map_nil, List.cons_append, List.nil_append, List.append_nil, List.replicate, List.length_cons, List.length_nil, if_true, if_false, reduceCtorEq, Bool.false_eq_true, Bool.not_true, Bool.not_false, Bool.or_true, Bool.true_or, Bool.or_false, Bool.false_or, Bool.and_true, Bool.true_and, Bool.and_false, Bool.false_and, natD, ix_job (ho o (List.mem_of_mem_take h)), jobD]
/-! ### all orders -/
def ordD (o : List Nat) : D := .lst (o.map natD)
def ordStep (n : Nat) (found : List (List Nat)) : List (List Nat) := found.flatMap fun o => ((List.range n).filter fun x => !o.contains x).map fun x => o ++ [x]
def ords (n : Nat) : Nat → List (List Nat)
  | 0 => [[]]
  | k + 1 => ordStep n (ords n k)
theorem nat_in (o : List Nat) (x : Nat) : inD (natD x) (.lst (o.map natD)) = some (o.contains x) := by
  unfold inD
  simp only
  rw [if_pos (.inl ⟨rfl, by simp [List.all_eq_true, natD, flat]⟩)]
  congr 1
  induction o with
  | nil => rfl
  | cons y o ih =>
    rw [List.map_cons, List.any_cons, ih, List.contains_cons]
    congr 1
    by_cases h : x = y
    · subst h; simp [natD, eqD]
    · have h' : ¬ (y : Int) = (x : Int) := by omega
      simp only [natD, eqD]
      rw [beq_eq_false_iff_ne.mpr h', beq_eq_false_iff_ne.mpr h]
theorem step_len (n : Nat) (found : List (List Nat)) : (ordStep n found).length ≤ found.length * n := by
  unfold ordStep
  induction found with
  | nil => simp
  | cons o l ih =>
    rw [List.flatMap_cons, List.length_append, List.length_cons, List.length_map, Nat.succ_mul]
    have := List.length_filter_le (fun x => !o.contains x) (List.range n)
    rw [List.length_range] at this
    omega
theorem ords_len (n : Nat) : ∀ k, (ords n k).length ≤ n ^ k
  | 0 => Nat.le_refl _
  | k + 1 => by
    have := step_len n (ords n k)
    have h := ords_len n k
    rw [Nat.pow_succ]
    exact Nat.le_trans this (Nat.mul_le_mul_right n h)
theorem ord_of (n : Nat) : ∀ k, ∀ o ∈ ords n k, o.length = k ∧ o.Nodup ∧ ∀ x ∈ o, x < n
  | 0, o, h => by
    rw [ords, List.mem_singleton] at h
    subst h
    exact ⟨rfl, .nil, by simp⟩
  | k + 1, o, h => by
    rw [ords, ordStep, List.mem_flatMap] at h
    obtain ⟨p, hp, h⟩ := h
    obtain ⟨x, hx, rfl⟩ := List.mem_map.mp h
    obtain ⟨h1, h2⟩ := List.mem_filter.mp hx
    obtain ⟨i1, i2, i3⟩ := ord_of n k p hp
    have hn : x ∉ p := by simpa using h2
    refine ⟨by rw [List.length_append, i1]; rfl, ?_, fun y hy => ?_⟩
    · rw [List.nodup_append]
      exact ⟨i2, by simp, fun a ha b hb e => hn (by rw [List.mem_singleton.mp hb] at e; rw [← e]; exact ha)⟩
    · rcases List.mem_append.mp hy with q | q
      · exact i3 y q
      · rw [List.mem_singleton.mp q]; exact List.mem_range.mp h1
theorem run_orders {k : Nat} (n : Nat) (hn : n ≤ 5) : run tab gs (k + 1) 5 [.int (n : Int)] = some (.sh (.lst ((ords n n).map ordD))) := by
  rw [run_at d_law_orders rfl rfl]
  simp (disch := omega) only [d_law_orders, Rf.ev_var, Rf.ev_gl, Rf.ev_non, Rf.ev_bl, Rf.ev_int, Rf.ev_str, Rf.ev_bin, Rf.ev_neg, Rf.ev_not, Rf.ev_and, Rf.ev_or, Rf.ev_cmp, Rf.ev_chain, Rf.ev_ite, Rf.ev_blt, Rf.ev_isi, Rf.ev_call, Rf.ev_ix, Rf.ev_sl, Rf.ev_rev, Rf.ev_lst, Rf.ev_tup, Rf.ev_lrng, Rf.ev_fl, Rf.evs_nil, Rf.evs_cons, Rf.evT_yes, Rf.evT_e, Rf.evT_not, Rf.evT_and, Rf.evT_or, Rf.evI_it, Rf.evI_r1, Rf.evI_r2, Rf.evI_en, Rf.evI_zp, Rf.evI_rv, Rf.ex_set, Rf.ex_setO, Rf.ex_unp, Rf.ex_par, Rf.ex_aug, Rf.ex_app, Rf.ex_ifs, Rf.ex_ret, Rf.ex_retV, Rf.ex_retN, Rf.ex_brk, Rf.ex_cnt, Rf.ex_pass, Rf.ex_drop, Rf.ex_shr, Rf.ev_comp, Rf.ex_fr, Rf.exs_nil, Rf.exs_cons, Rf.seqF_nx, Rf.seqF_rt, Rf.seqF_bk, Rf.seqF_ct, Rf.gt, Rf.st, Rf.clr, Rf.puts, Rf.bindT, Rf.retM, Rf.clrF, Rf.turnS_eq, Rf.compT_eq, Rf.M.share, Rf.M.shares, Rf.bltM, Rf.binD, Rf.augD, Rf.addD, Rf.mulD, Rf.cmpD, Rf.eqM_int, Rf.eqM_bl, Rf.eqM_str, Rf.eqM_non, Rf.truD, Rf.isiD, Rf.itD, Rf.lstD, Rf.nbM, Rf.isNon, Rf.isN, Rf.entry, Rf.big, Rf.bigI, true_or, or_true, false_or, or_false, and_true, true_and, and_self, and_false, false_and, Nat.zero_le, eq_self, decide_true, decide_false, Rf.enD_map, Rf.shares_mapF, Rf.ix_t0, Rf.ix_t1, Rf.ix_t2, Rf.ix_t3, Rf.ix_t4, Rf.ix_l0, Rf.ix_l1, Rf.ix_l2, Rf.ix_l3, Rf.ix_l4, List.getElem?_cons_zero, List.getElem?_cons_succ, Option.bind_some, Option.bind_none, Option.map_some, Option.map_none, List.map_cons, List.map_nil, List.cons_append, List.nil_append, List.append_nil, List.replicate, List.length_cons, List.length_nil, if_true, if_false, reduceCtorEq, Bool.false_eq_true, Bool.not_true, Bool.not_false, Bool.or_true, Bool.true_or, Bool.or_false, Bool.false_or, Bool.and_true, Bool.true_and, Bool.and_false, Bool.false_and, if_pos, Rf.rngD_nat]
  rw [loopS_doneE (fun i : Nat => D.int (i : Int)) (fun d => [some (.sh (.int (n : Int))), some (.sh (.lst ((ords n d.length).map ordD))), none, none, none, none]) (List.range n) ?_ ?_]
  · simp only [Rf.ev_var, Rf.ev_gl, Rf.ev_non, Rf.ev_bl, Rf.ev_int, Rf.ev_str, Rf.ev_bin, Rf.ev_neg, Rf.ev_not, Rf.ev_and, Rf.ev_or, Rf.ev_cmp, Rf.ev_chain, Rf.ev_ite, Rf.ev_blt, Rf.ev_isi, Rf.ev_call, Rf.ev_ix, Rf.ev_sl, Rf.ev_rev, Rf.ev_lst, Rf.ev_tup, Rf.ev_lrng, Rf.ev_fl, Rf.evs_nil, Rf.evs_cons, Rf.evT_yes, Rf.evT_e, Rf.evT_not, Rf.evT_and, Rf.evT_or, Rf.evI_it, Rf.evI_r1, Rf.evI_r2, Rf.evI_en, Rf.evI_zp, Rf.evI_rv, Rf.ex_set, Rf.ex_setO, Rf.ex_unp, Rf.ex_par, Rf.ex_aug, Rf.ex_app, Rf.ex_ifs, Rf.ex_ret, Rf.ex_retV, Rf.ex_retN, Rf.ex_brk, Rf.ex_cnt, Rf.ex_pass, Rf.ex_drop, Rf.ex_shr, Rf.ev_comp, Rf.ex_fr, Rf.exs_nil, Rf.exs_cons, Rf.seqF_nx, Rf.seqF_rt, Rf.seqF_bk, Rf.seqF_ct, Rf.gt, Rf.st, Rf.clr, Rf.puts, Rf.bindT, Rf.retM, Rf.clrF, Rf.turnS_eq, Rf.compT_eq, Rf.M.share, Rf.M.shares, Rf.bltM, Rf.binD, Rf.augD, Rf.addD, Rf.mulD, Rf.cmpD, Rf.eqM_int, Rf.eqM_bl, Rf.eqM_str, Rf.eqM_non, Rf.truD, Rf.isiD, Rf.itD, Rf.lstD, Rf.nbM, Rf.isNon, Rf.isN, Rf.entry, Rf.big, Rf.bigI, true_or, or_true, false_or, or_false, and_true, true_and, and_self, and_false, false_and, Nat.zero_le, eq_self, decide_true, decide_false, Rf.enD_map, Rf.shares_mapF, Rf.ix_t0, Rf.ix_t1, Rf.ix_t2, Rf.ix_t3, Rf.ix_t4, Rf.ix_l0, Rf.ix_l1, Rf.ix_l2, Rf.ix_l3, Rf.ix_l4, List.getElem?_cons_zero, List.getElem?_cons_succ, Option.bind_some, Option.bind_none, Option.map_some, Option.map_none, List.map_cons, List.map_nil, List.cons_append, List.nil_append, List.append_nil, List.replicate, List.length_cons, List.length_nil, if_true, if_false, reduceCtorEq, Bool.false_eq_true, Bool.not_true, Bool.not_false, Bool.or_true, Bool.true_or, Bool.or_false, Bool.false_or, Bool.and_true, Bool.true_and, Bool.and_false, Bool.false_and, List.length_range]
  · rfl
  · intro d x rest hd
    have hdl : d.length < n := by
      have h1 := congrArg List.length hd
      rw [List.length_range, List.length_append, List.length_cons] at h1
      omega
    simp only [b_law_orders_2, Rf.ev_var, Rf.ev_gl, Rf.ev_non, Rf.ev_bl, Rf.ev_int, Rf.ev_str, Rf.ev_bin, Rf.ev_neg, Rf.ev_not, Rf.ev_and, Rf.ev_or, Rf.ev_cmp, Rf.ev_chain, Rf.ev_ite, Rf.ev_blt, Rf.ev_isi, Rf.ev_call, Rf.ev_ix, Rf.ev_sl, Rf.ev_rev, Rf.ev_lst, Rf.ev_tup, Rf.ev_lrng, Rf.ev_fl, Rf.evs_nil, Rf.evs_cons, Rf.evT_yes, Rf.evT_e, Rf.evT_not, Rf.evT_and, Rf.evT_or, Rf.evI_it, Rf.evI_r1, Rf.evI_r2, Rf.evI_en, Rf.evI_zp, Rf.evI_rv, Rf.ex_set, Rf.ex_setO, Rf.ex_unp, Rf.ex_par, Rf.ex_aug, Rf.ex_app, Rf.ex_ifs, Rf.ex_ret, Rf.ex_retV, Rf.ex_retN, Rf.ex_brk, Rf.ex_cnt, Rf.ex_pass, Rf.ex_drop, Rf.ex_shr, Rf.ev_comp, Rf.ex_fr, Rf.exs_nil, Rf.exs_cons, Rf.seqF_nx, Rf.seqF_rt, Rf.seqF_bk, Rf.seqF_ct, Rf.gt, Rf.st, Rf.clr, Rf.puts, Rf.bindT, Rf.retM, Rf.clrF, Rf.turnS_eq, Rf.compT_eq, Rf.M.share, Rf.M.shares, Rf.bltM, Rf.binD, Rf.augD, Rf.addD, Rf.mulD, Rf.cmpD, Rf.eqM_int, Rf.eqM_bl, Rf.eqM_str, Rf.eqM_non, Rf.truD, Rf.isiD, Rf.itD, Rf.lstD, Rf.nbM, Rf.isNon, Rf.isN, Rf.entry, Rf.big, Rf.bigI, true_or, or_true, false_or, or_false, and_true, true_and, and_self, and_false, false_and, Nat.zero_le, eq_self, decide_true, decide_false, Rf.enD_map, Rf.shares_mapF, Rf.ix_t0, Rf.ix_t1, Rf.ix_t2, Rf.ix_t3, Rf.ix_t4, Rf.ix_l0, Rf.ix_l1, Rf.ix_l2, Rf.ix_l3, Rf.ix_l4, List.getElem?_cons_zero, List.getElem?_cons_succ, Option.bind_some, Option.bind_none, Option.map_some, Option.map_none, List.map_cons, List.map_nil, List.cons_append, List.nil_append, List.append_nil, List.replicate, List.length_cons, List.length_nil, if_true, if_false, reduceCtorEq, Bool.false_eq_true, Bool.not_true, Bool.not_false, Bool.or_true, Bool.true_or, Bool.or_false, Bool.false_or, Bool.and_true, Bool.true_and, Bool.and_false, Bool.false_and]
    rw [loopS_doneE ordD (fun e => [some (.sh (.int (n : Int))), some (.sh (.lst ((ords n d.length).map ordD))), some (.sh (.int (x : Int))), some (.sh (.lst ((ordStep n e).map ordD))), none, none]) (ords n d.length) ?_ ?_]
    · simp only [Rf.ev_var, Rf.ev_gl, Rf.ev_non, Rf.ev_bl, Rf.ev_int, Rf.ev_str, Rf.ev_bin, Rf.ev_neg, Rf.ev_not, Rf.ev_and, Rf.ev_or, Rf.ev_cmp, Rf.ev_chain, Rf.ev_ite, Rf.ev_blt, Rf.ev_isi, Rf.ev_call, Rf.ev_ix, Rf.ev_sl, Rf.ev_rev, Rf.ev_lst, Rf.ev_tup, Rf.ev_lrng, Rf.ev_fl, Rf.evs_nil, Rf.evs_cons, Rf.evT_yes, Rf.evT_e, Rf.evT_not, Rf.evT_and, Rf.evT_or, Rf.evI_it, Rf.evI_r1, Rf.evI_r2, Rf.evI_en, Rf.evI_zp, Rf.evI_rv, Rf.ex_set, Rf.ex_setO, Rf.ex_unp, Rf.ex_par, Rf.ex_aug, Rf.ex_app, Rf.ex_ifs, Rf.ex_ret, Rf.ex_retV, Rf.ex_retN, Rf.ex_brk, Rf.ex_cnt, Rf.ex_pass, Rf.ex_drop, Rf.ex_shr, Rf.ev_comp, Rf.ex_fr, Rf.exs_nil, Rf.exs_cons, Rf.seqF_nx, Rf.seqF_rt, Rf.seqF_bk, Rf.seqF_ct, Rf.gt, Rf.st, Rf.clr, Rf.puts, Rf.bindT, Rf.retM, Rf.clrF, Rf.turnS_eq, Rf.compT_eq, Rf.M.share, Rf.M.shares, Rf.bltM, Rf.binD, Rf.augD, Rf.addD, Rf.mulD, Rf.cmpD, Rf.eqM_int, Rf.eqM_bl, Rf.eqM_str, Rf.eqM_non, Rf.truD, Rf.isiD, Rf.itD, Rf.lstD, Rf.nbM, Rf.isNon, Rf.isN, Rf.entry, Rf.big, Rf.bigI, true_or, or_true, false_or, or_false, and_true, true_and, and_self, and_false, false_and, Nat.zero_le, eq_self, decide_true, decide_false, Rf.enD_map, Rf.shares_mapF, Rf.ix_t0, Rf.ix_t1, Rf.ix_t2, Rf.ix_t3, Rf.ix_t4, Rf.ix_l0, Rf.ix_l1, Rf.ix_l2, Rf.ix_l3, Rf.ix_l4, List.getElem?_cons_zero, List.getElem?_cons_succ, Option.bind_some, Option.bind_none, Option.map_some, Option.map_none, List.map_cons, List.map_nil, List.cons_append, List.nil_append, List.append_nil, List.replicate, List.length_cons, List.length_nil, if_true, if_false, reduceCtorEq, Bool.false_eq_true, Bool.not_true, Bool.not_false, Bool.or_true, Bool.true_or, Bool.or_false, Bool.false_or, Bool.and_true, Bool.true_and, Bool.and_false, Bool.false_and, List.length_append]
      rfl
    · rfl
    · intro e o rest' he
      have hlen : e.length < 625 * 5 := by
        have h1 := congrArg List.length he
        rw [List.length_append, List.length_cons] at h1
        have h2 := ords_len n d.length
        have h3 : n ^ d.length ≤ 5 ^ d.length := Nat.pow_le_pow_left hn _
        have h4 : 5 ^ d.length ≤ 5 ^ 4 := Nat.pow_le_pow_right (by decide) (by omega)
        have h5 : 5 ^ 4 = 625 := rfl
        omega
      have ho : o.length ≤ 5 := by
        have := (ord_of n d.length o (by rw [he]; simp)).1
        omega
      simp (disch := omega) only [b_law_orders_1, Rf.ev_var, Rf.ev_gl, Rf.ev_non, Rf.ev_bl, Rf.ev_int, Rf.ev_str, Rf.ev_bin, Rf.ev_neg, Rf.ev_not, Rf.ev_and, Rf.ev_or, Rf.ev_cmp, Rf.ev_chain, Rf.ev_ite, Rf.ev_blt, Rf.ev_isi, Rf.ev_call, Rf.ev_ix, Rf.ev_sl, Rf.ev_rev, Rf.ev_lst, Rf.ev_tup, Rf.ev_lrng, Rf.ev_fl, Rf.evs_nil, Rf.evs_cons, Rf.evT_yes, Rf.evT_e, Rf.evT_not, Rf.evT_and, Rf.evT_or, Rf.evI_it, Rf.evI_r1, Rf.evI_r2, Rf.evI_en, Rf.evI_zp, Rf.evI_rv, Rf.ex_set, Rf.ex_setO, Rf.ex_unp, Rf.ex_par, Rf.ex_aug, Rf.ex_app, Rf.ex_ifs, Rf.ex_ret, Rf.ex_retV, Rf.ex_retN, Rf.ex_brk, Rf.ex_cnt, Rf.ex_pass, Rf.ex_drop, Rf.ex_shr, Rf.ev_comp, Rf.ex_fr, Rf.exs_nil, Rf.exs_cons, Rf.seqF_nx, Rf.seqF_rt, Rf.seqF_bk, Rf.seqF_ct, Rf.gt, Rf.st, Rf.clr, Rf.puts, Rf.bindT, Rf.retM, Rf.clrF, Rf.turnS_eq, Rf.compT_eq, Rf.M.share, Rf.M.shares, Rf.bltM, Rf.binD, Rf.augD, Rf.addD, Rf.mulD, Rf.cmpD, Rf.eqM_int, Rf.eqM_bl, Rf.eqM_str, Rf.eqM_non, Rf.truD, Rf.isiD, Rf.itD, Rf.lstD, Rf.nbM, Rf.isNon, Rf.isN, Rf.entry, Rf.big, Rf.bigI, true_or, or_true, false_or, or_false, and_true, true_and, and_self, and_false, false_and, Nat.zero_le, eq_self, decide_true, decide_false, Rf.enD_map, Rf.shares_mapF, Rf.ix_t0, Rf.ix_t1, Rf.ix_t2, Rf.ix_t3, Rf.ix_t4, Rf.ix_l0, Rf.ix_l1, Rf.ix_l2, Rf.ix_l3, Rf.ix_l4, List.getElem?_cons_zero, List.getElem?_cons_succ, Option.bind_some, Option.bind_none, Option.map_some, Option.map_none, List.map_cons, List.map_nil, List.cons_append, List.nil_append, List.append_nil, List.replicate, List.length_cons, List.length_nil, if_true, if_false, reduceCtorEq, Bool.false_eq_true, Bool.not_true, Bool.not_false, Bool.or_true, Bool.true_or, Bool.or_false, Bool.false_or, Bool.and_true, Bool.true_and, Bool.and_false, Bool.false_and, if_pos, Rf.rngD_nat]
      have hs := step_len n e
      have hs' : (ordStep n e).length ≤ 20000 := Nat.le_trans hs (Nat.le_trans (Nat.mul_le_mul_left _ hn) (by omega))
      rw [turnsS_filter (fun i : Nat => D.int (i : Int)) (fun x => !o.contains x) (fun x => .od ((o ++ [x]).map natD))]
      · have hf := List.length_filter_le (fun x => !o.contains x) (List.range n)
        rw [List.length_range] at hf
        simp (disch := omega) only [Rf.ev_var, Rf.ev_gl, Rf.ev_non, Rf.ev_bl, Rf.ev_int, Rf.ev_str, Rf.ev_bin, Rf.ev_neg, Rf.ev_not, Rf.ev_and, Rf.ev_or, Rf.ev_cmp, Rf.ev_chain, Rf.ev_ite, Rf.ev_blt, Rf.ev_isi, Rf.ev_call, Rf.ev_ix, Rf.ev_sl, Rf.ev_rev, Rf.ev_lst, Rf.ev_tup, Rf.ev_lrng, Rf.ev_fl, Rf.evs_nil, Rf.evs_cons, Rf.evT_yes, Rf.evT_e, Rf.evT_not, Rf.evT_and, Rf.evT_or, Rf.evI_it, Rf.evI_r1, Rf.evI_r2, Rf.evI_en, Rf.evI_zp, Rf.evI_rv, Rf.ex_set, Rf.ex_setO, Rf.ex_unp, Rf.ex_par, Rf.ex_aug, Rf.ex_app, Rf.ex_ifs, Rf.ex_ret, Rf.ex_retV, Rf.ex_retN, Rf.ex_brk, Rf.ex_cnt, Rf.ex_pass, Rf.ex_drop, Rf.ex_shr, Rf.ev_comp, Rf.ex_fr, Rf.exs_nil, Rf.exs_cons, Rf.seqF_nx, Rf.seqF_rt, Rf.seqF_bk, Rf.seqF_ct, Rf.gt, Rf.st, Rf.clr, Rf.puts, Rf.bindT, Rf.retM, Rf.clrF, Rf.turnS_eq, Rf.compT_eq, Rf.M.share, Rf.M.shares, Rf.bltM, Rf.binD, Rf.augD, Rf.addD, Rf.mulD, Rf.cmpD, Rf.eqM_int, Rf.eqM_bl, Rf.eqM_str, Rf.eqM_non, Rf.truD, Rf.isiD, Rf.itD, Rf.lstD, Rf.nbM, Rf.isNon, Rf.isN, Rf.entry, Rf.big, Rf.bigI, true_or, or_true, false_or, or_false, and_true, true_and, and_self, and_false, false_and, Nat.zero_le, eq_self, decide_true, decide_false, Rf.enD_map, Rf.shares_mapF, Rf.ix_t0, Rf.ix_t1, Rf.ix_t2, Rf.ix_t3, Rf.ix_t4, Rf.ix_l0, Rf.ix_l1, Rf.ix_l2, Rf.ix_l3, Rf.ix_l4, List.getElem?_cons_zero, List.getElem?_cons_succ, Option.bind_some, Option.bind_none, Option.map_some, Option.map_none, List.map_cons, List.map_nil, List.cons_append, List.nil_append, List.append_nil, List.replicate, List.length_cons, List.length_nil, if_true, if_false, reduceCtorEq, Bool.false_eq_true, Bool.not_true, Bool.not_false, Bool.or_true, Bool.true_or, Bool.or_false, Bool.false_or, Bool.and_true, Bool.true_and, Bool.and_false, Bool.false_and, if_pos, Rf.rngD_nat, List.length_map]
        have : ordStep n (e ++ [o]) = ordStep n e ++ ((List.range n).filter fun x => !o.contains x).map fun x => o ++ [x] := by
          unfold ordStep
          rw [List.flatMap_append]
          simp
        rw [this, List.map_append, List.map_map]
        rfl
      · intro y hy
        have e0 : D.int (y : Int) = natD y := rfl
        simp (disch := omega) only [Rf.ev_var, Rf.ev_gl, Rf.ev_non, Rf.ev_bl, Rf.ev_int, Rf.ev_str, Rf.ev_bin, Rf.ev_neg, Rf.ev_not, Rf.ev_and, Rf.ev_or, Rf.ev_cmp, Rf.ev_chain, Rf.ev_ite, Rf.ev_blt, Rf.ev_isi, Rf.ev_call, Rf.ev_ix, Rf.ev_sl, Rf.ev_rev, Rf.ev_lst, Rf.ev_tup, Rf.ev_lrng, Rf.ev_fl, Rf.evs_nil, Rf.evs_cons, Rf.evT_yes, Rf.evT_e, Rf.evT_not, Rf.evT_and, Rf.evT_or, Rf.evI_it, Rf.evI_r1, Rf.evI_r2, Rf.evI_en, Rf.evI_zp, Rf.evI_rv, Rf.ex_set, Rf.ex_setO, Rf.ex_unp, Rf.ex_par, Rf.ex_aug, Rf.ex_app, Rf.ex_ifs, Rf.ex_ret, Rf.ex_retV, Rf.ex_retN, Rf.ex_brk, Rf.ex_cnt, Rf.ex_pass, Rf.ex_drop, Rf.ex_shr, Rf.ev_comp, Rf.ex_fr, Rf.exs_nil, Rf.exs_cons, Rf.seqF_nx, Rf.seqF_rt, Rf.seqF_bk, Rf.seqF_ct, Rf.gt, Rf.st, Rf.clr, Rf.puts, Rf.bindT, Rf.retM, Rf.clrF, Rf.turnS_eq, Rf.compT_eq, Rf.M.share, Rf.M.shares, Rf.bltM, Rf.binD, Rf.augD, Rf.addD, Rf.mulD, Rf.cmpD, Rf.eqM_int, Rf.eqM_bl, Rf.eqM_str, Rf.eqM_non, Rf.truD, Rf.isiD, Rf.itD, Rf.lstD, Rf.nbM, Rf.isNon, Rf.isN, Rf.entry, Rf.big, Rf.bigI, true_or, or_true, false_or, or_false, and_true, true_and, and_self, and_false, false_and, Nat.zero_le, eq_self, decide_true, decide_false, Rf.enD_map, Rf.shares_mapF, Rf.ix_t0, Rf.ix_t1, Rf.ix_t2, Rf.ix_t3, Rf.ix_t4, Rf.ix_l0, Rf.ix_l1, Rf.ix_l2, Rf.ix_l3, Rf.ix_l4, List.getElem?_cons_zero, List.getElem?_cons_succ, Option.bind_some, Option.bind_none, Option.map_some, Option.map_none, List.map_cons, List.map_nil, List.cons_append, List.nil_append, List.append_nil, List.replicate, List.length_cons, List.length_nil, if_true, if_false, reduceCtorEq, Bool.false_eq_true, Bool.not_true, Bool.not_false, Bool.or_true, Bool.true_or, Bool.or_false, Bool.false_or, Bool.and_true, Bool.true_and, Bool.and_false, Bool.false_and, if_pos, Rf.rngD_nat, ordD, e0, nat_in, List.length_map]
        cases o.contains y <;> simp only [Rf.ev_var, Rf.ev_gl, Rf.ev_non, Rf.ev_bl, Rf.ev_int, Rf.ev_str, Rf.ev_bin, Rf.ev_neg, Rf.ev_not, Rf.ev_and, Rf.ev_or, Rf.ev_cmp, Rf.ev_chain, Rf.ev_ite, Rf.ev_blt, Rf.ev_isi, Rf.ev_call, Rf.ev_ix, Rf.ev_sl, Rf.ev_rev, Rf.ev_lst, Rf.ev_tup, Rf.ev_lrng, Rf.ev_fl, Rf.evs_nil, Rf.evs_cons, Rf.evT_yes, Rf.evT_e, Rf.evT_not, Rf.evT_and, Rf.evT_or, Rf.evI_it, Rf.evI_r1, Rf.evI_r2, Rf.evI_en, Rf.evI_zp, Rf.evI_rv, Rf.ex_set, Rf.ex_setO, Rf.ex_unp, Rf.ex_par, Rf.ex_aug, Rf.ex_app, Rf.ex_ifs, Rf.ex_ret, Rf.ex_retV, Rf.ex_retN, Rf.ex_brk, Rf.ex_cnt, Rf.ex_pass, Rf.ex_drop, Rf.ex_shr, Rf.ev_comp, Rf.ex_fr, Rf.exs_nil, Rf.exs_cons, Rf.seqF_nx, Rf.seqF_rt, Rf.seqF_bk, Rf.seqF_ct, Rf.gt, Rf.st, Rf.clr, Rf.puts, Rf.bindT, Rf.retM, Rf.clrF, Rf.turnS_eq, Rf.compT_eq, Rf.M.share, Rf.M.shares, Rf.bltM, Rf.binD, Rf.augD, Rf.addD, Rf.mulD, Rf.cmpD, Rf.eqM_int, Rf.eqM_bl, Rf.eqM_str, Rf.eqM_non, Rf.truD, Rf.isiD, Rf.itD, Rf.lstD, Rf.nbM, Rf.isNon, Rf.isN, Rf.entry, Rf.big, Rf.bigI, true_or, or_true, false_or, or_false, and_true, true_and, and_self, and_false, false_and, Nat.zero_le, eq_self, decide_true, decide_false, Rf.enD_map, Rf.shares_mapF, Rf.ix_t0, Rf.ix_t1, Rf.ix_t2, Rf.ix_t3, Rf.ix_t4, Rf.ix_l0, Rf.ix_l1, Rf.ix_l2, Rf.ix_l3, Rf.ix_l4, List.getElem?_cons_zero, List.getElem?_cons_succ, Option.bind_some, Option.bind_none, Option.map_some, Option.map_none, List.map_cons, List.map_nil, List.cons_append, List.nil_append, List.append_nil, List.replicate, List.length_cons, List.length_nil, if_true, if_false, reduceCtorEq, Bool.false_eq_true, Bool.not_true, Bool.not_false, Bool.or_true, Bool.true_or, Bool.or_false, Bool.false_or, Bool.and_true, Bool.true_and, Bool.and_false, Bool.false_and, List.map_append]
end K67

set_option Elab.async false
set_option linter.all false
set_option maxRecDepth 100000
set_option maxHeartbeats 4000000
namespace K67
open PySem PySem.Spec PyProof.Rows L2 Rf
/-! ### the best order is a best order -/
theorem z_of {js : List Job} {z : JZ} (h : z ∈ js.zipIdx) : z.2 < js.length ∧ z.1 = jat js z.2 := by
  rw [List.mem_zipIdx_iff_getElem?] at h
  obtain ⟨h, e⟩ := List.getElem?_eq_some_iff.mp h
  exact ⟨h, by simp [jat, h, ← e]⟩
theorem bestZ_perm (js : List Job) : (bestZ js).Perm js.zipIdx :=
  ((List.mergeSort_perm _ _).append (List.mergeSort_perm _ _)).trans (List.filter_append_perm _ _)
theorem zip_snd (js : List Job) : js.zipIdx.map (·.2) = List.range js.length := by
  apply List.ext_getElem?
  intro i
  by_cases h : i < js.length <;> simp [h]
theorem best_perm (js : List Job) : (best js).Perm (List.range js.length) := by
  rw [← zip_snd]
  exact (bestZ_perm js).map _
theorem lt2 {a b c d : Int} : [a, b] < [c, d] ↔ a < c ∨ a = c ∧ b < d := by
  rw [List.cons_lt_cons_iff, List.cons_lt_cons_iff]
  simp
theorem lt3 {a b e c d f : Int} : [a, b, e] < [c, d, f] ↔ a < c ∨ a = c ∧ (b < d ∨ b = d ∧ e < f) := by
  rw [List.cons_lt_cons_iff, List.cons_lt_cons_iff, List.cons_lt_cons_iff]
  simp
theorem srt_pair (e : JZ → List Int) (xs : List JZ) : (xs.mergeSort (byE e)).Pairwise fun a b => ¬ e b < e a := by
  have tr : ∀ a b c : JZ, byE e a b = true → byE e b c = true → byE e a c = true := by
    intro a b c h1 h2
    simp only [byE, Bool.not_eq_true', decide_eq_false_iff_not] at h1 h2 ⊢
    exact fun h => List.not_lt.mpr (List.le_trans (List.not_lt.mp h1) (List.not_lt.mp h2)) h
  have tot : ∀ a b : JZ, (byE e a b || byE e b a) = true := by
    intro a b
    unfold byE
    by_cases h : e b < e a
    · have : ¬ e a < e b := List.lt_asymm h
      simp [this]
    · simp [h]
  exact (List.pairwise_mergeSort tr tot xs).imp fun h => by simpa [byE] using h
theorem ne_pair {xs : List JZ} (h : (xs.map (·.2)).Nodup) : xs.Pairwise fun a b => a.2 ≠ b.2 := by
  rw [List.Nodup, List.pairwise_map] at h
  exact h
theorem part_nd (js : List Job) (p : JZ → Bool) (le : JZ → JZ → Bool) : (((js.zipIdx.filter p).mergeSort le).map (·.2)).Nodup := by
  have h1 : (js.zipIdx.map (·.2)).Nodup := by rw [zip_snd]; exact List.nodup_range
  have h2 : ((js.zipIdx.filter p).map (·.2)).Nodup := h1.sublist (List.filter_sublist.map _)
  exact ((List.mergeSort_perm _ le).map _).nodup_iff.mpr h2
theorem quick_in {js : List Job} {z : JZ} (h : z ∈ (js.zipIdx.filter qz).mergeSort (byE eQ)) : z.1.1 ≤ z.1.2 := by
  have := (List.mem_filter.mp ((List.mergeSort_perm _ _).subset h)).2
  simpa [qz] using this
theorem slow_in {js : List Job} {z : JZ} (h : z ∈ (js.zipIdx.filter fun z => !qz z).mergeSort (byE eS)) : z.1.2 < z.1.1 := by
  have := (List.mem_filter.mp ((List.mergeSort_perm _ _).subset h)).2
  simpa [qz] using this
theorem keys_eq (js : List Job) : js.zipIdx.mergeSort (byE eK) = bestZ js := by
  refine sort_is eK (bestZ_perm js) ?_
  unfold bestZ
  rw [List.pairwise_append]
  refine ⟨?_, ?_, fun a ha b hb => ?_⟩
  · refine List.Pairwise.imp_of_mem (fun {a b} ha hb h => ?_) ((srt_pair eQ _).and (ne_pair (part_nd js qz (byE eQ))))
    have qa := quick_in ha
    have qb := quick_in hb
    unfold eK qz
    unfold eQ at h
    rw [lt2] at h
    simp only [qa, qb, decide_true, if_true]
    rw [lt3]
    omega
  · refine List.Pairwise.imp_of_mem (fun {a b} ha hb h => ?_) ((srt_pair eS _).and (ne_pair (part_nd js _ (byE eS))))
    have qa := slow_in ha
    have qb := slow_in hb
    have qa' : ¬ a.1.1 ≤ a.1.2 := by omega
    have qb' : ¬ b.1.1 ≤ b.1.2 := by omega
    unfold eK qz
    unfold eS at h
    rw [lt2] at h
    simp only [qa', qb', decide_false, if_false, Bool.false_eq_true]
    rw [lt3]
    omega
  · have qa := quick_in ha
    have qb := slow_in hb
    have qb' : ¬ b.1.1 ≤ b.1.2 := by omega
    unfold eK qz
    simp only [qa, qb', decide_true, decide_false, if_true, if_false, Bool.false_eq_true]
    rw [lt3]
    omega
theorem best_jobs (js : List Job) : (best js).map (jat js) = (bestZ js).map (·.1) := by
  unfold best
  rw [List.map_map]
  exact List.map_congr_left fun z hz => (z_of ((bestZ_perm js).subset hz)).2.symm
theorem best_JR (js : List Job) : ((best js).map (jat js)).Pairwise JR := by
  rw [best_jobs, List.pairwise_map]
  unfold bestZ
  rw [List.pairwise_append]
  refine ⟨?_, ?_, fun a ha b hb => ?_⟩
  · refine List.Pairwise.imp_of_mem (fun {a b} ha hb h => ?_) (srt_pair eQ _)
    have qa := quick_in ha
    unfold eQ at h
    rw [lt2] at h
    exact .inl ⟨qa, .inr (by omega)⟩
  · refine List.Pairwise.imp_of_mem (fun {a b} ha hb h => ?_) (srt_pair eS _)
    have qa := slow_in ha
    have qb := slow_in hb
    unfold eS at h
    rw [lt2] at h
    exact .inr ⟨qa, qb, by omega⟩
  · exact .inl ⟨quick_in ha, .inl (slow_in hb)⟩
theorem NN.order {js : List Job} (hn : NN js) {o : List Nat} (ho : ∀ x ∈ o, x < js.length) : NN (o.map (jat js)) := by
  intro j hj
  obtain ⟨x, hx, rfl⟩ := List.mem_map.mp hj
  have h := ho x hx
  have : jat js x = js[x] := by simp [jat, h]
  rw [this]
  exact hn _ (List.getElem_mem h)
theorem perm_lt {n : Nat} {o : List Nat} (h : o.Perm (List.range n)) : ∀ x ∈ o, x < n := fun x hx => List.mem_range.mp (h.subset hx)
theorem best_least {js : List Job} (hn : NN js) {o : List Nat} (h : o.Perm (List.range js.length)) : F ((best js).map (jat js)) ≤ F (o.map (jat js)) :=
  johnson (((best_perm js).trans h.symm).map _) (best_JR js) (hn.order (perm_lt (best_perm js)))
/-- a job more -/
theorem best_more {js : List Job} (hn : NN js) (c : Nat) : F ((best (js.take c)).map (jat (js.take c))) ≤ F ((best js).map (jat js)) := by
  have hn' : NN (js.take c) := fun j hj => hn j (List.mem_of_mem_take hj)
  let o := (best js).filter fun x => decide (x < (js.take c).length)
  have hp : o.Perm (List.range (js.take c).length) := by
    have h1 := (best_perm js).filter fun x => decide (x < (js.take c).length)
    have h2 : (List.range js.length).filter (fun x => decide (x < (js.take c).length)) = List.range (js.take c).length := by
      have hl : (js.take c).length ≤ js.length := by rw [List.length_take]; omega
      generalize (js.take c).length = a at hl
      generalize js.length = b at hl
      induction b with
      | zero => have : a = 0 := by omega
                subst this; rfl
      | succ b ih =>
        by_cases h : a ≤ b
        · rw [List.range_succ, List.filter_append, ih h]
          simp
          omega
        · have : a = b + 1 := by omega
          subst this
          exact List.filter_eq_self.mpr fun x hx => decide_eq_true (List.mem_range.mp hx)
    rw [h2] at h1
    exact h1
  have h1 := best_least hn' hp
  have h2 : o.map (jat (js.take c)) = o.map (jat js) := by
    refine List.map_congr_left fun x hx => ?_
    have := of_decide_eq_true (List.mem_filter.mp hx).2
    rw [List.length_take] at this
    unfold jat
    rw [List.getD_eq_getElem?_getD, List.getD_eq_getElem?_getD, List.getElem?_take_of_lt (by omega)]
  rw [h2] at h1
  refine Int.le_trans h1 (F_sub (List.filter_sublist.map _) (hn.order (perm_lt (best_perm js))))
/-! ### orders gone through -/
theorem nodup_len : ∀ (n : Nat) (l : List Nat), l.Nodup → (∀ x ∈ l, x < n) → l.length ≤ n ∧ (l.length = n → l.Perm (List.range n))
  | 0, l, _, h => by
    have : l = [] := List.eq_nil_iff_forall_not_mem.mpr fun x hx => absurd (h x hx) (by omega)
    subst this
    exact ⟨Nat.le_refl _, fun _ => .nil⟩
  | n + 1, l, hd, h => by
    by_cases hn : n ∈ l
    · have hp := List.perm_cons_erase hn
      have hd' : (l.erase n).Nodup := hd.erase n
      have h' : ∀ x ∈ l.erase n, x < n := fun x hx => by
        have h1 := h x (List.mem_of_mem_erase hx)
        have h2 : x ≠ n := fun e => by
          subst e
          exact (hd.not_mem_erase) hx
        omega
      obtain ⟨i1, i2⟩ := nodup_len n _ hd' h'
      have hl := List.length_erase_of_mem hn
      have hpos : 0 < l.length := List.length_pos_of_mem hn
      refine ⟨by omega, fun e => ?_⟩
      rw [List.range_succ]
      exact hp.trans (((i2 (by omega)).cons n).trans (List.perm_append_singleton n _).symm)
    · have h' : ∀ x ∈ l, x < n := fun x hx => by
        have h1 := h x hx
        have h2 : x ≠ n := fun e => hn (by rw [← e]; exact hx)
        omega
      obtain ⟨i1, i2⟩ := nodup_len n l hd h'
      exact ⟨by omega, fun e => by omega⟩
theorem ords_perm {n : Nat} {o : List Nat} (h : o ∈ ords n n) : o.Perm (List.range n) := by
  obtain ⟨h1, h2, h3⟩ := ord_of n n o h
  exact (nodup_len n o h2 h3).2 h1
end K67

set_option Elab.async false
set_option linter.all false
set_option maxRecDepth 100000
set_option maxHeartbeats 4000000
namespace K67
open PySem PySem.Spec PyProof.Rows L2 Rf
theorem okJ (js : List Job) : okD 60 (.lst (js.map jobD)) = true := by
  simp [okD, jobD, List.all_eq_true]
theorem okN (o : List Nat) : okD 60 (.lst (o.map natD)) = true := by
  simp [okD, natD, List.all_eq_true]
theorem smN (o : List Nat) (h : o.length ≤ 1000000) : okSm 1 (.lst (o.map natD)) = true := by
  simp [okSm, natD, List.all_eq_true, h]
theorem best_len (js : List Job) : (best js).length = js.length := by
  rw [(best_perm js).length_eq, List.length_range]
/-- one order -/
theorem turn_order {k : Nat} {js : List Job} (hn : NN js) (hl : js.length ≤ 1000) {o : List Nat} (ho : o.Perm (List.range js.length)) {S1 S2 S3 S5 S6 S7 S8 S9 S11 S15 : Option M} :
    turnS (run tab gs (k + 4)) gs (.nm 12) b_law_2 [12, 13, 14] (ordD o) [S1, S2, S3, S5, some (.sh (.lst (js.map jobD))), S6, S7, S8, S9, S11, some (.sh (.int (F ((best js).map (jat js))))), S15, none, none, none, none] =
      some (.nx [S1, S2, S3, S5, some (.sh (.lst (js.map jobD))), S6, S7, S8, S9, S11, some (.sh (.int (F ((best js).map (jat js))))), S15, none, none, none, none]) := by
  have hlt := perm_lt ho
  have hol : o.length ≤ 1000 := by rw [ho.length_eq, List.length_range]; exact hl
  have h1 := run_finish (n := k + 4) (by omega) js o hlt
  have h2 := run_lfinish (n := k + 4) (by omega) js o hlt hol
  rw [LF_eq _ (hn.order hlt)] at h2
  have h3 : ¬ F (o.map (jat js)) < F ((best js).map (jat js)) := by
    have := best_least hn ho
    omega
  have h4 := run_same (T := tab) (G := gs) rfl (n := k + 4) (m := 0) (.int (F (o.map (jat js)))) rfl (by omega)
  have h5 := eqM_refl (okN o)
  simp only [b_law_2, ordD, h5, Rf.ev_var, Rf.ev_gl, Rf.ev_non, Rf.ev_bl, Rf.ev_int, Rf.ev_str, Rf.ev_bin, Rf.ev_neg, Rf.ev_not, Rf.ev_and, Rf.ev_or, Rf.ev_cmp, Rf.ev_chain, Rf.ev_ite, Rf.ev_blt, Rf.ev_isi, Rf.ev_call, Rf.ev_ix, Rf.ev_sl, Rf.ev_rev, Rf.ev_lst, Rf.ev_tup, Rf.ev_lrng, Rf.ev_fl, Rf.evs_nil, Rf.evs_cons, Rf.evT_yes, Rf.evT_e, Rf.evT_not, Rf.evT_and, Rf.evT_or, Rf.evI_it, Rf.evI_r1, Rf.evI_r2, Rf.evI_en, Rf.evI_zp, Rf.evI_rv, Rf.ex_set, Rf.ex_setO, Rf.ex_unp, Rf.ex_par, Rf.ex_aug, Rf.ex_app, Rf.ex_ifs, Rf.ex_ret, Rf.ex_retV, Rf.ex_retN, Rf.ex_brk, Rf.ex_cnt, Rf.ex_pass, Rf.ex_drop, Rf.ex_shr, Rf.ev_comp, Rf.ex_fr, Rf.exs_nil, Rf.exs_cons, Rf.seqF_nx, Rf.seqF_rt, Rf.seqF_bk, Rf.seqF_ct, Rf.gt, Rf.st, Rf.clr, Rf.puts, Rf.bindT, Rf.retM, Rf.clrF, Rf.turnS_eq, Rf.compT_eq, Rf.M.share, Rf.M.shares, Rf.bltM, Rf.binD, Rf.augD, Rf.addD, Rf.mulD, Rf.cmpD, Rf.eqM_int, Rf.eqM_bl, Rf.eqM_str, Rf.eqM_non, Rf.truD, Rf.isiD, Rf.itD, Rf.lstD, Rf.nbM, Rf.isNon, Rf.isN, Rf.entry, Rf.big, Rf.bigI, true_or, or_true, false_or, or_false, and_true, true_and, and_self, and_false, false_and, Nat.zero_le, eq_self, decide_true, decide_false, Rf.enD_map, Rf.shares_mapF, Rf.ix_t0, Rf.ix_t1, Rf.ix_t2, Rf.ix_t3, Rf.ix_t4, Rf.ix_l0, Rf.ix_l1, Rf.ix_l2, Rf.ix_l3, Rf.ix_l4, List.getElem?_cons_zero, List.getElem?_cons_succ, Option.bind_some, Option.bind_none, Option.map_some, Option.map_none, List.map_cons, List.map_nil, List.cons_append, List.nil_append, List.append_nil, List.replicate, List.length_cons, List.length_nil, if_true, if_false, reduceCtorEq, Bool.false_eq_true, Bool.not_true, Bool.not_false, Bool.or_true, Bool.true_or, Bool.or_false, Bool.false_or, Bool.and_true, Bool.true_and, Bool.and_false, Bool.false_and, h1, h2, h3, h4]
/-- asked twice -/
theorem turn_twice {k : Nat} {js : List Job} (hl : js.length ≤ 1000) {x : D} {S1 S2 S3 S5 S6 : Option M} :
    turnS (run tab gs (k + 4)) gs (.nm 8) b_law_1 [8, 9] x [S1, S2, S3, S5, some (.sh (.lst (js.map jobD))), S6, some (.sh (.lst (js.map jobD))), some (.sh (.lst ((best js).map natD))), none, none, none, none, none, none, none, none] =
      some (.nx [S1, S2, S3, S5, some (.sh (.lst (js.map jobD))), S6, some (.sh (.lst (js.map jobD))), some (.sh (.lst ((best js).map natD))), none, none, none, none, none, none, none, none]) := by
  have hb := best_len js
  have h1 := run_best (n := k + 4) (by omega) js hl
  have h2 := run_same (T := tab) (G := gs) rfl (n := k + 4) (m := 1) (.lst ((best js).map natD)) (smN _ (by omega)) (by omega)
  have h3 := eqM_refl (okJ js)
  have h4 : (best js).length < 1000000 := by omega
  simp only [b_law_1, h3, Rf.ev_var, Rf.ev_gl, Rf.ev_non, Rf.ev_bl, Rf.ev_int, Rf.ev_str, Rf.ev_bin, Rf.ev_neg, Rf.ev_not, Rf.ev_and, Rf.ev_or, Rf.ev_cmp, Rf.ev_chain, Rf.ev_ite, Rf.ev_blt, Rf.ev_isi, Rf.ev_call, Rf.ev_ix, Rf.ev_sl, Rf.ev_rev, Rf.ev_lst, Rf.ev_tup, Rf.ev_lrng, Rf.ev_fl, Rf.evs_nil, Rf.evs_cons, Rf.evT_yes, Rf.evT_e, Rf.evT_not, Rf.evT_and, Rf.evT_or, Rf.evI_it, Rf.evI_r1, Rf.evI_r2, Rf.evI_en, Rf.evI_zp, Rf.evI_rv, Rf.ex_set, Rf.ex_setO, Rf.ex_unp, Rf.ex_par, Rf.ex_aug, Rf.ex_app, Rf.ex_ifs, Rf.ex_ret, Rf.ex_retV, Rf.ex_retN, Rf.ex_brk, Rf.ex_cnt, Rf.ex_pass, Rf.ex_drop, Rf.ex_shr, Rf.ev_comp, Rf.ex_fr, Rf.exs_nil, Rf.exs_cons, Rf.seqF_nx, Rf.seqF_rt, Rf.seqF_bk, Rf.seqF_ct, Rf.gt, Rf.st, Rf.clr, Rf.puts, Rf.bindT, Rf.retM, Rf.clrF, Rf.turnS_eq, Rf.compT_eq, Rf.M.share, Rf.M.shares, Rf.bltM, Rf.binD, Rf.augD, Rf.addD, Rf.mulD, Rf.cmpD, Rf.eqM_int, Rf.eqM_bl, Rf.eqM_str, Rf.eqM_non, Rf.truD, Rf.isiD, Rf.itD, Rf.lstD, Rf.nbM, Rf.isNon, Rf.isN, Rf.entry, Rf.big, Rf.bigI, true_or, or_true, false_or, or_false, and_true, true_and, and_self, and_false, false_and, Nat.zero_le, eq_self, decide_true, decide_false, Rf.enD_map, Rf.shares_mapF, Rf.ix_t0, Rf.ix_t1, Rf.ix_t2, Rf.ix_t3, Rf.ix_t4, Rf.ix_l0, Rf.ix_l1, Rf.ix_l2, Rf.ix_l3, Rf.ix_l4, List.getElem?_cons_zero, List.getElem?_cons_succ, Option.bind_some, Option.bind_none, Option.map_some, Option.map_none, List.map_cons, List.map_nil, List.cons_append, List.nil_append, List.append_nil, List.replicate, List.length_cons, List.length_nil, if_true, if_false, reduceCtorEq, Bool.false_eq_true, Bool.not_true, Bool.not_false, Bool.or_true, Bool.true_or, Bool.or_false, Bool.false_or, Bool.and_true, Bool.true_and, Bool.and_false, Bool.false_and, h1, h2, h4, List.length_map]
theorem mod3 (a : Int) : ∃ b : Int, 0 < b ∧ ixD (.lst [.int 4, .int 20, .int 1001]) (.int (a.fmod 3)) = some (.int b) := by
  obtain ⟨h1, h2⟩ := int_mod_nn (a := a) (b := 3) (by decide)
  have : a.fmod 3 = 0 ∨ a.fmod 3 = 1 ∨ a.fmod 3 = 2 := by omega
  rcases this with e | e | e <;> rw [e]
  · exact ⟨4, by decide, rfl⟩
  · exact ⟨20, by decide, rfl⟩
  · exact ⟨1001, by decide, rfl⟩
end K67

set_option Elab.async false
set_option linter.all false
set_option maxRecDepth 100000
set_option maxHeartbeats 4000000
namespace K67
open PySem PySem.Spec PyProof.Rows L2 Rf
theorem int_ixs {xs : List Int} {m : Nat} (h : xs.length = m) (i : Nat) (hi : i < m) : (xs.map fun x => D.int x)[i]? = some (.int (xs.getD i 0)) := by
  have : i < xs.length := by omega
  simp [this]
theorem tail_at {k : Nat} {js : List Job} (hn : NN js) (hl : js.length ≤ 1000) {xs : List Int} {d2 d3 most : Int} (h2 : (xs.map fun x => D.int x)[2]? = some (.int d2)) (h3 : (xs.map fun x => D.int x)[3]? = some (.int d3)) (hm : 0 < most) {S0 S1 S6 S7 : Option M} {os : List (List Nat)} (ho : ∀ o ∈ os, o.Perm (List.range js.length)) :
    Option.map (clrF [1, 2, 3, 4, 6, 7, 8, 9, 10, 11, 12, 13, 14, 15]) (exs (run tab gs (k + 4)) gs (dropS 10 b_law_3) [S0, S1, some (.sh (.lst (xs.map fun x => D.int x))), some (.sh (.int most)), some (.sh (.lst (js.map jobD))), none, S6, S7, none, none, some (.sh (.int (F ((best js).map (jat js))))), some (.sh (.lst (os.map ordD))), none, none, none, none]) =
      some (.nx [S0, none, none, none, none, none, none, none, none, none, none, none, none, none, none, none]) := by
  have m0 : most ≠ 0 := by omega
  simp only [b_law_3, dropS]
  apply map_step
  · simp only [Rf.ev_var, Rf.ev_gl, Rf.ev_non, Rf.ev_bl, Rf.ev_int, Rf.ev_str, Rf.ev_bin, Rf.ev_neg, Rf.ev_not, Rf.ev_and, Rf.ev_or, Rf.ev_cmp, Rf.ev_chain, Rf.ev_ite, Rf.ev_blt, Rf.ev_isi, Rf.ev_call, Rf.ev_ix, Rf.ev_sl, Rf.ev_rev, Rf.ev_lst, Rf.ev_tup, Rf.ev_lrng, Rf.ev_fl, Rf.evs_nil, Rf.evs_cons, Rf.evT_yes, Rf.evT_e, Rf.evT_not, Rf.evT_and, Rf.evT_or, Rf.evI_it, Rf.evI_r1, Rf.evI_r2, Rf.evI_en, Rf.evI_zp, Rf.evI_rv, Rf.ex_set, Rf.ex_setO, Rf.ex_unp, Rf.ex_par, Rf.ex_aug, Rf.ex_app, Rf.ex_ifs, Rf.ex_ret, Rf.ex_retV, Rf.ex_retN, Rf.ex_brk, Rf.ex_cnt, Rf.ex_pass, Rf.ex_drop, Rf.ex_shr, Rf.ev_comp, Rf.ex_fr, Rf.exs_nil, Rf.exs_cons, Rf.seqF_nx, Rf.seqF_rt, Rf.seqF_bk, Rf.seqF_ct, Rf.gt, Rf.st, Rf.clr, Rf.puts, Rf.bindT, Rf.retM, Rf.clrF, Rf.turnS_eq, Rf.compT_eq, Rf.M.share, Rf.M.shares, Rf.bltM, Rf.binD, Rf.augD, Rf.addD, Rf.mulD, Rf.cmpD, Rf.eqM_int, Rf.eqM_bl, Rf.eqM_str, Rf.eqM_non, Rf.truD, Rf.isiD, Rf.itD, Rf.lstD, Rf.nbM, Rf.isNon, Rf.isN, Rf.entry, Rf.big, Rf.bigI, true_or, or_true, false_or, or_false, and_true, true_and, and_self, and_false, false_and, Nat.zero_le, eq_self, decide_true, decide_false, Rf.enD_map, Rf.shares_mapF, Rf.ix_t0, Rf.ix_t1, Rf.ix_t2, Rf.ix_t3, Rf.ix_t4, Rf.ix_l0, Rf.ix_l1, Rf.ix_l2, Rf.ix_l3, Rf.ix_l4, List.getElem?_cons_zero, List.getElem?_cons_succ, Option.bind_some, Option.bind_none, Option.map_some, Option.map_none, List.map_cons, List.map_nil, List.cons_append, List.nil_append, List.append_nil, List.replicate, List.length_cons, List.length_nil, if_true, if_false, reduceCtorEq, Bool.false_eq_true, Bool.not_true, Bool.not_false, Bool.or_true, Bool.true_or, Bool.or_false, Bool.false_or, Bool.and_true, Bool.true_and, Bool.and_false, Bool.false_and]
    rfl
  apply map_step
  · simp only [Rf.ev_var, Rf.ev_gl, Rf.ev_non, Rf.ev_bl, Rf.ev_int, Rf.ev_str, Rf.ev_bin, Rf.ev_neg, Rf.ev_not, Rf.ev_and, Rf.ev_or, Rf.ev_cmp, Rf.ev_chain, Rf.ev_ite, Rf.ev_blt, Rf.ev_isi, Rf.ev_call, Rf.ev_ix, Rf.ev_sl, Rf.ev_rev, Rf.ev_lst, Rf.ev_tup, Rf.ev_lrng, Rf.ev_fl, Rf.evs_nil, Rf.evs_cons, Rf.evT_yes, Rf.evT_e, Rf.evT_not, Rf.evT_and, Rf.evT_or, Rf.evI_it, Rf.evI_r1, Rf.evI_r2, Rf.evI_en, Rf.evI_zp, Rf.evI_rv, Rf.ex_set, Rf.ex_setO, Rf.ex_unp, Rf.ex_par, Rf.ex_aug, Rf.ex_app, Rf.ex_ifs, Rf.ex_ret, Rf.ex_retV, Rf.ex_retN, Rf.ex_brk, Rf.ex_cnt, Rf.ex_pass, Rf.ex_drop, Rf.ex_shr, Rf.ev_comp, Rf.ex_fr, Rf.exs_nil, Rf.exs_cons, Rf.seqF_nx, Rf.seqF_rt, Rf.seqF_bk, Rf.seqF_ct, Rf.gt, Rf.st, Rf.clr, Rf.puts, Rf.bindT, Rf.retM, Rf.clrF, Rf.turnS_eq, Rf.compT_eq, Rf.M.share, Rf.M.shares, Rf.bltM, Rf.binD, Rf.augD, Rf.addD, Rf.mulD, Rf.cmpD, Rf.eqM_int, Rf.eqM_bl, Rf.eqM_str, Rf.eqM_non, Rf.truD, Rf.isiD, Rf.itD, Rf.lstD, Rf.nbM, Rf.isNon, Rf.isN, Rf.entry, Rf.big, Rf.bigI, true_or, or_true, false_or, or_false, and_true, true_and, and_self, and_false, false_and, Nat.zero_le, eq_self, decide_true, decide_false, Rf.enD_map, Rf.shares_mapF, Rf.ix_t0, Rf.ix_t1, Rf.ix_t2, Rf.ix_t3, Rf.ix_t4, Rf.ix_l0, Rf.ix_l1, Rf.ix_l2, Rf.ix_l3, Rf.ix_l4, List.getElem?_cons_zero, List.getElem?_cons_succ, Option.bind_some, Option.bind_none, Option.map_some, Option.map_none, List.map_cons, List.map_nil, List.cons_append, List.nil_append, List.append_nil, List.replicate, List.length_cons, List.length_nil, if_true, if_false, reduceCtorEq, Bool.false_eq_true, Bool.not_true, Bool.not_false, Bool.or_true, Bool.true_or, Bool.or_false, Bool.false_or, Bool.and_true, Bool.true_and, Bool.and_false, Bool.false_and]
    rw [loopS_stay]
    intro o h
    exact turn_order hn hl (ho o h)
  have hsl : slM (.lst (js.map jobD)) (.int 0) (.int 9) = some (.od ((js.take 9).map jobD)) := by
    have := sl_lst (xs := js.map jobD) (a := 0) (b := 9)
    rw [Nat.zero_min, cut_take, ← List.map_take] at this
    exact this
  obtain ⟨x, hx⟩ : ∃ x : Job, x = (d2.fmod most, d3.fmod most) := ⟨_, rfl⟩
  obtain ⟨ks, hks⟩ : ∃ ks : List Job, ks = js.take 9 ++ [x] := ⟨_, rfl⟩
  have hxn : 0 ≤ x.1 ∧ 0 ≤ x.2 := by rw [hx]; exact ⟨(int_mod_nn hm).1, (int_mod_nn hm).1⟩
  have hkn : NN ks := fun j hj => by
    rw [hks] at hj
    rcases List.mem_append.mp hj with h | h
    · exact hn j (List.mem_of_mem_take h)
    · rw [List.mem_singleton.mp h]; exact hxn
  have ht9 : (js.take 9).length ≤ 9 := by rw [List.length_take]; omega
  have hkl : ks.length ≤ 1000 := by rw [hks, List.length_append, List.length_singleton]; omega
  have ht : js.take 9 = ks.take (js.take 9).length := by rw [hks, List.take_left]
  apply map_step
  · simp (disch := omega) only [Rf.ev_var, Rf.ev_gl, Rf.ev_non, Rf.ev_bl, Rf.ev_int, Rf.ev_str, Rf.ev_bin, Rf.ev_neg, Rf.ev_not, Rf.ev_and, Rf.ev_or, Rf.ev_cmp, Rf.ev_chain, Rf.ev_ite, Rf.ev_blt, Rf.ev_isi, Rf.ev_call, Rf.ev_ix, Rf.ev_sl, Rf.ev_rev, Rf.ev_lst, Rf.ev_tup, Rf.ev_lrng, Rf.ev_fl, Rf.evs_nil, Rf.evs_cons, Rf.evT_yes, Rf.evT_e, Rf.evT_not, Rf.evT_and, Rf.evT_or, Rf.evI_it, Rf.evI_r1, Rf.evI_r2, Rf.evI_en, Rf.evI_zp, Rf.evI_rv, Rf.ex_set, Rf.ex_setO, Rf.ex_unp, Rf.ex_par, Rf.ex_aug, Rf.ex_app, Rf.ex_ifs, Rf.ex_ret, Rf.ex_retV, Rf.ex_retN, Rf.ex_brk, Rf.ex_cnt, Rf.ex_pass, Rf.ex_drop, Rf.ex_shr, Rf.ev_comp, Rf.ex_fr, Rf.exs_nil, Rf.exs_cons, Rf.seqF_nx, Rf.seqF_rt, Rf.seqF_bk, Rf.seqF_ct, Rf.gt, Rf.st, Rf.clr, Rf.puts, Rf.bindT, Rf.retM, Rf.clrF, Rf.turnS_eq, Rf.compT_eq, Rf.M.share, Rf.M.shares, Rf.bltM, Rf.binD, Rf.augD, Rf.addD, Rf.mulD, Rf.cmpD, Rf.eqM_int, Rf.eqM_bl, Rf.eqM_str, Rf.eqM_non, Rf.truD, Rf.isiD, Rf.itD, Rf.lstD, Rf.nbM, Rf.isNon, Rf.isN, Rf.entry, Rf.big, Rf.bigI, true_or, or_true, false_or, or_false, and_true, true_and, and_self, and_false, false_and, Nat.zero_le, eq_self, decide_true, decide_false, Rf.enD_map, Rf.shares_mapF, Rf.ix_t0, Rf.ix_t1, Rf.ix_t2, Rf.ix_t3, Rf.ix_t4, Rf.ix_l0, Rf.ix_l1, Rf.ix_l2, Rf.ix_l3, Rf.ix_l4, List.getElem?_cons_zero, List.getElem?_cons_succ, Option.bind_some, Option.bind_none, Option.map_some, Option.map_none, List.map_cons, List.map_nil, List.cons_append, List.nil_append, List.append_nil, List.replicate, List.length_cons, List.length_nil, if_true, if_false, reduceCtorEq, Bool.false_eq_true, Bool.not_true, Bool.not_false, Bool.or_true, Bool.true_or, Bool.or_false, Bool.false_or, Bool.and_true, Bool.true_and, Bool.and_false, Bool.false_and, if_pos, Rf.rngD_nat, hsl, h2, h3, List.length_map]
    rfl
  have he : (js.take 9).map jobD ++ [.tup [.int (d2.fmod most), .int (d3.fmod most)]] = ks.map jobD := by
    rw [hks, hx, List.map_append]; rfl
  rw [he]
  apply map_step
  · have r1 := run_best (n := k + 4) (by omega) ks hkl
    have r2 := run_finish (n := k + 4) (by omega) ks (best ks) (perm_lt (best_perm ks))
    have r3 := run_best (n := k + 4) (by omega) (js.take 9) (by omega)
    have r4 := run_finish (n := k + 4) (by omega) (js.take 9) (best (js.take 9)) (perm_lt (best_perm _))
    have r5 := best_more hkn (js.take 9).length
    rw [← ht] at r5
    have r6 : ¬ F ((best ks).map (jat ks)) < F ((best (js.take 9)).map (jat (js.take 9))) := by omega
    simp only [Rf.ev_var, Rf.ev_gl, Rf.ev_non, Rf.ev_bl, Rf.ev_int, Rf.ev_str, Rf.ev_bin, Rf.ev_neg, Rf.ev_not, Rf.ev_and, Rf.ev_or, Rf.ev_cmp, Rf.ev_chain, Rf.ev_ite, Rf.ev_blt, Rf.ev_isi, Rf.ev_call, Rf.ev_ix, Rf.ev_sl, Rf.ev_rev, Rf.ev_lst, Rf.ev_tup, Rf.ev_lrng, Rf.ev_fl, Rf.evs_nil, Rf.evs_cons, Rf.evT_yes, Rf.evT_e, Rf.evT_not, Rf.evT_and, Rf.evT_or, Rf.evI_it, Rf.evI_r1, Rf.evI_r2, Rf.evI_en, Rf.evI_zp, Rf.evI_rv, Rf.ex_set, Rf.ex_setO, Rf.ex_unp, Rf.ex_par, Rf.ex_aug, Rf.ex_app, Rf.ex_ifs, Rf.ex_ret, Rf.ex_retV, Rf.ex_retN, Rf.ex_brk, Rf.ex_cnt, Rf.ex_pass, Rf.ex_drop, Rf.ex_shr, Rf.ev_comp, Rf.ex_fr, Rf.exs_nil, Rf.exs_cons, Rf.seqF_nx, Rf.seqF_rt, Rf.seqF_bk, Rf.seqF_ct, Rf.gt, Rf.st, Rf.clr, Rf.puts, Rf.bindT, Rf.retM, Rf.clrF, Rf.turnS_eq, Rf.compT_eq, Rf.M.share, Rf.M.shares, Rf.bltM, Rf.binD, Rf.augD, Rf.addD, Rf.mulD, Rf.cmpD, Rf.eqM_int, Rf.eqM_bl, Rf.eqM_str, Rf.eqM_non, Rf.truD, Rf.isiD, Rf.itD, Rf.lstD, Rf.nbM, Rf.isNon, Rf.isN, Rf.entry, Rf.big, Rf.bigI, true_or, or_true, false_or, or_false, and_true, true_and, and_self, and_false, false_and, Nat.zero_le, eq_self, decide_true, decide_false, Rf.enD_map, Rf.shares_mapF, Rf.ix_t0, Rf.ix_t1, Rf.ix_t2, Rf.ix_t3, Rf.ix_t4, Rf.ix_l0, Rf.ix_l1, Rf.ix_l2, Rf.ix_l3, Rf.ix_l4, List.getElem?_cons_zero, List.getElem?_cons_succ, Option.bind_some, Option.bind_none, Option.map_some, Option.map_none, List.map_cons, List.map_nil, List.cons_append, List.nil_append, List.append_nil, List.replicate, List.length_cons, List.length_nil, if_true, if_false, reduceCtorEq, Bool.false_eq_true, Bool.not_true, Bool.not_false, Bool.or_true, Bool.true_or, Bool.or_false, Bool.false_or, Bool.and_true, Bool.true_and, Bool.and_false, Bool.false_and, hsl, r1, r2, r3, r4, r6]
    rfl
  simp only [Rf.ev_var, Rf.ev_gl, Rf.ev_non, Rf.ev_bl, Rf.ev_int, Rf.ev_str, Rf.ev_bin, Rf.ev_neg, Rf.ev_not, Rf.ev_and, Rf.ev_or, Rf.ev_cmp, Rf.ev_chain, Rf.ev_ite, Rf.ev_blt, Rf.ev_isi, Rf.ev_call, Rf.ev_ix, Rf.ev_sl, Rf.ev_rev, Rf.ev_lst, Rf.ev_tup, Rf.ev_lrng, Rf.ev_fl, Rf.evs_nil, Rf.evs_cons, Rf.evT_yes, Rf.evT_e, Rf.evT_not, Rf.evT_and, Rf.evT_or, Rf.evI_it, Rf.evI_r1, Rf.evI_r2, Rf.evI_en, Rf.evI_zp, Rf.evI_rv, Rf.ex_set, Rf.ex_setO, Rf.ex_unp, Rf.ex_par, Rf.ex_aug, Rf.ex_app, Rf.ex_ifs, Rf.ex_ret, Rf.ex_retV, Rf.ex_retN, Rf.ex_brk, Rf.ex_cnt, Rf.ex_pass, Rf.ex_drop, Rf.ex_shr, Rf.ev_comp, Rf.ex_fr, Rf.exs_nil, Rf.exs_cons, Rf.seqF_nx, Rf.seqF_rt, Rf.seqF_bk, Rf.seqF_ct, Rf.gt, Rf.st, Rf.clr, Rf.puts, Rf.bindT, Rf.retM, Rf.clrF, Rf.turnS_eq, Rf.compT_eq, Rf.M.share, Rf.M.shares, Rf.bltM, Rf.binD, Rf.augD, Rf.addD, Rf.mulD, Rf.cmpD, Rf.eqM_int, Rf.eqM_bl, Rf.eqM_str, Rf.eqM_non, Rf.truD, Rf.isiD, Rf.itD, Rf.lstD, Rf.nbM, Rf.isNon, Rf.isN, Rf.entry, Rf.big, Rf.bigI, true_or, or_true, false_or, or_false, and_true, true_and, and_self, and_false, false_and, Nat.zero_le, eq_self, decide_true, decide_false, Rf.enD_map, Rf.shares_mapF, Rf.ix_t0, Rf.ix_t1, Rf.ix_t2, Rf.ix_t3, Rf.ix_t4, Rf.ix_l0, Rf.ix_l1, Rf.ix_l2, Rf.ix_l3, Rf.ix_l4, List.getElem?_cons_zero, List.getElem?_cons_succ, Option.bind_some, Option.bind_none, Option.map_some, Option.map_none, List.map_cons, List.map_nil, List.cons_append, List.nil_append, List.append_nil, List.replicate, List.length_cons, List.length_nil, if_true, if_false, reduceCtorEq, Bool.false_eq_true, Bool.not_true, Bool.not_false, Bool.or_true, Bool.true_or, Bool.or_false, Bool.false_or, Bool.and_true, Bool.true_and, Bool.and_false, Bool.false_and]
theorem turn_at {k : Nat} (ns : List Int) (at_ : Nat) (lim : Int) (hl1 : 0 < lim) (hl2 : lim ≤ 11) (hl3 : ixD (.lst [.int 6, .int 11]) (.int (at_ : Int)) = some (.int lim)) (hat : ((at_ : Int) == 0) = true → lim = 6) :
    turnS (run tab gs (k + 4)) gs (.nm 1) b_law_3 [1, 2, 3, 4, 6, 7, 8, 9, 10, 11, 12, 13, 14, 15] (.int (at_ : Int)) [some (.sh (.scr ns)), none, none, none, none, none, none, none, none, none, none, none, none, none, none, none] =
      some (.nx [some (.sh (.scr ns)), none, none, none, none, none, none, none, none, none, none, none, none, none, none, none]) := by
  obtain ⟨c, hc⟩ := run_cell (T := tab) (G := gs) (n := k + 4) rfl (by omega) ns at_
  obtain ⟨xs, hx, hxl, hxb⟩ := run_numbers (T := tab) (G := gs) (n := k + 4) rfl (by omega) c 36 (by decide) 5040 (by decide) (by decide)
  have hd := int_ixs hxl
  generalize hdd : (fun i => xs.getD i 0) = d at *
  have hd : ∀ i, i < 36 → (xs.map fun x => D.int x)[i]? = some (.int (d i)) := fun i hi => by rw [hd i hi, ← hdd]
  obtain ⟨most, hm0, hm⟩ := mod3 (d 1)
  obtain ⟨q1, q2⟩ := int_mod_nn (a := d 0) hl1
  obtain ⟨n, hn⟩ : ∃ n : Nat, (d 0).fmod lim = n := ⟨((d 0).fmod lim).toNat, by omega⟩
  have hn11 : n < 11 := by omega
  obtain ⟨js, hjs⟩ : ∃ js : List Job, js = (List.range n).map fun k => ((d (4 + 2 * k)).fmod most, (d (5 + 2 * k)).fmod most) := ⟨_, rfl⟩
  have hjl : js.length = n := by simp [hjs]
  have hjn : NN js := fun j hj => by
    rw [hjs] at hj
    obtain ⟨k, _, rfl⟩ := List.mem_map.mp hj
    exact ⟨(int_mod_nn hm0).1, (int_mod_nn hm0).1⟩
  have m0 : most ≠ 0 := by omega
  have l0 : lim ≠ 0 := by omega
  have e36 : ((36 : Nat) : Int) = 36 := rfl
  rw [e36] at hx
  have hd0 := hd 0 (by omega)
  have hd1 := hd 1 (by omega)
  have hd2 := hd 2 (by omega)
  have hd3 := hd 3 (by omega)
  have hlen1000 : js.length ≤ 1000 := by omega
  rw [turnS_eq]
  simp only [bindT, Rf.st, Option.bind_some]
  unfold b_law_3
  apply map_step
  · simp only [Rf.ev_var, Rf.ev_gl, Rf.ev_non, Rf.ev_bl, Rf.ev_int, Rf.ev_str, Rf.ev_bin, Rf.ev_neg, Rf.ev_not, Rf.ev_and, Rf.ev_or, Rf.ev_cmp, Rf.ev_chain, Rf.ev_ite, Rf.ev_blt, Rf.ev_isi, Rf.ev_call, Rf.ev_ix, Rf.ev_sl, Rf.ev_rev, Rf.ev_lst, Rf.ev_tup, Rf.ev_lrng, Rf.ev_fl, Rf.evs_nil, Rf.evs_cons, Rf.evT_yes, Rf.evT_e, Rf.evT_not, Rf.evT_and, Rf.evT_or, Rf.evI_it, Rf.evI_r1, Rf.evI_r2, Rf.evI_en, Rf.evI_zp, Rf.evI_rv, Rf.ex_set, Rf.ex_setO, Rf.ex_unp, Rf.ex_par, Rf.ex_aug, Rf.ex_app, Rf.ex_ifs, Rf.ex_ret, Rf.ex_retV, Rf.ex_retN, Rf.ex_brk, Rf.ex_cnt, Rf.ex_pass, Rf.ex_drop, Rf.ex_shr, Rf.ev_comp, Rf.ex_fr, Rf.exs_nil, Rf.exs_cons, Rf.seqF_nx, Rf.seqF_rt, Rf.seqF_bk, Rf.seqF_ct, Rf.gt, Rf.st, Rf.clr, Rf.puts, Rf.bindT, Rf.retM, Rf.clrF, Rf.turnS_eq, Rf.compT_eq, Rf.M.share, Rf.M.shares, Rf.bltM, Rf.binD, Rf.augD, Rf.addD, Rf.mulD, Rf.cmpD, Rf.eqM_int, Rf.eqM_bl, Rf.eqM_str, Rf.eqM_non, Rf.truD, Rf.isiD, Rf.itD, Rf.lstD, Rf.nbM, Rf.isNon, Rf.isN, Rf.entry, Rf.big, Rf.bigI, true_or, or_true, false_or, or_false, and_true, true_and, and_self, and_false, false_and, Nat.zero_le, eq_self, decide_true, decide_false, Rf.enD_map, Rf.shares_mapF, Rf.ix_t0, Rf.ix_t1, Rf.ix_t2, Rf.ix_t3, Rf.ix_t4, Rf.ix_l0, Rf.ix_l1, Rf.ix_l2, Rf.ix_l3, Rf.ix_l4, List.getElem?_cons_zero, List.getElem?_cons_succ, Option.bind_some, Option.bind_none, Option.map_some, Option.map_none, List.map_cons, List.map_nil, List.cons_append, List.nil_append, List.append_nil, List.replicate, List.length_cons, List.length_nil, if_true, if_false, reduceCtorEq, Bool.false_eq_true, Bool.not_true, Bool.not_false, Bool.or_true, Bool.true_or, Bool.or_false, Bool.false_or, Bool.and_true, Bool.true_and, Bool.and_false, Bool.false_and, hc, hx]
    rfl
  apply map_step
  · simp (disch := omega) only [Rf.ev_var, Rf.ev_gl, Rf.ev_non, Rf.ev_bl, Rf.ev_int, Rf.ev_str, Rf.ev_bin, Rf.ev_neg, Rf.ev_not, Rf.ev_and, Rf.ev_or, Rf.ev_cmp, Rf.ev_chain, Rf.ev_ite, Rf.ev_blt, Rf.ev_isi, Rf.ev_call, Rf.ev_ix, Rf.ev_sl, Rf.ev_rev, Rf.ev_lst, Rf.ev_tup, Rf.ev_lrng, Rf.ev_fl, Rf.evs_nil, Rf.evs_cons, Rf.evT_yes, Rf.evT_e, Rf.evT_not, Rf.evT_and, Rf.evT_or, Rf.evI_it, Rf.evI_r1, Rf.evI_r2, Rf.evI_en, Rf.evI_zp, Rf.evI_rv, Rf.ex_set, Rf.ex_setO, Rf.ex_unp, Rf.ex_par, Rf.ex_aug, Rf.ex_app, Rf.ex_ifs, Rf.ex_ret, Rf.ex_retV, Rf.ex_retN, Rf.ex_brk, Rf.ex_cnt, Rf.ex_pass, Rf.ex_drop, Rf.ex_shr, Rf.ev_comp, Rf.ex_fr, Rf.exs_nil, Rf.exs_cons, Rf.seqF_nx, Rf.seqF_rt, Rf.seqF_bk, Rf.seqF_ct, Rf.gt, Rf.st, Rf.clr, Rf.puts, Rf.bindT, Rf.retM, Rf.clrF, Rf.turnS_eq, Rf.compT_eq, Rf.M.share, Rf.M.shares, Rf.bltM, Rf.binD, Rf.augD, Rf.addD, Rf.mulD, Rf.cmpD, Rf.eqM_int, Rf.eqM_bl, Rf.eqM_str, Rf.eqM_non, Rf.truD, Rf.isiD, Rf.itD, Rf.lstD, Rf.nbM, Rf.isNon, Rf.isN, Rf.entry, Rf.big, Rf.bigI, true_or, or_true, false_or, or_false, and_true, true_and, and_self, and_false, false_and, Nat.zero_le, eq_self, decide_true, decide_false, Rf.enD_map, Rf.shares_mapF, Rf.ix_t0, Rf.ix_t1, Rf.ix_t2, Rf.ix_t3, Rf.ix_t4, Rf.ix_l0, Rf.ix_l1, Rf.ix_l2, Rf.ix_l3, Rf.ix_l4, List.getElem?_cons_zero, List.getElem?_cons_succ, Option.bind_some, Option.bind_none, Option.map_some, Option.map_none, List.map_cons, List.map_nil, List.cons_append, List.nil_append, List.append_nil, List.replicate, List.length_cons, List.length_nil, if_true, if_false, reduceCtorEq, Bool.false_eq_true, Bool.not_true, Bool.not_false, Bool.or_true, Bool.true_or, Bool.or_false, Bool.false_or, Bool.and_true, Bool.true_and, Bool.and_false, Bool.false_and, if_pos, Rf.rngD_nat, hd1, hm]
    rfl
  apply map_step
  · simp (disch := omega) only [Rf.ev_var, Rf.ev_gl, Rf.ev_non, Rf.ev_bl, Rf.ev_int, Rf.ev_str, Rf.ev_bin, Rf.ev_neg, Rf.ev_not, Rf.ev_and, Rf.ev_or, Rf.ev_cmp, Rf.ev_chain, Rf.ev_ite, Rf.ev_blt, Rf.ev_isi, Rf.ev_call, Rf.ev_ix, Rf.ev_sl, Rf.ev_rev, Rf.ev_lst, Rf.ev_tup, Rf.ev_lrng, Rf.ev_fl, Rf.evs_nil, Rf.evs_cons, Rf.evT_yes, Rf.evT_e, Rf.evT_not, Rf.evT_and, Rf.evT_or, Rf.evI_it, Rf.evI_r1, Rf.evI_r2, Rf.evI_en, Rf.evI_zp, Rf.evI_rv, Rf.ex_set, Rf.ex_setO, Rf.ex_unp, Rf.ex_par, Rf.ex_aug, Rf.ex_app, Rf.ex_ifs, Rf.ex_ret, Rf.ex_retV, Rf.ex_retN, Rf.ex_brk, Rf.ex_cnt, Rf.ex_pass, Rf.ex_drop, Rf.ex_shr, Rf.ev_comp, Rf.ex_fr, Rf.exs_nil, Rf.exs_cons, Rf.seqF_nx, Rf.seqF_rt, Rf.seqF_bk, Rf.seqF_ct, Rf.gt, Rf.st, Rf.clr, Rf.puts, Rf.bindT, Rf.retM, Rf.clrF, Rf.turnS_eq, Rf.compT_eq, Rf.M.share, Rf.M.shares, Rf.bltM, Rf.binD, Rf.augD, Rf.addD, Rf.mulD, Rf.cmpD, Rf.eqM_int, Rf.eqM_bl, Rf.eqM_str, Rf.eqM_non, Rf.truD, Rf.isiD, Rf.itD, Rf.lstD, Rf.nbM, Rf.isNon, Rf.isN, Rf.entry, Rf.big, Rf.bigI, true_or, or_true, false_or, or_false, and_true, true_and, and_self, and_false, false_and, Nat.zero_le, eq_self, decide_true, decide_false, Rf.enD_map, Rf.shares_mapF, Rf.ix_t0, Rf.ix_t1, Rf.ix_t2, Rf.ix_t3, Rf.ix_t4, Rf.ix_l0, Rf.ix_l1, Rf.ix_l2, Rf.ix_l3, Rf.ix_l4, List.getElem?_cons_zero, List.getElem?_cons_succ, Option.bind_some, Option.bind_none, Option.map_some, Option.map_none, List.map_cons, List.map_nil, List.cons_append, List.nil_append, List.append_nil, List.replicate, List.length_cons, List.length_nil, if_true, if_false, reduceCtorEq, Bool.false_eq_true, Bool.not_true, Bool.not_false, Bool.or_true, Bool.true_or, Bool.or_false, Bool.false_or, Bool.and_true, Bool.true_and, Bool.and_false, Bool.false_and, if_pos, Rf.rngD_nat, hd0, hl3, hn]
    rw [turnsS_map (fun k : Nat => D.int (k : Int)) (fun k => .ot [.sh (.int ((d (4 + 2 * k)).fmod most)), .sh (.int ((d (5 + 2 * k)).fmod most))])]
    · have : ((List.range n).map fun k => D.tup [.int ((d (4 + 2 * k)).fmod most), .int ((d (5 + 2 * k)).fmod most)]) = js.map jobD := by
        rw [hjs, List.map_map]; rfl
      simp only [Rf.ev_var, Rf.ev_gl, Rf.ev_non, Rf.ev_bl, Rf.ev_int, Rf.ev_str, Rf.ev_bin, Rf.ev_neg, Rf.ev_not, Rf.ev_and, Rf.ev_or, Rf.ev_cmp, Rf.ev_chain, Rf.ev_ite, Rf.ev_blt, Rf.ev_isi, Rf.ev_call, Rf.ev_ix, Rf.ev_sl, Rf.ev_rev, Rf.ev_lst, Rf.ev_tup, Rf.ev_lrng, Rf.ev_fl, Rf.evs_nil, Rf.evs_cons, Rf.evT_yes, Rf.evT_e, Rf.evT_not, Rf.evT_and, Rf.evT_or, Rf.evI_it, Rf.evI_r1, Rf.evI_r2, Rf.evI_en, Rf.evI_zp, Rf.evI_rv, Rf.ex_set, Rf.ex_setO, Rf.ex_unp, Rf.ex_par, Rf.ex_aug, Rf.ex_app, Rf.ex_ifs, Rf.ex_ret, Rf.ex_retV, Rf.ex_retN, Rf.ex_brk, Rf.ex_cnt, Rf.ex_pass, Rf.ex_drop, Rf.ex_shr, Rf.ev_comp, Rf.ex_fr, Rf.exs_nil, Rf.exs_cons, Rf.seqF_nx, Rf.seqF_rt, Rf.seqF_bk, Rf.seqF_ct, Rf.gt, Rf.st, Rf.clr, Rf.puts, Rf.bindT, Rf.retM, Rf.clrF, Rf.turnS_eq, Rf.compT_eq, Rf.M.share, Rf.M.shares, Rf.bltM, Rf.binD, Rf.augD, Rf.addD, Rf.mulD, Rf.cmpD, Rf.eqM_int, Rf.eqM_bl, Rf.eqM_str, Rf.eqM_non, Rf.truD, Rf.isiD, Rf.itD, Rf.lstD, Rf.nbM, Rf.isNon, Rf.isN, Rf.entry, Rf.big, Rf.bigI, true_or, or_true, false_or, or_false, and_true, true_and, and_self, and_false, false_and, Nat.zero_le, eq_self, decide_true, decide_false, Rf.enD_map, Rf.shares_mapF, Rf.ix_t0, Rf.ix_t1, Rf.ix_t2, Rf.ix_t3, Rf.ix_t4, Rf.ix_l0, Rf.ix_l1, Rf.ix_l2, Rf.ix_l3, Rf.ix_l4, List.getElem?_cons_zero, List.getElem?_cons_succ, Option.bind_some, Option.bind_none, Option.map_some, Option.map_none, List.map_cons, List.map_nil, List.cons_append, List.nil_append, List.append_nil, List.replicate, List.length_cons, List.length_nil, if_true, if_false, reduceCtorEq, Bool.false_eq_true, Bool.not_true, Bool.not_false, Bool.or_true, Bool.true_or, Bool.or_false, Bool.false_or, Bool.and_true, Bool.true_and, Bool.and_false, Bool.false_and, this]
      rfl
    · intro i hi
      have hi' := List.mem_range.mp hi
      have e1 : (4 + 2 * (i : Int)) = ((4 + 2 * i : Nat) : Int) := by omega
      have e2 : (5 + 2 * (i : Int)) = ((5 + 2 * i : Nat) : Int) := by omega
      have c2 : okMul 2 (i : Int) := .inl (by decide)
      simp (disch := omega) only [Rf.ev_var, Rf.ev_gl, Rf.ev_non, Rf.ev_bl, Rf.ev_int, Rf.ev_str, Rf.ev_bin, Rf.ev_neg, Rf.ev_not, Rf.ev_and, Rf.ev_or, Rf.ev_cmp, Rf.ev_chain, Rf.ev_ite, Rf.ev_blt, Rf.ev_isi, Rf.ev_call, Rf.ev_ix, Rf.ev_sl, Rf.ev_rev, Rf.ev_lst, Rf.ev_tup, Rf.ev_lrng, Rf.ev_fl, Rf.evs_nil, Rf.evs_cons, Rf.evT_yes, Rf.evT_e, Rf.evT_not, Rf.evT_and, Rf.evT_or, Rf.evI_it, Rf.evI_r1, Rf.evI_r2, Rf.evI_en, Rf.evI_zp, Rf.evI_rv, Rf.ex_set, Rf.ex_setO, Rf.ex_unp, Rf.ex_par, Rf.ex_aug, Rf.ex_app, Rf.ex_ifs, Rf.ex_ret, Rf.ex_retV, Rf.ex_retN, Rf.ex_brk, Rf.ex_cnt, Rf.ex_pass, Rf.ex_drop, Rf.ex_shr, Rf.ev_comp, Rf.ex_fr, Rf.exs_nil, Rf.exs_cons, Rf.seqF_nx, Rf.seqF_rt, Rf.seqF_bk, Rf.seqF_ct, Rf.gt, Rf.st, Rf.clr, Rf.puts, Rf.bindT, Rf.retM, Rf.clrF, Rf.turnS_eq, Rf.compT_eq, Rf.M.share, Rf.M.shares, Rf.bltM, Rf.binD, Rf.augD, Rf.addD, Rf.mulD, Rf.cmpD, Rf.eqM_int, Rf.eqM_bl, Rf.eqM_str, Rf.eqM_non, Rf.truD, Rf.isiD, Rf.itD, Rf.lstD, Rf.nbM, Rf.isNon, Rf.isN, Rf.entry, Rf.big, Rf.bigI, true_or, or_true, false_or, or_false, and_true, true_and, and_self, and_false, false_and, Nat.zero_le, eq_self, decide_true, decide_false, Rf.enD_map, Rf.shares_mapF, Rf.ix_t0, Rf.ix_t1, Rf.ix_t2, Rf.ix_t3, Rf.ix_t4, Rf.ix_l0, Rf.ix_l1, Rf.ix_l2, Rf.ix_l3, Rf.ix_l4, List.getElem?_cons_zero, List.getElem?_cons_succ, Option.bind_some, Option.bind_none, Option.map_some, Option.map_none, List.map_cons, List.map_nil, List.cons_append, List.nil_append, List.append_nil, List.replicate, List.length_cons, List.length_nil, if_true, if_false, reduceCtorEq, Bool.false_eq_true, Bool.not_true, Bool.not_false, Bool.or_true, Bool.true_or, Bool.or_false, Bool.false_or, Bool.and_true, Bool.true_and, Bool.and_false, Bool.false_and, if_pos, Rf.rngD_nat, c2, e1, e2, ix_lstN, hd (4 + 2 * i) (by omega), hd (5 + 2 * i) (by omega)]
  apply map_step
  · simp only [Rf.ev_var, Rf.ev_gl, Rf.ev_non, Rf.ev_bl, Rf.ev_int, Rf.ev_str, Rf.ev_bin, Rf.ev_neg, Rf.ev_not, Rf.ev_and, Rf.ev_or, Rf.ev_cmp, Rf.ev_chain, Rf.ev_ite, Rf.ev_blt, Rf.ev_isi, Rf.ev_call, Rf.ev_ix, Rf.ev_sl, Rf.ev_rev, Rf.ev_lst, Rf.ev_tup, Rf.ev_lrng, Rf.ev_fl, Rf.evs_nil, Rf.evs_cons, Rf.evT_yes, Rf.evT_e, Rf.evT_not, Rf.evT_and, Rf.evT_or, Rf.evI_it, Rf.evI_r1, Rf.evI_r2, Rf.evI_en, Rf.evI_zp, Rf.evI_rv, Rf.ex_set, Rf.ex_setO, Rf.ex_unp, Rf.ex_par, Rf.ex_aug, Rf.ex_app, Rf.ex_ifs, Rf.ex_ret, Rf.ex_retV, Rf.ex_retN, Rf.ex_brk, Rf.ex_cnt, Rf.ex_pass, Rf.ex_drop, Rf.ex_shr, Rf.ev_comp, Rf.ex_fr, Rf.exs_nil, Rf.exs_cons, Rf.seqF_nx, Rf.seqF_rt, Rf.seqF_bk, Rf.seqF_ct, Rf.gt, Rf.st, Rf.clr, Rf.puts, Rf.bindT, Rf.retM, Rf.clrF, Rf.turnS_eq, Rf.compT_eq, Rf.M.share, Rf.M.shares, Rf.bltM, Rf.binD, Rf.augD, Rf.addD, Rf.mulD, Rf.cmpD, Rf.eqM_int, Rf.eqM_bl, Rf.eqM_str, Rf.eqM_non, Rf.truD, Rf.isiD, Rf.itD, Rf.lstD, Rf.nbM, Rf.isNon, Rf.isN, Rf.entry, Rf.big, Rf.bigI, true_or, or_true, false_or, or_false, and_true, true_and, and_self, and_false, false_and, Nat.zero_le, eq_self, decide_true, decide_false, Rf.enD_map, Rf.shares_mapF, Rf.ix_t0, Rf.ix_t1, Rf.ix_t2, Rf.ix_t3, Rf.ix_t4, Rf.ix_l0, Rf.ix_l1, Rf.ix_l2, Rf.ix_l3, Rf.ix_l4, List.getElem?_cons_zero, List.getElem?_cons_succ, Option.bind_some, Option.bind_none, Option.map_some, Option.map_none, List.map_cons, List.map_nil, List.cons_append, List.nil_append, List.append_nil, List.replicate, List.length_cons, List.length_nil, if_true, if_false, reduceCtorEq, Bool.false_eq_true, Bool.not_true, Bool.not_false, Bool.or_true, Bool.true_or, Bool.or_false, Bool.false_or, Bool.and_true, Bool.true_and, Bool.and_false, Bool.false_and]
    rfl
  apply map_step
  · simp only [Rf.ev_var, Rf.ev_gl, Rf.ev_non, Rf.ev_bl, Rf.ev_int, Rf.ev_str, Rf.ev_bin, Rf.ev_neg, Rf.ev_not, Rf.ev_and, Rf.ev_or, Rf.ev_cmp, Rf.ev_chain, Rf.ev_ite, Rf.ev_blt, Rf.ev_isi, Rf.ev_call, Rf.ev_ix, Rf.ev_sl, Rf.ev_rev, Rf.ev_lst, Rf.ev_tup, Rf.ev_lrng, Rf.ev_fl, Rf.evs_nil, Rf.evs_cons, Rf.evT_yes, Rf.evT_e, Rf.evT_not, Rf.evT_and, Rf.evT_or, Rf.evI_it, Rf.evI_r1, Rf.evI_r2, Rf.evI_en, Rf.evI_zp, Rf.evI_rv, Rf.ex_set, Rf.ex_setO, Rf.ex_unp, Rf.ex_par, Rf.ex_aug, Rf.ex_app, Rf.ex_ifs, Rf.ex_ret, Rf.ex_retV, Rf.ex_retN, Rf.ex_brk, Rf.ex_cnt, Rf.ex_pass, Rf.ex_drop, Rf.ex_shr, Rf.ev_comp, Rf.ex_fr, Rf.exs_nil, Rf.exs_cons, Rf.seqF_nx, Rf.seqF_rt, Rf.seqF_bk, Rf.seqF_ct, Rf.gt, Rf.st, Rf.clr, Rf.puts, Rf.bindT, Rf.retM, Rf.clrF, Rf.turnS_eq, Rf.compT_eq, Rf.M.share, Rf.M.shares, Rf.bltM, Rf.binD, Rf.augD, Rf.addD, Rf.mulD, Rf.cmpD, Rf.eqM_int, Rf.eqM_bl, Rf.eqM_str, Rf.eqM_non, Rf.truD, Rf.isiD, Rf.itD, Rf.lstD, Rf.nbM, Rf.isNon, Rf.isN, Rf.entry, Rf.big, Rf.bigI, true_or, or_true, false_or, or_false, and_true, true_and, and_self, and_false, false_and, Nat.zero_le, eq_self, decide_true, decide_false, Rf.enD_map, Rf.shares_mapF, Rf.ix_t0, Rf.ix_t1, Rf.ix_t2, Rf.ix_t3, Rf.ix_t4, Rf.ix_l0, Rf.ix_l1, Rf.ix_l2, Rf.ix_l3, Rf.ix_l4, List.getElem?_cons_zero, List.getElem?_cons_succ, Option.bind_some, Option.bind_none, Option.map_some, Option.map_none, List.map_cons, List.map_nil, List.cons_append, List.nil_append, List.append_nil, List.replicate, List.length_cons, List.length_nil, if_true, if_false, reduceCtorEq, Bool.false_eq_true, Bool.not_true, Bool.not_false, Bool.or_true, Bool.true_or, Bool.or_false, Bool.false_or, Bool.and_true, Bool.true_and, Bool.and_false, Bool.false_and, run_lbest (n := k + 4) (by omega) js hlen1000, keys_eq]
    rfl
  apply map_step
  · simp only [Rf.ev_var, Rf.ev_gl, Rf.ev_non, Rf.ev_bl, Rf.ev_int, Rf.ev_str, Rf.ev_bin, Rf.ev_neg, Rf.ev_not, Rf.ev_and, Rf.ev_or, Rf.ev_cmp, Rf.ev_chain, Rf.ev_ite, Rf.ev_blt, Rf.ev_isi, Rf.ev_call, Rf.ev_ix, Rf.ev_sl, Rf.ev_rev, Rf.ev_lst, Rf.ev_tup, Rf.ev_lrng, Rf.ev_fl, Rf.evs_nil, Rf.evs_cons, Rf.evT_yes, Rf.evT_e, Rf.evT_not, Rf.evT_and, Rf.evT_or, Rf.evI_it, Rf.evI_r1, Rf.evI_r2, Rf.evI_en, Rf.evI_zp, Rf.evI_rv, Rf.ex_set, Rf.ex_setO, Rf.ex_unp, Rf.ex_par, Rf.ex_aug, Rf.ex_app, Rf.ex_ifs, Rf.ex_ret, Rf.ex_retV, Rf.ex_retN, Rf.ex_brk, Rf.ex_cnt, Rf.ex_pass, Rf.ex_drop, Rf.ex_shr, Rf.ev_comp, Rf.ex_fr, Rf.exs_nil, Rf.exs_cons, Rf.seqF_nx, Rf.seqF_rt, Rf.seqF_bk, Rf.seqF_ct, Rf.gt, Rf.st, Rf.clr, Rf.puts, Rf.bindT, Rf.retM, Rf.clrF, Rf.turnS_eq, Rf.compT_eq, Rf.M.share, Rf.M.shares, Rf.bltM, Rf.binD, Rf.augD, Rf.addD, Rf.mulD, Rf.cmpD, Rf.eqM_int, Rf.eqM_bl, Rf.eqM_str, Rf.eqM_non, Rf.truD, Rf.isiD, Rf.itD, Rf.lstD, Rf.nbM, Rf.isNon, Rf.isN, Rf.entry, Rf.big, Rf.bigI, true_or, or_true, false_or, or_false, and_true, true_and, and_self, and_false, false_and, Nat.zero_le, eq_self, decide_true, decide_false, Rf.enD_map, Rf.shares_mapF, Rf.ix_t0, Rf.ix_t1, Rf.ix_t2, Rf.ix_t3, Rf.ix_t4, Rf.ix_l0, Rf.ix_l1, Rf.ix_l2, Rf.ix_l3, Rf.ix_l4, List.getElem?_cons_zero, List.getElem?_cons_succ, Option.bind_some, Option.bind_none, Option.map_some, Option.map_none, List.map_cons, List.map_nil, List.cons_append, List.nil_append, List.append_nil, List.replicate, List.length_cons, List.length_nil, if_true, if_false, reduceCtorEq, Bool.false_eq_true, Bool.not_true, Bool.not_false, Bool.or_true, Bool.true_or, Bool.or_false, Bool.false_or, Bool.and_true, Bool.true_and, Bool.and_false, Bool.false_and]
    rfl
  have hbest : (bestZ js).map (fun z => natD z.2) = (best js).map natD := by unfold best; rw [List.map_map]; rfl
  simp only [hbest]
  apply map_step
  · simp (disch := omega) only [Rf.ev_var, Rf.ev_gl, Rf.ev_non, Rf.ev_bl, Rf.ev_int, Rf.ev_str, Rf.ev_bin, Rf.ev_neg, Rf.ev_not, Rf.ev_and, Rf.ev_or, Rf.ev_cmp, Rf.ev_chain, Rf.ev_ite, Rf.ev_blt, Rf.ev_isi, Rf.ev_call, Rf.ev_ix, Rf.ev_sl, Rf.ev_rev, Rf.ev_lst, Rf.ev_tup, Rf.ev_lrng, Rf.ev_fl, Rf.evs_nil, Rf.evs_cons, Rf.evT_yes, Rf.evT_e, Rf.evT_not, Rf.evT_and, Rf.evT_or, Rf.evI_it, Rf.evI_r1, Rf.evI_r2, Rf.evI_en, Rf.evI_zp, Rf.evI_rv, Rf.ex_set, Rf.ex_setO, Rf.ex_unp, Rf.ex_par, Rf.ex_aug, Rf.ex_app, Rf.ex_ifs, Rf.ex_ret, Rf.ex_retV, Rf.ex_retN, Rf.ex_brk, Rf.ex_cnt, Rf.ex_pass, Rf.ex_drop, Rf.ex_shr, Rf.ev_comp, Rf.ex_fr, Rf.exs_nil, Rf.exs_cons, Rf.seqF_nx, Rf.seqF_rt, Rf.seqF_bk, Rf.seqF_ct, Rf.gt, Rf.st, Rf.clr, Rf.puts, Rf.bindT, Rf.retM, Rf.clrF, Rf.turnS_eq, Rf.compT_eq, Rf.M.share, Rf.M.shares, Rf.bltM, Rf.binD, Rf.augD, Rf.addD, Rf.mulD, Rf.cmpD, Rf.eqM_int, Rf.eqM_bl, Rf.eqM_str, Rf.eqM_non, Rf.truD, Rf.isiD, Rf.itD, Rf.lstD, Rf.nbM, Rf.isNon, Rf.isN, Rf.entry, Rf.big, Rf.bigI, true_or, or_true, false_or, or_false, and_true, true_and, and_self, and_false, false_and, Nat.zero_le, eq_self, decide_true, decide_false, Rf.enD_map, Rf.shares_mapF, Rf.ix_t0, Rf.ix_t1, Rf.ix_t2, Rf.ix_t3, Rf.ix_t4, Rf.ix_l0, Rf.ix_l1, Rf.ix_l2, Rf.ix_l3, Rf.ix_l4, List.getElem?_cons_zero, List.getElem?_cons_succ, Option.bind_some, Option.bind_none, Option.map_some, Option.map_none, List.map_cons, List.map_nil, List.cons_append, List.nil_append, List.append_nil, List.replicate, List.length_cons, List.length_nil, if_true, if_false, reduceCtorEq, Bool.false_eq_true, Bool.not_true, Bool.not_false, Bool.or_true, Bool.true_or, Bool.or_false, Bool.false_or, Bool.and_true, Bool.true_and, Bool.and_false, Bool.false_and, if_pos, Rf.rngD_nat]
    have : rngD 0 2 = [(0 : Nat), 1].map fun i : Nat => D.int (i : Int) := rfl
    rw [this, loopS_stay]
    intro x hx
    exact turn_twice hlen1000
  apply map_step
  · simp only [Rf.ev_var, Rf.ev_gl, Rf.ev_non, Rf.ev_bl, Rf.ev_int, Rf.ev_str, Rf.ev_bin, Rf.ev_neg, Rf.ev_not, Rf.ev_and, Rf.ev_or, Rf.ev_cmp, Rf.ev_chain, Rf.ev_ite, Rf.ev_blt, Rf.ev_isi, Rf.ev_call, Rf.ev_ix, Rf.ev_sl, Rf.ev_rev, Rf.ev_lst, Rf.ev_tup, Rf.ev_lrng, Rf.ev_fl, Rf.evs_nil, Rf.evs_cons, Rf.evT_yes, Rf.evT_e, Rf.evT_not, Rf.evT_and, Rf.evT_or, Rf.evI_it, Rf.evI_r1, Rf.evI_r2, Rf.evI_en, Rf.evI_zp, Rf.evI_rv, Rf.ex_set, Rf.ex_setO, Rf.ex_unp, Rf.ex_par, Rf.ex_aug, Rf.ex_app, Rf.ex_ifs, Rf.ex_ret, Rf.ex_retV, Rf.ex_retN, Rf.ex_brk, Rf.ex_cnt, Rf.ex_pass, Rf.ex_drop, Rf.ex_shr, Rf.ev_comp, Rf.ex_fr, Rf.exs_nil, Rf.exs_cons, Rf.seqF_nx, Rf.seqF_rt, Rf.seqF_bk, Rf.seqF_ct, Rf.gt, Rf.st, Rf.clr, Rf.puts, Rf.bindT, Rf.retM, Rf.clrF, Rf.turnS_eq, Rf.compT_eq, Rf.M.share, Rf.M.shares, Rf.bltM, Rf.binD, Rf.augD, Rf.addD, Rf.mulD, Rf.cmpD, Rf.eqM_int, Rf.eqM_bl, Rf.eqM_str, Rf.eqM_non, Rf.truD, Rf.isiD, Rf.itD, Rf.lstD, Rf.nbM, Rf.isNon, Rf.isN, Rf.entry, Rf.big, Rf.bigI, true_or, or_true, false_or, or_false, and_true, true_and, and_self, and_false, false_and, Nat.zero_le, eq_self, decide_true, decide_false, Rf.enD_map, Rf.shares_mapF, Rf.ix_t0, Rf.ix_t1, Rf.ix_t2, Rf.ix_t3, Rf.ix_t4, Rf.ix_l0, Rf.ix_l1, Rf.ix_l2, Rf.ix_l3, Rf.ix_l4, List.getElem?_cons_zero, List.getElem?_cons_succ, Option.bind_some, Option.bind_none, Option.map_some, Option.map_none, List.map_cons, List.map_nil, List.cons_append, List.nil_append, List.append_nil, List.replicate, List.length_cons, List.length_nil, if_true, if_false, reduceCtorEq, Bool.false_eq_true, Bool.not_true, Bool.not_false, Bool.or_true, Bool.true_or, Bool.or_false, Bool.false_or, Bool.and_true, Bool.true_and, Bool.and_false, Bool.false_and, run_lfinish (n := k + 4) (by omega) js (best js) (perm_lt (best_perm js)) (by rw [best_len]; omega), LF_eq _ (hjn.order (perm_lt (best_perm js)))]
    rfl
  apply map_step
  · simp (disch := omega) only [Rf.ev_var, Rf.ev_gl, Rf.ev_non, Rf.ev_bl, Rf.ev_int, Rf.ev_str, Rf.ev_bin, Rf.ev_neg, Rf.ev_not, Rf.ev_and, Rf.ev_or, Rf.ev_cmp, Rf.ev_chain, Rf.ev_ite, Rf.ev_blt, Rf.ev_isi, Rf.ev_call, Rf.ev_ix, Rf.ev_sl, Rf.ev_rev, Rf.ev_lst, Rf.ev_tup, Rf.ev_lrng, Rf.ev_fl, Rf.evs_nil, Rf.evs_cons, Rf.evT_yes, Rf.evT_e, Rf.evT_not, Rf.evT_and, Rf.evT_or, Rf.evI_it, Rf.evI_r1, Rf.evI_r2, Rf.evI_en, Rf.evI_zp, Rf.evI_rv, Rf.ex_set, Rf.ex_setO, Rf.ex_unp, Rf.ex_par, Rf.ex_aug, Rf.ex_app, Rf.ex_ifs, Rf.ex_ret, Rf.ex_retV, Rf.ex_retN, Rf.ex_brk, Rf.ex_cnt, Rf.ex_pass, Rf.ex_drop, Rf.ex_shr, Rf.ev_comp, Rf.ex_fr, Rf.exs_nil, Rf.exs_cons, Rf.seqF_nx, Rf.seqF_rt, Rf.seqF_bk, Rf.seqF_ct, Rf.gt, Rf.st, Rf.clr, Rf.puts, Rf.bindT, Rf.retM, Rf.clrF, Rf.turnS_eq, Rf.compT_eq, Rf.M.share, Rf.M.shares, Rf.bltM, Rf.binD, Rf.augD, Rf.addD, Rf.mulD, Rf.cmpD, Rf.eqM_int, Rf.eqM_bl, Rf.eqM_str, Rf.eqM_non, Rf.truD, Rf.isiD, Rf.itD, Rf.lstD, Rf.nbM, Rf.isNon, Rf.isN, Rf.entry, Rf.big, Rf.bigI, true_or, or_true, false_or, or_false, and_true, true_and, and_self, and_false, false_and, Nat.zero_le, eq_self, decide_true, decide_false, Rf.enD_map, Rf.shares_mapF, Rf.ix_t0, Rf.ix_t1, Rf.ix_t2, Rf.ix_t3, Rf.ix_t4, Rf.ix_l0, Rf.ix_l1, Rf.ix_l2, Rf.ix_l3, Rf.ix_l4, List.getElem?_cons_zero, List.getElem?_cons_succ, Option.bind_some, Option.bind_none, Option.map_some, Option.map_none, List.map_cons, List.map_nil, List.cons_append, List.nil_append, List.append_nil, List.replicate, List.length_cons, List.length_nil, if_true, if_false, reduceCtorEq, Bool.false_eq_true, Bool.not_true, Bool.not_false, Bool.or_true, Bool.true_or, Bool.or_false, Bool.false_or, Bool.and_true, Bool.true_and, Bool.and_false, Bool.false_and, if_pos, Rf.rngD_nat, List.length_map]
    rfl
  have hfirst : ([D.lst ((best js).map natD), .lst ((best js).map natD).reverse, .lst ((List.range js.length).map fun i : Nat => D.int (i : Int))] : List D) = [best js, (best js).reverse, List.range js.length].map ordD := by
    rw [← List.map_reverse]
    rfl
  rw [hfirst]
  by_cases h0 : ((at_ : Int) == 0) = true
  · have hn5 : js.length ≤ 5 := by
      have := hat h0
      omega
    apply map_step
    · simp only [Rf.ev_var, Rf.ev_gl, Rf.ev_non, Rf.ev_bl, Rf.ev_int, Rf.ev_str, Rf.ev_bin, Rf.ev_neg, Rf.ev_not, Rf.ev_and, Rf.ev_or, Rf.ev_cmp, Rf.ev_chain, Rf.ev_ite, Rf.ev_blt, Rf.ev_isi, Rf.ev_call, Rf.ev_ix, Rf.ev_sl, Rf.ev_rev, Rf.ev_lst, Rf.ev_tup, Rf.ev_lrng, Rf.ev_fl, Rf.evs_nil, Rf.evs_cons, Rf.evT_yes, Rf.evT_e, Rf.evT_not, Rf.evT_and, Rf.evT_or, Rf.evI_it, Rf.evI_r1, Rf.evI_r2, Rf.evI_en, Rf.evI_zp, Rf.evI_rv, Rf.ex_set, Rf.ex_setO, Rf.ex_unp, Rf.ex_par, Rf.ex_aug, Rf.ex_app, Rf.ex_ifs, Rf.ex_ret, Rf.ex_retV, Rf.ex_retN, Rf.ex_brk, Rf.ex_cnt, Rf.ex_pass, Rf.ex_drop, Rf.ex_shr, Rf.ev_comp, Rf.ex_fr, Rf.exs_nil, Rf.exs_cons, Rf.seqF_nx, Rf.seqF_rt, Rf.seqF_bk, Rf.seqF_ct, Rf.gt, Rf.st, Rf.clr, Rf.puts, Rf.bindT, Rf.retM, Rf.clrF, Rf.turnS_eq, Rf.compT_eq, Rf.M.share, Rf.M.shares, Rf.bltM, Rf.binD, Rf.augD, Rf.addD, Rf.mulD, Rf.cmpD, Rf.eqM_int, Rf.eqM_bl, Rf.eqM_str, Rf.eqM_non, Rf.truD, Rf.isiD, Rf.itD, Rf.lstD, Rf.nbM, Rf.isNon, Rf.isN, Rf.entry, Rf.big, Rf.bigI, true_or, or_true, false_or, or_false, and_true, true_and, and_self, and_false, false_and, Nat.zero_le, eq_self, decide_true, decide_false, Rf.enD_map, Rf.shares_mapF, Rf.ix_t0, Rf.ix_t1, Rf.ix_t2, Rf.ix_t3, Rf.ix_t4, Rf.ix_l0, Rf.ix_l1, Rf.ix_l2, Rf.ix_l3, Rf.ix_l4, List.getElem?_cons_zero, List.getElem?_cons_succ, Option.bind_some, Option.bind_none, Option.map_some, Option.map_none, List.map_cons, List.map_nil, List.cons_append, List.nil_append, List.append_nil, List.replicate, List.length_cons, List.length_nil, if_true, if_false, reduceCtorEq, Bool.false_eq_true, Bool.not_true, Bool.not_false, Bool.or_true, Bool.true_or, Bool.or_false, Bool.false_or, Bool.and_true, Bool.true_and, Bool.and_false, Bool.false_and, h0, List.length_map, run_orders js.length hn5]
      rfl
    exact tail_at hjn hlen1000 hd2 hd3 hm0 fun o ho => ords_perm ho
  · apply map_step
    · simp only [Rf.ev_var, Rf.ev_gl, Rf.ev_non, Rf.ev_bl, Rf.ev_int, Rf.ev_str, Rf.ev_bin, Rf.ev_neg, Rf.ev_not, Rf.ev_and, Rf.ev_or, Rf.ev_cmp, Rf.ev_chain, Rf.ev_ite, Rf.ev_blt, Rf.ev_isi, Rf.ev_call, Rf.ev_ix, Rf.ev_sl, Rf.ev_rev, Rf.ev_lst, Rf.ev_tup, Rf.ev_lrng, Rf.ev_fl, Rf.evs_nil, Rf.evs_cons, Rf.evT_yes, Rf.evT_e, Rf.evT_not, Rf.evT_and, Rf.evT_or, Rf.evI_it, Rf.evI_r1, Rf.evI_r2, Rf.evI_en, Rf.evI_zp, Rf.evI_rv, Rf.ex_set, Rf.ex_setO, Rf.ex_unp, Rf.ex_par, Rf.ex_aug, Rf.ex_app, Rf.ex_ifs, Rf.ex_ret, Rf.ex_retV, Rf.ex_retN, Rf.ex_brk, Rf.ex_cnt, Rf.ex_pass, Rf.ex_drop, Rf.ex_shr, Rf.ev_comp, Rf.ex_fr, Rf.exs_nil, Rf.exs_cons, Rf.seqF_nx, Rf.seqF_rt, Rf.seqF_bk, Rf.seqF_ct, Rf.gt, Rf.st, Rf.clr, Rf.puts, Rf.bindT, Rf.retM, Rf.clrF, Rf.turnS_eq, Rf.compT_eq, Rf.M.share, Rf.M.shares, Rf.bltM, Rf.binD, Rf.augD, Rf.addD, Rf.mulD, Rf.cmpD, Rf.eqM_int, Rf.eqM_bl, Rf.eqM_str, Rf.eqM_non, Rf.truD, Rf.isiD, Rf.itD, Rf.lstD, Rf.nbM, Rf.isNon, Rf.isN, Rf.entry, Rf.big, Rf.bigI, true_or, or_true, false_or, or_false, and_true, true_and, and_self, and_false, false_and, Nat.zero_le, eq_self, decide_true, decide_false, Rf.enD_map, Rf.shares_mapF, Rf.ix_t0, Rf.ix_t1, Rf.ix_t2, Rf.ix_t3, Rf.ix_t4, Rf.ix_l0, Rf.ix_l1, Rf.ix_l2, Rf.ix_l3, Rf.ix_l4, List.getElem?_cons_zero, List.getElem?_cons_succ, Option.bind_some, Option.bind_none, Option.map_some, Option.map_none, List.map_cons, List.map_nil, List.cons_append, List.nil_append, List.append_nil, List.replicate, List.length_cons, List.length_nil, if_true, if_false, reduceCtorEq, Bool.false_eq_true, Bool.not_true, Bool.not_false, Bool.or_true, Bool.true_or, Bool.or_false, Bool.false_or, Bool.and_true, Bool.true_and, Bool.and_false, Bool.false_and, h0]
      rfl
    refine tail_at (os := [best js, (best js).reverse, List.range js.length]) hjn hlen1000 hd2 hd3 hm0 fun o ho => ?_
    simp only [List.mem_cons, List.not_mem_nil, or_false] at ho
    rcases ho with h | h | h
    · rw [h]; exact best_perm js
    · rw [h]; exact (List.reverse_perm _).trans (best_perm js)
    · rw [h]
theorem law_run (ns : List Int) (h : ns.length ≤ 63) : run tab gs 40 8 [.scr ns] = some (.sh (.bl true)) := by
  rw [run_at d_law rfl rfl]
  simp (disch := omega) only [d_law, Rf.ev_var, Rf.ev_gl, Rf.ev_non, Rf.ev_bl, Rf.ev_int, Rf.ev_str, Rf.ev_bin, Rf.ev_neg, Rf.ev_not, Rf.ev_and, Rf.ev_or, Rf.ev_cmp, Rf.ev_chain, Rf.ev_ite, Rf.ev_blt, Rf.ev_isi, Rf.ev_call, Rf.ev_ix, Rf.ev_sl, Rf.ev_rev, Rf.ev_lst, Rf.ev_tup, Rf.ev_lrng, Rf.ev_fl, Rf.evs_nil, Rf.evs_cons, Rf.evT_yes, Rf.evT_e, Rf.evT_not, Rf.evT_and, Rf.evT_or, Rf.evI_it, Rf.evI_r1, Rf.evI_r2, Rf.evI_en, Rf.evI_zp, Rf.evI_rv, Rf.ex_set, Rf.ex_setO, Rf.ex_unp, Rf.ex_par, Rf.ex_aug, Rf.ex_app, Rf.ex_ifs, Rf.ex_ret, Rf.ex_retV, Rf.ex_retN, Rf.ex_brk, Rf.ex_cnt, Rf.ex_pass, Rf.ex_drop, Rf.ex_shr, Rf.ev_comp, Rf.ex_fr, Rf.exs_nil, Rf.exs_cons, Rf.seqF_nx, Rf.seqF_rt, Rf.seqF_bk, Rf.seqF_ct, Rf.gt, Rf.st, Rf.clr, Rf.puts, Rf.bindT, Rf.retM, Rf.clrF, Rf.turnS_eq, Rf.compT_eq, Rf.M.share, Rf.M.shares, Rf.bltM, Rf.binD, Rf.augD, Rf.addD, Rf.mulD, Rf.cmpD, Rf.eqM_int, Rf.eqM_bl, Rf.eqM_str, Rf.eqM_non, Rf.truD, Rf.isiD, Rf.itD, Rf.lstD, Rf.nbM, Rf.isNon, Rf.isN, Rf.entry, Rf.big, Rf.bigI, true_or, or_true, false_or, or_false, and_true, true_and, and_self, and_false, false_and, Nat.zero_le, eq_self, decide_true, decide_false, Rf.enD_map, Rf.shares_mapF, Rf.ix_t0, Rf.ix_t1, Rf.ix_t2, Rf.ix_t3, Rf.ix_t4, Rf.ix_l0, Rf.ix_l1, Rf.ix_l2, Rf.ix_l3, Rf.ix_l4, List.getElem?_cons_zero, List.getElem?_cons_succ, Option.bind_some, Option.bind_none, Option.map_some, Option.map_none, List.map_cons, List.map_nil, List.cons_append, List.nil_append, List.append_nil, List.replicate, List.length_cons, List.length_nil, if_true, if_false, reduceCtorEq, Bool.false_eq_true, Bool.not_true, Bool.not_false, Bool.or_true, Bool.true_or, Bool.or_false, Bool.false_or, Bool.and_true, Bool.true_and, Bool.and_false, Bool.false_and, if_pos, Rf.rngD_nat]
  have : rngD 0 2 = [(0 : Nat), 1].map fun i : Nat => D.int (i : Int) := rfl
  rw [this, loopS_stay]
  · simp only [Rf.ev_var, Rf.ev_gl, Rf.ev_non, Rf.ev_bl, Rf.ev_int, Rf.ev_str, Rf.ev_bin, Rf.ev_neg, Rf.ev_not, Rf.ev_and, Rf.ev_or, Rf.ev_cmp, Rf.ev_chain, Rf.ev_ite, Rf.ev_blt, Rf.ev_isi, Rf.ev_call, Rf.ev_ix, Rf.ev_sl, Rf.ev_rev, Rf.ev_lst, Rf.ev_tup, Rf.ev_lrng, Rf.ev_fl, Rf.evs_nil, Rf.evs_cons, Rf.evT_yes, Rf.evT_e, Rf.evT_not, Rf.evT_and, Rf.evT_or, Rf.evI_it, Rf.evI_r1, Rf.evI_r2, Rf.evI_en, Rf.evI_zp, Rf.evI_rv, Rf.ex_set, Rf.ex_setO, Rf.ex_unp, Rf.ex_par, Rf.ex_aug, Rf.ex_app, Rf.ex_ifs, Rf.ex_ret, Rf.ex_retV, Rf.ex_retN, Rf.ex_brk, Rf.ex_cnt, Rf.ex_pass, Rf.ex_drop, Rf.ex_shr, Rf.ev_comp, Rf.ex_fr, Rf.exs_nil, Rf.exs_cons, Rf.seqF_nx, Rf.seqF_rt, Rf.seqF_bk, Rf.seqF_ct, Rf.gt, Rf.st, Rf.clr, Rf.puts, Rf.bindT, Rf.retM, Rf.clrF, Rf.turnS_eq, Rf.compT_eq, Rf.M.share, Rf.M.shares, Rf.bltM, Rf.binD, Rf.augD, Rf.addD, Rf.mulD, Rf.cmpD, Rf.eqM_int, Rf.eqM_bl, Rf.eqM_str, Rf.eqM_non, Rf.truD, Rf.isiD, Rf.itD, Rf.lstD, Rf.nbM, Rf.isNon, Rf.isN, Rf.entry, Rf.big, Rf.bigI, true_or, or_true, false_or, or_false, and_true, true_and, and_self, and_false, false_and, Nat.zero_le, eq_self, decide_true, decide_false, Rf.enD_map, Rf.shares_mapF, Rf.ix_t0, Rf.ix_t1, Rf.ix_t2, Rf.ix_t3, Rf.ix_t4, Rf.ix_l0, Rf.ix_l1, Rf.ix_l2, Rf.ix_l3, Rf.ix_l4, List.getElem?_cons_zero, List.getElem?_cons_succ, Option.bind_some, Option.bind_none, Option.map_some, Option.map_none, List.map_cons, List.map_nil, List.cons_append, List.nil_append, List.append_nil, List.replicate, List.length_cons, List.length_nil, if_true, if_false, reduceCtorEq, Bool.false_eq_true, Bool.not_true, Bool.not_false, Bool.or_true, Bool.true_or, Bool.or_false, Bool.false_or, Bool.and_true, Bool.true_and, Bool.and_false, Bool.false_and]
  · intro x hx
    simp only [List.mem_cons, List.not_mem_nil, or_false] at hx
    rcases hx with h | h <;> subst h
    · exact turn_at (k := 35) ns 0 6 (by decide) (by decide) rfl fun _ => rfl
    · exact turn_at (k := 35) ns 1 11 (by decide) (by decide) rfl fun h => by cases h
end K67

set_option Elab.async false
set_option linter.all false
set_option maxRecDepth 100000
set_option maxHeartbeats 0
namespace K67
open PySem PySem.Spec PyProof.Rows L2 Rf
def hFn : List He.DefD := dsOf tab txt
def hFa : List He.Fa := faOf tab gs
abbrev hR : PySem.W.OpenRow := PySem.W.OpenLaw.row PySem.Challenge.rw_wordsweighed_k67_whole_best_orders_of_jo
abbrev hk : PySem.W.Hook := He.hookD 4 hFa hFn
def hob (s : PySem.W.SharedT) : He.AlD := He.obsDG 4 hFa hFn (HandSHeadRun.getT s)
theorem hob_eq (s : PySem.W.SharedT) : hob s = hk.obs s.abs := He.obsDG_eq (HandSHeadRun.getT_eq s)
theorem hrunH (w : World) : HandSHeadRun.RunEq hR (PySem.W.view hR.prog [10]) hk hob 4000 ["finish", "best_order", "_law_cell", "_law_numbers", "_law_same", "_law_orders", "_law_finish", "_law_best"] w := by
  intro os
  kernel_rfl
end K67
open PySem PySem.W PySem.Calls PyProof.Rows
theorem PySem.Challenge.cw_wordsweighed_k67_whole_best_orders_of_jo_holds : PySem.Challenge.rw_wordsweighed_k67_whole_best_orders_of_jo.Holds := by
  w_on; o_law
  refine HandSHeadRun.head_any (r := OpenLaw.row PySem.Challenge.rw_wordsweighed_k67_whole_best_orders_of_jo) (q := view (OpenLaw.row PySem.Challenge.rw_wordsweighed_k67_whole_best_orders_of_jo).prog [10]) (H := K67.hk) (ob := K67.hob) (M := 4000) (loose := ["finish", "best_order", "_law_cell", "_law_numbers", "_law_same", "_law_orders", "_law_finish", "_law_best"]) (d := HandSHeadRun.topDef (OpenLaw.row PySem.Challenge.rw_wordsweighed_k67_whole_best_orders_of_jo).prog 10) (kwd := []) K67.hob_eq
    (by kernel_rfl) (fun s => by kernel_rfl) K67.hrunH (by kernel_rfl) (by kernel_rfl) (by kernel_rfl) (by rfl) (by first | assumption | decide +kernel) (by decide +kernel) ⟨rfl, rfl, rfl, rfl, rfl, by decide +kernel⟩ ?hw ?hc
  case hw => w_witness2
  case hc =>
    refine L2.walk_ofE (l := PySem.Challenge.rw_wordsweighed_k67_whole_best_orders_of_jo) (n := 63) (k := 40) (x := "script") (CX := L2.CX0) rfl (by decide) (by kernel_rfl) ⟨rfl, by decide, by decide⟩ ?F (fun _ _ _ _ z => z)
    intro w mg fa h Y G hmg0
    obtain ⟨K, KX, c⟩ := Y
    have hmg : mg ("law" : PySem.Str) = some (.ref fa) := by
      have e : (HandSHeadRun.topDef (OpenLaw.row PySem.Challenge.rw_wordsweighed_k67_whole_best_orders_of_jo).prog 10).name = ("law" : PySem.Str) := by kernel_rfl
      rw [← e]
      exact hmg0
    obtain ⟨fd, sp, hb, hsp, hF⟩ := Rf.law_fn (T := K67.tab) (G := K67.gs) (ss := K67.txt) (k := 40) (i := 8) (P := (PySem.Challenge.rw_wordsweighed_k67_whole_best_orders_of_jo).prog) (w := w) K67.chk K67.bnd rfl rfl rfl rfl rfl K67.law_run KX G hmg c
    exact ⟨K, fd, sp, KX, hb, hsp, hF⟩

