import PyProof.Rows.All
import Wide.All
import OpenK.AllK
import Wide.FinOn
import HandS.ForMost
import HandS.ForExc
import HandS.Defaults
import HandS.Head0
import HandS.Head1
import HandS.Head2
import HandS.HeadEnd
import HandS.HeadHook1
import HandS.HeadHook2
import HandS.Flow
import HandS.Style
import HandS.Wide
import HandS.IsInst
import HandS.Zip
import HandS.TupAny
import HandS.TupMul
import HandS.SortInts
import HandS.CallLocal
import PySem.Challenge.RW_allwritings_k07_whole_rows_joined_and_cu
set_option Elab.async false
set_option linter.all false
set_option maxRecDepth 100000
namespace Mi
open PySem PySem.Spec PyProof.Rows L2

/-! ### plain data -/
inductive D where
  | non | bl (b : Bool) | int (i : Int) | str (x : Str)
  | tup (xs : List D) | lst (xs : List D)
  | obj (c : Nat) (fs : List D)
  | fn (k : Nat)
  | pen
  deriving Inhabited

/-- the pen: its cells, and its four numbers -/
structure Pen where
  cells : List Int
  at_ : Int
  digits : Int
  count : Int
  fold : Int
abbrev PenS := Option Pen

inductive R (α : Type) where
  | ok (a : α) (p : PenS)
  | err (c : Nat) (fs : List D) (p : PenS)
  | stuck
def R.bind {α β : Type} (r : R α) (f : α → PenS → R β) : R β := match r with
  | .ok a p => f a p
  | .err c fs p => .err c fs p
  | .stuck => .stuck
def R.of {α : Type} (o : Option α) (p : PenS) : R α := match o with
  | some a => .ok a p
  | none => .stuck
@[simp] theorem R.bind_ok {α β : Type} (a : α) (p : PenS) (f : α → PenS → R β) : (R.ok a p).bind f = f a p := rfl
@[simp] theorem R.bind_err {α β : Type} (c : Nat) (fs : List D) (p : PenS) (f : α → PenS → R β) : (R.err c fs p).bind f = .err c fs p := rfl
@[simp] theorem R.bind_stuck {α β : Type} (f : α → PenS → R β) : (R.stuck : R α).bind f = .stuck := rfl
@[simp] theorem R.of_some {α : Type} (a : α) (p : PenS) : R.of (some a) p = .ok a p := rfl
@[simp] theorem R.of_none {α : Type} (p : PenS) : R.of (none : Option α) p = .stuck := rfl

/-! ### where things stand -/
/-- addresses: of classes, of defs; attributes of classes -/
structure Ad where
  nc : Nat
  cls : Nat → Addr
  fad : Nat → Addr
  att : Nat → List Str
abbrev PN := Option (Addr × Addr)
section
variable (G : Ad) (pn : PN) (F : Hp)
mutual
inductive Rep : V → D → Prop
  | non : Rep .non .non
  | bl (b : Bool) : Rep (.bl b) (.bl b)
  | int (i : Int) : Rep (.int i) (.int i)
  | str (x : Str) : Rep (.str x) (.str x)
  | tup {a : Addr} {vs : List V} {ds : List D} : F a = some (.tup vs) → Reps vs ds → Rep (.ref a) (.tup ds)
  | lst {a : Addr} {vs : List V} {ds : List D} : F a = some (.lst vs) → Reps vs ds → Rep (.ref a) (.lst ds)
  | obj {a dx : Addr} {c : Nat} {vs : List V} {ds : List D} : c < G.nc → F a = some (.ins (G.cls c) dx ((G.att c).zip vs)) → vs.length = (G.att c).length → Reps vs ds → Rep (.ref a) (.obj c ds)
  | fn (k : Nat) : Rep (.ref (G.fad k)) (.fn k)
  | pen {pa ca : Addr} : pn = some (pa, ca) → Rep (.ref pa) .pen
inductive Reps : List V → List D → Prop
  | nil : Reps [] []
  | cons {v : V} {d : D} {vs : List V} {ds : List D} : Rep v d → Reps vs ds → Reps (v :: vs) (d :: ds)
end
end
section
variable {G : Ad} {pn : PN} {F F' : Hp}
mutual
theorem Rep.mono (h : Same F F') : ∀ {v : V} {d : D}, Rep G pn F v d → Rep G pn F' v d
  | _, _, .non => .non
  | _, _, .bl b => .bl b
  | _, _, .int i => .int i
  | _, _, .str x => .str x
  | _, _, .tup e r => .tup (h _ _ e) (Reps.mono h r)
  | _, _, .lst e r => .lst (h _ _ e) (Reps.mono h r)
  | _, _, .obj c e l r => .obj c (h _ _ e) l (Reps.mono h r)
  | _, _, .fn k => .fn k
  | _, _, .pen e => .pen e
theorem Reps.mono (h : Same F F') : ∀ {vs : List V} {ds : List D}, Reps G pn F vs ds → Reps G pn F' vs ds
  | _, _, .nil => .nil
  | _, _, .cons r t => .cons (Rep.mono h r) (Reps.mono h t)
end
theorem Reps.length : ∀ {vs : List V} {ds : List D}, Reps G pn F vs ds → vs.length = ds.length
  | _, _, .nil => rfl
  | _, _, .cons _ t => congrArg Nat.succ (Reps.length t)
theorem Reps.get : ∀ {vs : List V} {ds : List D} {i : Nat} {d : D}, Reps G pn F vs ds → ds[i]? = some d → ∃ v, vs[i]? = some v ∧ Rep G pn F v d
  | _, _, _, _, .nil, e => by simp at e
  | _, _, 0, _, .cons r _, e => by simp at e; subst e; exact ⟨_, rfl, r⟩
  | _, _, i + 1, _, .cons _ t, e => by
    obtain ⟨v, h1, h2⟩ := Reps.get (i := i) t (by simpa using e)
    exact ⟨v, by simpa using h1, h2⟩
theorem Reps.get' : ∀ {vs : List V} {ds : List D} {i : Nat} {v : V}, Reps G pn F vs ds → vs[i]? = some v → ∃ d, ds[i]? = some d ∧ Rep G pn F v d
  | _, _, _, _, .nil, e => by simp at e
  | _, _, 0, _, .cons r _, e => by simp at e; subst e; exact ⟨_, rfl, r⟩
  | _, _, i + 1, _, .cons _ t, e => by
    obtain ⟨v, h1, h2⟩ := Reps.get' (i := i) t (by simpa using e)
    exact ⟨v, by simpa using h1, h2⟩
theorem Reps.append : ∀ {vs ws : List V} {ds es : List D}, Reps G pn F vs ds → Reps G pn F ws es → Reps G pn F (vs ++ ws) (ds ++ es)
  | _, _, _, _, .nil, s => s
  | _, _, _, _, .cons r t, s => .cons r (Reps.append t s)
theorem Reps.take : ∀ {vs : List V} {ds : List D} (n : Nat), Reps G pn F vs ds → Reps G pn F (vs.take n) (ds.take n)
  | _, _, 0, _ => .nil
  | _, _, _ + 1, .nil => .nil
  | _, _, n + 1, .cons r t => .cons r (Reps.take n t)
theorem Reps.drop : ∀ {vs : List V} {ds : List D} (n : Nat), Reps G pn F vs ds → Reps G pn F (vs.drop n) (ds.drop n)
  | _, _, 0, r => r
  | _, _, _ + 1, .nil => .nil
  | _, _, n + 1, .cons _ t => Reps.drop n t
theorem Reps.set {v : V} {d : D} (r : Rep G pn F v d) : ∀ {vs : List V} {ds : List D} (i : Nat), Reps G pn F vs ds → Reps G pn F (vs.set i v) (ds.set i d)
  | _, _, _, .nil => .nil
  | _, _, 0, .cons _ t => .cons r t
  | _, _, i + 1, .cons q t => .cons q (Reps.set r i t)
theorem Reps.rep {vs : List V} {ds : List D} (h : Reps G pn F vs ds) : ∀ k : Nat, Reps G pn F (List.replicate k vs).flatten (List.replicate k ds).flatten
  | 0 => .nil
  | k + 1 => by
    rw [List.replicate_succ, List.replicate_succ, List.flatten_cons, List.flatten_cons]
    exact h.append (h.rep k)
theorem Reps.reverse : ∀ {vs : List V} {ds : List D}, Reps G pn F vs ds → Reps G pn F vs.reverse ds.reverse
  | _, _, .nil => .nil
  | _, _, .cons r t => by
    rw [List.reverse_cons, List.reverse_cons]
    exact (Reps.reverse t).append (.cons r .nil)
theorem Reps.dropLast {vs : List V} {ds : List D} (h : Reps G pn F vs ds) : Reps G pn F vs.dropLast ds.dropLast := by
  rw [List.dropLast_eq_take, List.dropLast_eq_take, h.length]
  exact h.take _
theorem reps_ints : ∀ (ns : List Int), Reps G pn F (ns.map V.int) (ns.map D.int)
  | [] => .nil
  | n :: ns => .cons (.int n) (reps_ints ns)
/-- ints all along -/
def intsOf : List D → Option (List Int)
  | [] => some []
  | .int i :: r => (intsOf r).map (i :: ·)
  | _ :: _ => none
def bolsOf : List D → Option (List Bool)
  | [] => some []
  | .bl i :: r => (bolsOf r).map (i :: ·)
  | _ :: _ => none
theorem intsOf_map (ns : List Int) : intsOf (ns.map D.int) = some ns := by
  induction ns with
  | nil => rfl
  | cons n ns ih => simp [intsOf, ih]
theorem bolsOf_map (ns : List Bool) : bolsOf (ns.map D.bl) = some ns := by
  induction ns with
  | nil => rfl
  | cons n ns ih => simp [bolsOf, ih]
theorem intsOf_eq : ∀ {ds : List D} {ns : List Int}, intsOf ds = some ns → ds = ns.map D.int
  | [], ns, h => by simp [intsOf] at h; subst h; rfl
  | d :: ds, ns, h => by
    cases d with
    | int i =>
      simp only [intsOf, Option.map_eq_some_iff] at h
      obtain ⟨r, h1, h2⟩ := h
      subst h2
      rw [intsOf_eq h1]; rfl
    | _ => simp [intsOf] at h
theorem bolsOf_eq : ∀ {ds : List D} {ns : List Bool}, bolsOf ds = some ns → ds = ns.map D.bl
  | [], ns, h => by simp [bolsOf] at h; subst h; rfl
  | d :: ds, ns, h => by
    cases d with
    | bl i =>
      simp only [bolsOf, Option.map_eq_some_iff] at h
      obtain ⟨r, h1, h2⟩ := h
      subst h2
      rw [bolsOf_eq h1]; rfl
    | _ => simp [bolsOf] at h
theorem Rep.int_inv {v : V} {i : Int} (h : Rep G pn F v (.int i)) : v = .int i := by cases h; rfl
theorem Rep.bl_inv {v : V} {b : Bool} (h : Rep G pn F v (.bl b)) : v = .bl b := by cases h; rfl
theorem Rep.str_inv {v : V} {b : Str} (h : Rep G pn F v (.str b)) : v = .str b := by cases h; rfl
theorem Rep.non_inv {v : V} (h : Rep G pn F v .non) : v = .non := by cases h; rfl
theorem Rep.tup_inv {v : V} {ds : List D} (h : Rep G pn F v (.tup ds)) : ∃ a vs, v = .ref a ∧ F a = some (.tup vs) ∧ Reps G pn F vs ds := by
  cases h with | tup e r => exact ⟨_, _, rfl, e, r⟩
theorem Rep.lst_inv {v : V} {ds : List D} (h : Rep G pn F v (.lst ds)) : ∃ a vs, v = .ref a ∧ F a = some (.lst vs) ∧ Reps G pn F vs ds := by
  cases h with | lst e r => exact ⟨_, _, rfl, e, r⟩
theorem reps_ints_inv : ∀ {ns : List Int} {vs : List V}, Reps G pn F vs (ns.map D.int) → vs = ns.map V.int
  | [], _, .nil => rfl
  | n :: ns, _, .cons r t => by cases r; rw [reps_ints_inv t]; rfl
theorem reps_bols_inv : ∀ {ns : List Bool} {vs : List V}, Reps G pn F vs (ns.map D.bl) → vs = ns.map V.bl
  | [], _, .nil => rfl
  | n :: ns, _, .cons r t => by cases r; rw [reps_bols_inv t]; rfl
end

/-! ### the heap that data lean on -/
def penK (ca : Addr) (st : Pen) : List (Key × V) :=
  [(.inr "cells", .ref ca), (.inr "at", .int st.at_), (.inr "digits", .int st.digits), (.inr "count", .int st.count), (.inr "fold", .int st.fold)]
/-- F: what data lean on, within H; the pen outside -/
def PenOk (F H : Hp) : PN → PenS → Prop
  | none, none => True
  | some (pa, ca), some st => F pa = none ∧ H pa = some (.dK (penK ca st)) ∧ F ca = some (.lst (st.cells.map V.int))
  | _, _ => False
structure FOk (F H : Hp) (pn : PN) (p : PenS) : Prop where
  sub : Same F H
  pen : PenOk F H pn p
def IsPen (pn : PN) (a : Addr) : Prop := ∃ ca, pn = some (a, ca)
/-- from (F, H) to (F', H'): all but the pen is kept -/
structure Step (pn : PN) (p' : PenS) (F H F' H' : Hp) : Prop where
  keep : ∀ a o, ¬ IsPen pn a → H a = some o → H' a = some o
  there : ∀ a, H' a = none → H a = none
  same : Same F F'
  new : ∀ a, F' a ≠ none → F a ≠ none ∨ H a = none
  ok : FOk F' H' pn p'
section
variable {pn : PN} {p p' p'' : PenS} {F H F' H' F'' H'' : Hp} {a : Addr} {o : HO}
theorem FOk.noPen (h : FOk F H pn p) : ∀ a, IsPen pn a → F a = none ∧ H a ≠ none := by
  rintro a ⟨ca, rfl⟩
  have z := h.pen
  cases p with
  | none => exact z.elim
  | some st =>
    obtain ⟨z1, z2, _⟩ := z
    exact ⟨z1, by rw [z2]; simp⟩
theorem FOk.not_pen (h : FOk F H pn p) {a : Addr} {o : HO} (e : F a = some o) : ¬ IsPen pn a := fun q => by
  rw [(h.noPen a q).1] at e; cases e
theorem Step.refl (h : FOk F H pn p) : Step pn p F H F H := ⟨fun _ _ _ e => e, fun _ e => e, Same.refl F, fun _ e => .inl e, h⟩
theorem Step.trans (s : Step pn p' F H F' H') (t : Step pn p'' F' H' F'' H'') : Step pn p'' F H F'' H'' where
  keep := fun a o n e => t.keep a o n (s.keep a o n e)
  there := fun a e => s.there a (t.there a e)
  same := s.same.trans t.same
  new := fun a e => by
    rcases t.new a e with z | z
    · exact s.new a z
    · exact .inr (s.there a z)
  ok := t.ok
/-- a new cell that data lean on -/
theorem Step.laid (h : FOk F H pn p) (hn : H a = none) : Step pn p F H (upd F a o) (upd H a o) where
  keep := fun b u _ e => by rw [upd_ne (ne_of_none e hn)]; exact e
  there := fun b e => by
    by_cases hb : b = a
    · subst hb; exact hn
    · rw [upd_ne hb] at e; exact e
  same := fun b u e => by
    have : b ≠ a := fun z => by subst z; rw [h.sub b u e] at hn; cases hn
    rw [upd_ne this]; exact e
  new := fun b e => by
    by_cases hb : b = a
    · subst hb; exact .inr hn
    · rw [upd_ne hb] at e; exact .inl e
  ok := by
    refine ⟨fun b u e => ?_, ?_⟩
    · by_cases hb : b = a
      · subst hb; rw [upd_same] at e ⊢; exact e
      · rw [upd_ne hb] at e ⊢; exact h.sub b u e
    · have z := h.pen
      cases pn with
      | none => cases p with | none => trivial | some _ => exact z.elim
      | some q =>
        obtain ⟨pa, ca⟩ := q
        cases p with
        | none => exact z.elim
        | some st =>
          obtain ⟨z1, z2, z3⟩ := z
          have hpa : pa ≠ a := fun e => by subst e; rw [hn] at z2; cases z2
          have hca : ca ≠ a := fun e => by subst e; rw [h.sub _ _ z3] at hn; cases hn
          exact ⟨by rw [upd_ne hpa]; exact z1, by rw [upd_ne hpa]; exact z2, by rw [upd_ne hca]; exact z3⟩
/-- a new cell that data do not lean on -/
theorem Step.side (h : FOk F H pn p) (hn : H a = none) : Step pn p F H F (upd H a o) where
  keep := fun b u _ e => by rw [upd_ne (ne_of_none e hn)]; exact e
  there := fun b e => by
    by_cases hb : b = a
    · subst hb; exact hn
    · rw [upd_ne hb] at e; exact e
  same := Same.refl F
  new := fun b e => .inl e
  ok := by
    refine ⟨fun b u e => ?_, ?_⟩
    · have : b ≠ a := fun z => by subst z; rw [h.sub b u e] at hn; cases hn
      rw [upd_ne this]; exact h.sub b u e
    · have z := h.pen
      cases pn with
      | none => cases p with | none => trivial | some _ => exact z.elim
      | some q =>
        obtain ⟨pa, ca⟩ := q
        cases p with
        | none => exact z.elim
        | some st =>
          obtain ⟨z1, z2, z3⟩ := z
          have hpa : pa ≠ a := fun e => by subst e; rw [hn] at z2; cases z2
          exact ⟨z1, by rw [upd_ne hpa]; exact z2, z3⟩
/-- a further cell of the heap is leant on -/
theorem Step.more (h : FOk F H pn p) (hF : F a = none) (hH : H a = some o) (hp : ¬ IsPen pn a) : FOk (upd F a o) H pn p := by
  refine ⟨fun b u e => ?_, ?_⟩
  · by_cases hb : b = a
    · subst hb; rw [upd_same] at e; cases e; exact hH
    · rw [upd_ne hb] at e; exact h.sub b u e
  · have z := h.pen
    cases pn with
    | none => cases p with | none => trivial | some _ => exact z.elim
    | some q =>
      obtain ⟨pa, ca⟩ := q
      cases p with
      | none => exact z.elim
      | some st =>
        obtain ⟨z1, z2, z3⟩ := z
        have hpa : pa ≠ a := fun e => hp ⟨ca, by rw [e]⟩
        have hca : ca ≠ a := fun e => by subst e; rw [hF] at z3; cases z3
        exact ⟨by rw [upd_ne hpa]; exact z1, z2, by rw [upd_ne hca]; exact z3⟩
end
end Mi

set_option Elab.async false
set_option linter.all false
set_option maxRecDepth 100000
namespace Mi
open PySem PySem.Spec PyProof.Rows L2

/-! ### operations on data -/
mutual
def D.py : D → PyData
  | .non => .none
  | .bl b => .bool b
  | .int i => .int i
  | .str x => .str x
  | .tup xs => .tuple (pyAll xs)
  | .lst xs => .list (pyAll xs)
  | .obj _ _ => .dict []
  | .fn _ => .dict []
  | .pen => .dict []
def pyAll : List D → List PyData
  | [] => []
  | d :: ds => d.py :: pyAll ds
end
def deq (d e : D) : Option Bool := if (SeqAt.shaped d.py && SeqAt.shaped e.py) = true then some (PyData.eqv d.py e.py) else none

inductive BOp | add | sub | mul | fdiv | mod | pow
inductive COp | eq | ne | lt | le | gt | ge | is_ | isnot
def mulOk (i j : Int) : Prop := CMul i j ∨ CMulW i j
instance (i j : Int) : Decidable (mulOk i j) := by unfold mulOk CMul CMulW; infer_instance
def divOk (i j : Int) : Prop := CDivN i j ∨ CDivW i j
instance (i j : Int) : Decidable (divOk i j) := by unfold divOk CDivN CDivW; infer_instance
instance (i j : Int) : Decidable (CPow i j) := by unfold CPow; infer_instance
def bin : BOp → D → D → Option D
  | .add, .int i, .int j => some (.int (i + j))
  | .add, .tup xs, .tup ys => if xs.length + ys.length ≤ sizeLine then some (.tup (xs ++ ys)) else none
  | .add, .lst xs, .lst ys => if xs.length + ys.length ≤ sizeLine then some (.lst (xs ++ ys)) else none
  | .sub, .int i, .int j => some (.int (i - j))
  | .mul, .int i, .int j => if mulOk i j then some (.int (i * j)) else none
  | .mul, .tup xs, .int k => if 0 ≤ k ∧ k ≤ 1000 ∧ xs.length ≤ 1000 then some (.tup (List.replicate k.toNat xs).flatten) else none
  | .mul, .lst xs, .int k => if 0 ≤ k ∧ k < 2 ^ 62 ∧ xs.length * k.toNat ≤ sizeLine then some (.lst (List.replicate k.toNat xs).flatten) else none
  | .fdiv, .int i, .int j => if divOk i j then some (.int (i.fdiv j)) else none
  | .mod, .int i, .int j => if j ≠ 0 then some (.int (i.fmod j)) else none
  | .pow, .int i, .int j => if CPow i j then some (.int (i ^ j.toNat)) else none
  | _, _, _ => none
def D.isNon : D → Bool
  | .non => true
  | _ => false
/-- is one of the two truth values -/
def isB : D → Bool → Option Bool
  | .bl a, b => some (decide (a = b))
  | .non, _ => some false
  | .int _, _ => some false
  | .str _, _ => some false
  | .tup _, _ => some false
  | .lst _, _ => some false
  | .obj _ _, _ => some false
  | _, _ => none
def cmpV : COp → D → D → Option Bool
  | .eq, d, e => deq d e
  | .ne, d, e => (deq d e).map (!·)
  | .lt, .int i, .int j => some (decide (i < j))
  | .le, .int i, .int j => some (decide (i ≤ j))
  | .gt, .int i, .int j => some (decide (j < i))
  | .ge, .int i, .int j => some (decide (j ≤ i))
  | .is_, d, .non => some d.isNon
  | .isnot, d, .non => some (!d.isNon)
  | .is_, d, .bl b => isB d b
  | .isnot, d, .bl b => (isB d b).map (!·)
  | _, _, _ => none
def truth : D → Option Bool
  | .non => some false
  | .bl b => some b
  | .int i => some (i != 0)
  | .tup xs => some (!xs.isEmpty)
  | .lst xs => some (!xs.isEmpty)
  | _ => none
def idx (d i : D) : Option D := match d, i with
  | .tup xs, .int i => atI xs i
  | .lst xs, .int i => atI xs i
  | _, _ => none
def cutD (xs : List D) (lo hi : Option Int) : List D := (xs.drop (HT.sIx xs.length 0 lo)).take (HT.sIx xs.length xs.length hi - HT.sIx xs.length 0 lo)
def slc (d : D) (lo hi : Option Int) : Option D := match d with
  | .tup xs => some (.tup (cutD xs lo hi))
  | .lst xs => some (.lst (cutD xs lo hi))
  | _ => none
def asInt : D → Option Int
  | .int i => some i
  | _ => none

/-- built-in functions by name -/
inductive BF | len | tuple | list | int | abs | max | min | sum | all | any | sorted
  deriving DecidableEq
def maxOf : List Int → Option Int
  | [] => none
  | x :: xs => some (xs.foldl (fun m y => if m < y then y else m) x)
def minOf : List Int → Option Int
  | [] => none
  | x :: xs => some (xs.foldl (fun m y => if y < m then y else m) x)
def bfn : BF → List D → Option D
  | .len, [.tup xs] => some (.int xs.length)
  | .len, [.lst xs] => some (.int xs.length)
  | .tuple, [.tup xs] => some (.tup xs)
  | .tuple, [.lst xs] => some (.tup xs)
  | .list, [.tup xs] => some (.lst xs)
  | .list, [.lst xs] => some (.lst xs)
  | .int, [.int i] => some (.int i)
  | .int, [.bl b] => some (.int (if b then 1 else 0))
  | .abs, [.int i] => some (.int (if i < 0 then -i else i))
  | .max, [.int i, .int j] => some (.int (if j > i then j else i))
  | .min, [.int i, .int j] => some (.int (if j < i then j else i))
  | .max, [.lst xs] => (intsOf xs).bind fun ns => (maxOf ns).map D.int
  | .min, [.lst xs] => (intsOf xs).bind fun ns => (minOf ns).map D.int
  | .sum, [.lst xs] => (intsOf xs).map fun ns => .int ns.sum
  | .all, [.lst xs] => (bolsOf xs).map fun bs => .bl (bs.all id)
  | .any, [.lst xs] => (bolsOf xs).map fun bs => .bl (bs.any id)
  | .sorted, [.lst xs] => (intsOf xs).map fun ns => .lst ((ns.mergeSort (fun a b => decide (a ≤ b))).map D.int)
  | _, _ => none
/-- types, for isinstance -/
inductive Ty | b (n : String) | c (k : Nat)
  deriving DecidableEq
def tyD : D → Option Ty
  | .non => some (.b "NoneType")
  | .bl _ => some (.b "bool")
  | .int _ => some (.b "int")
  | .str _ => some (.b "str")
  | .tup _ => some (.b "tuple")
  | .lst _ => some (.b "list")
  | .obj c _ => some (.c c)
  | _ => none
def kit : Ty → Ty → Option Bool
  | .b a, .b b => kitB a b
  | .c i, .c j => some (decide (i = j))
  | .c _, .b _ => some false
  | .b _, .c _ => some false
def kits (t : Ty) : List Ty → Option Bool
  | [] => some false
  | c :: cs => match kit t c with
    | some true => some true
    | some false => kits t cs
    | none => none

/-! ### the small language -/
inductive Tg | nm (i : Nat) | tp (is : List Nat)
mutual
inductive IE where
  | int (i : Int) | bl (b : Bool) | non | str (x : Str)
  | var (i : Nat) | con (k : Nat) | fnv (k : Nat)
  | bin (o : BOp) (a b : IE)
  | neg (a : IE) | not (a : IE)
  | cmp (o : COp) (a b : IE)
  | chain (o o' : COp) (a b c : IE)
  | and (xs : IEs) | or (xs : IEs)
  | ite (c a b : IE)
  | tup (xs : IEs) | lst (xs : IEs)
  | ix (a b : IE)
  | sl (a : IE) (lo hi : IO)
  | fld (a : IE) (f : Str)
  | call (k : Nat) (xs : IEs)
  | mk (c : Nat) (xs : IEs)
  | blt (f : BF) (xs : IEs)
  | isi (a : IE) (t : Ty)
  | isis (a : IE) (ts : List Ty)
  | comp (elt : IE) (tg : Tg) (it : II) (ifs : IEs) (own : List (Str × Nat))
  | pget (a : IE) (f : Str)
  | eqo (ne : Bool) (c k : Nat) (a b : IE)
inductive IEs where
  | nil | cons (a : IE) (r : IEs)
inductive IO where
  | no | so (a : IE)
inductive II where
  | seq (a : IE)
  | rng1 (a : IE)
  | rng2 (a b : IE)
  | zip (a b : IE)
  | enum (a : IE)
end
mutual
inductive IS where
  | asg (i : Nat) (e : IE)
  | asgB (i : Nat) (e : IE)
  | par (i j : Nat) (a b : IE)
  | unp (is : List Nat) (e : IE)
  | own (i : Nat) (e : IE)
  | app (i : Nat) (e : IE)
  | appB (i : Nat) (e : IE)
  | setf (i : Nat) (f : Str) (e : IE)
  | pset (f : Str) (e : IE) (a : IE)
  | drop (e : IE)
  | iff (c : IE) (a b : ISs)
  | whl (c : IE) (b : ISs)
  | for_ (tg : Tg) (it : II) (b : ISs)
  | ret (e : IE) | retN
  | brk | cnt | pas | nvr
inductive ISs where
  | nil | cons (a : IS) (r : ISs)
  | frz (i : Nat) (r : ISs)
end

/-! ### what it means -/
abbrev DEnv := List (Option D)
abbrev Den := List D → PenS → R D
def wipeD (ρ : DEnv) : List Nat → DEnv
  | [] => ρ
  | v :: vs => (wipeD ρ vs).set v none
def setAll (ρ : DEnv) : List Nat → List D → Option DEnv
  | [], [] => some ρ
  | i :: is, d :: ds => setAll (ρ.set i (some d)) is ds
  | _, _ => none
def asgTg (ρ : DEnv) : Tg → D → Option DEnv
  | .nm i, d => some (ρ.set i (some d))
  | .tp is, .tup ds => setAll ρ is ds
  | .tp _, _ => none
def R.calm {α : Type} : R α → R α
  | .ok a p => .ok a p
  | _ => .stuck
def compLoop (f : D → PenS → R (Option D)) : List D → PenS → R (List D)
  | [], p => .ok [] p
  | d :: ds, p => (f d p).bind fun o p => (compLoop f ds p).bind fun r p => .ok (match o with | some x => x :: r | none => r) p
def rng (a b : Int) : List D := (List.range (b - a).toNat).map fun i => D.int (a + (i : Nat))
def enumD : Nat → List D → List D
  | _, [] => []
  | n, d :: ds => .tup [.int (n : Nat), d] :: enumD (n + 1) ds
def zipD : List D → List D → List D
  | x :: xs, y :: ys => .tup [x, y] :: zipD xs ys
  | _, _ => []
def seqOf : D → Option (List D)
  | .tup xs => some xs
  | .lst xs => some xs
  | _ => none
/-- of two sequences of one kind -/
def zipOf : D → D → Option (List D)
  | .tup xs, .tup ys => some (zipD xs ys)
  | .lst xs, .lst ys => some (zipD xs ys)
  | _, _ => none
def enumOf : D → Option (List D)
  | .lst xs => some (enumD 0 xs)
  | _ => none
def smallI (i : Int) : Prop := -(2 ^ 62) ≤ i ∧ i < 2 ^ 62
instance (i : Int) : Decidable (smallI i) := by unfold smallI; infer_instance
def rngOf (a b : Int) : Option (List D) := if smallI a ∧ smallI b ∧ (b - a).toNat ≤ sizeLine then some (rng a b) else none
def penGet (f : Str) (st : Pen) : Option D :=
  if f = "cells" then some (.lst (st.cells.map D.int)) else if f = "at" then some (.int st.at_) else if f = "digits" then some (.int st.digits)
  else if f = "count" then some (.int st.count) else if f = "fold" then some (.int st.fold) else none
def penSet (f : Str) (i : Int) (st : Pen) : Option Pen :=
  if f = "at" then some { st with at_ := i } else if f = "digits" then some { st with digits := i }
  else if f = "count" then some { st with count := i } else if f = "fold" then some { st with fold := i } else none

/-- the text's tables: constants, what defs give, what classes are made with, attributes -/
def eqRes (ne : Bool) : D → PenS → R D
  | .bl t, p => .ok (.bl (if ne = true then !t else t)) p
  | _, _ => .stuck
/-- both objects of that class -/
def eqArgs (c : Nat) : D → D → Option (List D)
  | .obj i fs, .obj j gs => if i = c ∧ j = c then some [.obj c fs, .obj c gs] else none
  | _, _ => none
structure Sem0 where
  con : Nat → Option Int
  den : Nat → Den
  ini : Nat → List D → PenS → R (List D)
  att : Nat → List Str
section
variable (S : Sem0)
mutual
def evE : IE → DEnv → PenS → R D
  | .int i, _, p => .ok (.int i) p
  | .bl b, _, p => .ok (.bl b) p
  | .non, _, p => .ok .non p
  | .str x, _, p => .ok (.str x) p
  | .var i, ρ, p => R.of (ρ[i]?.join) p
  | .con k, _, p => R.of ((S.con k).map D.int) p
  | .fnv k, _, p => .ok (.fn k) p
  | .bin o a b, ρ, p => (evE a ρ p).bind fun x p => (evE b ρ p).bind fun y p => R.of (bin o x y) p
  | .neg a, ρ, p => (evE a ρ p).bind fun x p => R.of ((asInt x).map fun i => .int (-i)) p
  | .not a, ρ, p => (evE a ρ p).bind fun x p => R.of ((truth x).map fun b => .bl (!b)) p
  | .cmp o a b, ρ, p => (evE a ρ p).bind fun x p => (evE b ρ p).bind fun y p => R.of ((cmpV o x y).map .bl) p
  | .chain o o' a b c, ρ, p => (evE a ρ p).bind fun x p => (evE b ρ p).bind fun y p => (R.of (cmpV o x y) p).bind fun k p =>
      if k = true then (evE c ρ p).bind fun z p => R.of ((cmpV o' y z).map .bl) p else .ok (.bl false) p
  | .and xs, ρ, p => evAnd xs ρ p
  | .or xs, ρ, p => evOr xs ρ p
  | .ite c a b, ρ, p => (evT c ρ p).bind fun k p => if k = true then evE a ρ p else evE b ρ p
  | .tup xs, ρ, p => (evEs xs ρ p).bind fun ds p => R.of (if ds.length ≤ sizeLine then some (.tup ds) else none) p
  | .lst xs, ρ, p => (evEs xs ρ p).bind fun ds p => R.of (if ds.length ≤ sizeLine then some (.lst ds) else none) p
  | .ix a b, ρ, p => (evE a ρ p).bind fun x p => (evE b ρ p).bind fun y p => R.of (idx x y) p
  | .sl a lo hi, ρ, p => (evE a ρ p).bind fun x p => (evO lo ρ p).bind fun l p => (evO hi ρ p).bind fun u p => R.of (slc x l u) p
  | .fld a f, ρ, p => (evE a ρ p).bind fun x p => R.of (match x with
      | .obj c ds => (((S.att c).zip ds).lookup f)
      | _ => none) p
  | .call k xs, ρ, p => (evEs xs ρ p).bind fun ds p => S.den k ds p
  | .mk c xs, ρ, p => (evEs xs ρ p).bind fun ds p => (S.ini c ds p).bind fun fs p => .ok (.obj c fs) p
  | .blt f xs, ρ, p => (evEs xs ρ p).bind fun ds p => R.of (bfn f ds) p
  | .isi a t, ρ, p => (evE a ρ p).bind fun x p => R.of ((tyD x).bind fun u => (kit u t).map .bl) p
  | .isis a ts, ρ, p => (evE a ρ p).bind fun x p => R.of ((tyD x).bind fun u => (kits u ts).map .bl) p
  | .comp elt tg it ifs own, ρ, p => (evI it ρ p).bind fun ds p => if ds.length ≤ sizeLine then
      (compLoop (fun d p => ((R.of (asgTg (wipeD ρ (own.map (·.2))) tg d) p).bind fun ρ' p => (evAndT ifs ρ' p).bind fun k p => if k = true then (evE elt ρ' p).bind fun x p => .ok (some x) p else .ok none p).calm) ds p).bind fun xs p => .ok (.lst xs) p
      else .stuck
  | .pget a f, ρ, p => (evE a ρ p).bind fun x p => match x, p with
      | .pen, some st => R.of (penGet f st) p
      | _, _ => .stuck
  | .eqo ne c k a b, ρ, p => (evE a ρ p).bind fun x p => (evE b ρ p).bind fun y p => (R.of (eqArgs c x y) p).bind fun ds p => (S.den k ds p).bind (eqRes ne)
def evT : IE → DEnv → PenS → R Bool
  | .not a, ρ, p => (evT a ρ p).bind fun b p => .ok (!b) p
  | .and xs, ρ, p => evAndT xs ρ p
  | .or xs, ρ, p => evOrT xs ρ p
  | .cmp o a b, ρ, p => (evE a ρ p).bind fun x p => (evE b ρ p).bind fun y p => R.of (cmpV o x y) p
  | .chain o o' a b c, ρ, p => (evE a ρ p).bind fun x p => (evE b ρ p).bind fun y p => (R.of (cmpV o x y) p).bind fun k p =>
      if k = true then (evE c ρ p).bind fun z p => R.of (cmpV o' y z) p else .ok false p
  | .ite _ _ _, _, _ => .stuck
  | .var i, ρ, p => (R.of (ρ[i]?.join) p).bind fun x p => R.of (truth x) p
  | .call k xs, ρ, p => (evEs xs ρ p).bind fun ds p => (S.den k ds p).bind fun x p => R.of (truth x) p
  | .blt f xs, ρ, p => (evEs xs ρ p).bind fun ds p => (R.of (bfn f ds) p).bind fun x p => R.of (truth x) p
  | .isi a t, ρ, p => (evE a ρ p).bind fun x p => R.of ((tyD x).bind fun u => kit u t) p
  | .isis a ts, ρ, p => (evE a ρ p).bind fun x p => R.of ((tyD x).bind fun u => kits u ts) p
  | .fld a f, ρ, p => (evE a ρ p).bind fun x p => (R.of (match x with
      | .obj c ds => (((S.att c).zip ds).lookup f)
      | _ => none) p).bind fun x p => R.of (truth x) p
  | .bl b, _, p => .ok b p
  | .eqo ne c k a b, ρ, p => (evE a ρ p).bind fun x p => (evE b ρ p).bind fun y p => (R.of (eqArgs c x y) p).bind fun ds p => ((S.den k ds p).bind (eqRes ne)).bind fun x p => R.of (truth x) p
  | _, _, _ => .stuck
def evEs : IEs → DEnv → PenS → R (List D)
  | .nil, _, p => .ok [] p
  | .cons a r, ρ, p => (evE a ρ p).bind fun x p => (evEs r ρ p).bind fun xs p => .ok (x :: xs) p
def evAnd : IEs → DEnv → PenS → R D
  | .nil, _, _ => .stuck
  | .cons a .nil, ρ, p => evE a ρ p
  | .cons a (.cons b r), ρ, p => (evE a ρ p).bind fun x p => (R.of (truth x) p).bind fun k p => if k = true then evAnd (.cons b r) ρ p else .ok x p
def evOr : IEs → DEnv → PenS → R D
  | .nil, _, _ => .stuck
  | .cons a .nil, ρ, p => evE a ρ p
  | .cons a (.cons b r), ρ, p => (evE a ρ p).bind fun x p => (R.of (truth x) p).bind fun k p => if k = true then .ok x p else evOr (.cons b r) ρ p
def evAndT : IEs → DEnv → PenS → R Bool
  | .nil, _, p => .ok true p
  | .cons a r, ρ, p => (evT a ρ p).bind fun k p => if k = true then evAndT r ρ p else .ok false p
def evOrT : IEs → DEnv → PenS → R Bool
  | .nil, _, p => .ok false p
  | .cons a r, ρ, p => (evT a ρ p).bind fun k p => if k = true then .ok true p else evOrT r ρ p
def evO : IO → DEnv → PenS → R (Option Int)
  | .no, _, p => .ok none p
  | .so a, ρ, p => (evE a ρ p).bind fun x p => R.of ((asInt x).map some) p
def evI : II → DEnv → PenS → R (List D)
  | .seq a, ρ, p => (evE a ρ p).bind fun x p => R.of (seqOf x) p
  | .rng1 a, ρ, p => (evE a ρ p).bind fun x p => R.of ((asInt x).bind fun i => rngOf 0 i) p
  | .rng2 a b, ρ, p => (evE a ρ p).bind fun x p => (evE b ρ p).bind fun y p => R.of ((asInt x).bind fun i => (asInt y).bind fun j => rngOf i j) p
  | .zip a b, ρ, p => (evE a ρ p).bind fun x p => (evE b ρ p).bind fun y p => R.of (zipOf x y) p
  | .enum a, ρ, p => (evE a ρ p).bind fun x p => R.of (enumOf x) p
end
end

/-! ### statements -/
/-- a slot: nothing known; plain data; a list of one's own; an object of one's own in the making -/
inductive Sl | u | d (x : D) | o (xs : List D) | w (c : Nat) (fs : List D)
abbrev SEnv := List Sl
/-- what an expression sees: data alone; lists of one's own too -/
def Sl.see : Sl → Option D
  | .d x => some x
  | _ => none
def Sl.seeB : Sl → Option D
  | .d x => some x
  | .o xs => some (.lst xs)
  | _ => none
abbrev see (ρ : SEnv) : DEnv := ρ.map Sl.see
abbrev seeB (ρ : SEnv) : DEnv := ρ.map Sl.seeB
/-! no list within: nothing that one's own lists could be part of -/
mutual
def noLst : D → Bool
  | .lst _ => false
  | .tup xs => noLsts xs
  | .obj _ xs => noLsts xs
  | .fn _ => true
  | .pen => true
  | .non => true | .bl _ => true | .int _ => true | .str _ => true
def noLsts : List D → Bool
  | [] => true
  | d :: ds => noLst d && noLsts ds
end
inductive Fl | nx | bk | ct | rt (d : D)
def setSl (ρ : SEnv) : List Nat → List D → Option SEnv
  | [], [] => some ρ
  | i :: is, d :: ds => setSl (ρ.set i (.d d)) is ds
  | _, _ => none
def tgSl (ρ : SEnv) : Tg → D → Option SEnv
  | .nm i, d => some (ρ.set i (.d d))
  | .tp is, .tup ds => setSl ρ is ds
  | .tp _, _ => none
def forLoop (f : D → SEnv → PenS → R (Fl × SEnv)) : List D → SEnv → PenS → R (Fl × SEnv)
  | [], ρ, p => .ok (.nx, ρ) p
  | d :: ds, ρ, p => (f d ρ p).bind fun (fl, ρ) p => match fl with
    | .nx => forLoop f ds ρ p
    | .ct => forLoop f ds ρ p
    | .bk => .ok (.nx, ρ) p
    | .rt v => .ok (.rt v, ρ) p
/-- n turns at most -/
def whN (c : SEnv → PenS → R Bool) (f : SEnv → PenS → R (Fl × SEnv)) : Nat → SEnv → PenS → R (Fl × SEnv)
  | 0, _, _ => .stuck
  | n + 1, ρ, p => (c ρ p).bind fun k p => if k = true then (f ρ p).bind fun (fl, ρ) p => match fl with
      | .nx => whN c f n ρ p
      | .ct => whN c f n ρ p
      | .bk => .ok (.nx, ρ) p
      | .rt v => .ok (.rt v, ρ) p
    else .ok (.nx, ρ) p
open Classical in
noncomputable def whW (c : SEnv → PenS → R Bool) (f : SEnv → PenS → R (Fl × SEnv)) (ρ : SEnv) (p : PenS) : R (Fl × SEnv) :=
  if h : ∃ n, whN c f n ρ p ≠ .stuck then whN c f h.choose ρ p else .stuck
section
variable (S : Sem0)
/-- fresh lists -/
def evOwn (e : IE) (ρ : DEnv) (p : PenS) : R (List D) := (evE S e ρ p).bind fun d p => match d with
  | .lst xs => .ok xs p
  | _ => .stuck
mutual
noncomputable def evS : IS → SEnv → PenS → R (Fl × SEnv)
  | .asg i e, ρ, p => (evE S e (see ρ) p).bind fun d p => .ok (.nx, ρ.set i (.d d)) p
  | .asgB i e, ρ, p => (evE S e (seeB ρ) p).bind fun d p => if noLst d = true then .ok (.nx, ρ.set i (.d d)) p else .stuck
  | .par i j a b, ρ, p => (evE S a (see ρ) p).bind fun x p => (evE S b (see ρ) p).bind fun y p => .ok (.nx, (ρ.set i (.d x)).set j (.d y)) p
  | .unp is e, ρ, p => (evE S e (see ρ) p).bind fun d p => (R.of (tgSl ρ (.tp is) d) p).bind fun ρ p => .ok (.nx, ρ) p
  | .own i e, ρ, p => (evOwn S e (see ρ) p).bind fun xs p => .ok (.nx, ρ.set i (.o xs)) p
  | .app i e, ρ, p => match ρ[i]? with
      | some (.o xs) => (evE S e (see ρ) p).bind fun d p => if xs.length < sizeLine then .ok (.nx, ρ.set i (.o (xs ++ [d]))) p else .stuck
      | _ => .stuck
  | .appB i e, ρ, p => match ρ[i]? with
      | some (.o xs) => (evE S e (seeB ρ) p).bind fun d p => if xs.length < sizeLine ∧ noLst d = true then .ok (.nx, ρ.set i (.o (xs ++ [d]))) p else .stuck
      | _ => .stuck
  | .setf i f e, ρ, p => (evE S e (see ρ) p).bind fun d p => match ρ[i]? with
      | some (.w c fs) => if (S.att c)[fs.length]? = some f then .ok (.nx, ρ.set i (.w c (fs ++ [d]))) p else .stuck
      | _ => .stuck
  | .pset f e a, ρ, p => (evE S e (see ρ) p).bind fun d p => (evE S a (see ρ) p).bind fun q p => match q, d, p with
      | .pen, .int i, some st => (match penSet f i st with
        | some st' => .ok (.nx, ρ) (some st')
        | none => .stuck)
      | _, _, _ => .stuck
  | .drop e, ρ, p => (evE S e (seeB ρ) p).bind fun _ p => .ok (.nx, ρ) p
  | .iff c a b, ρ, p => (evT S c (seeB ρ) p).bind fun k p => if k = true then evSs a ρ p else evSs b ρ p
  | .whl c b, ρ, p => whW (fun ρ p => evT S c (seeB ρ) p) (fun ρ p => evSs b ρ p) ρ p
  | .for_ tg it b, ρ, p => (evI S it (see ρ) p).bind fun ds p => forLoop (fun d ρ p => (R.of (tgSl ρ tg d) p).bind fun ρ p => evSs b ρ p) ds ρ p
  | .ret e, ρ, p => (evE S e (seeB ρ) p).bind fun d p => .ok (.rt d, ρ) p
  | .retN, ρ, p => .ok (.rt .non, ρ) p
  | .brk, ρ, p => .ok (.bk, ρ) p
  | .cnt, ρ, p => .ok (.ct, ρ) p
  | .pas, ρ, p => .ok (.nx, ρ) p
  | .nvr, _, _ => .stuck
noncomputable def evSs : ISs → SEnv → PenS → R (Fl × SEnv)
  | .nil, ρ, p => .ok (.nx, ρ) p
  | .cons a r, ρ, p => (evS a ρ p).bind fun (fl, ρ) p => match fl with
    | .nx => evSs r ρ p
    | fl => .ok (fl, ρ) p
  | .frz i r, ρ, p => match ρ[i]? with
    | some (.o xs) => evSs r (ρ.set i (.d (.lst xs))) p
    | _ => .stuck
end
/-- a def's body -/
noncomputable def evFn (n : Nat) (b : ISs) : Den := fun ds p => (evSs S b (ds.map Sl.d ++ List.replicate (n - ds.length) .u) p).bind fun (fl, _) p => match fl with
  | .rt d => .ok d p
  | .nx => .ok .non p
  | _ => .stuck
/-- an __init__'s body: slot 0 is the object -/
noncomputable def evIni (n c : Nat) (b : ISs) : List D → PenS → R (List D) := fun ds p => (evSs S b (.w c [] :: (ds.map Sl.d ++ List.replicate (n - 1 - ds.length) .u)) p).bind fun (fl, ρ) p => match fl, (ρ[0]? : Option Sl) with
  | .nx, some (Sl.w c' fs) => if c' = c ∧ fs.length = (S.att c).length then .ok fs p else .stuck
  | _, _ => .stuck
end
end Mi

set_option Elab.async false
set_option linter.all false
set_option maxRecDepth 100000
namespace Mi
open PySem PySem.Spec PyProof.Rows L2

/-! ### what is wanted behind a piece -/
/-- an exception at dx: its fields by name -/
def XAt (G : Ad) (pn : PN) (F H : Hp) (c : Nat) (fs : List D) (dx : Addr) : Prop :=
  ∃ ws, H dx = some (.xd ws) ∧ fs.length = (G.att c).length ∧ ∀ (i : Nat) (f : Str) (d : D), (G.att c)[i]? = some f → fs[i]? = some d → ∃ v, ws.lookup f = some v ∧ Rep G pn F v d
def Out {α β : Type} (G : Ad) (rep : Hp → β → α → Prop) (E : XK) (pn : PN) (F H : Hp) (r : R α) (Q : β → Hp → Prop) : Prop := match r with
  | .ok a p' => ∀ b F' H', Step pn p' F H F' H' → rep F' b a → Q b H'
  | .err c fs p' => ∀ F' H' dx, Step pn p' F H F' H' → XAt G pn F' H' c fs dx → E (.ref (G.cls c)) (some dx) H'
  | .stuck => False
section
variable {G : Ad} {E : XK} {pn : PN} {F H : Hp} {p : PenS}
theorem Out.bind {α β α' β' : Type} {rep : Hp → β → α → Prop} {rep' : Hp → β' → α' → Prop} {r : R α} {f : α → PenS → R α'} {Q : β' → Hp → Prop} 
    (h : Out G rep' E pn F H (r.bind f) Q) : Out G rep E pn F H r (fun b H1 => ∃ F1 p1 a, r = .ok a p1 ∧ Step pn p1 F H F1 H1 ∧ rep F1 b a ∧ Out G rep' E pn F1 H1 (f a p1) Q) := by
  cases r with
  | stuck => exact h
  | err c fs p1 => exact h
  | ok a p1 =>
    intro b F1 H1 s rp
    refine ⟨F1, p1, a, rfl, s, rp, ?_⟩
    have h' : Out G rep' E pn F H (f a p1) Q := h
    cases e : f a p1 with
    | stuck => rw [e] at h'; exact h'
    | err c fs p2 => rw [e] at h'; exact fun F' H' dx s' x => h' F' H' dx (s.trans s') x
    | ok a' p2 => rw [e] at h'; exact fun b' F' H' s' x => h' b' F' H' (s.trans s') x
theorem Out.imp {α β : Type} {rep : Hp → β → α → Prop} {r : R α} {Q Q' : β → Hp → Prop} (h : Out G rep E pn F H r Q) (q : ∀ b H', Q b H' → Q' b H') : Out G rep E pn F H r Q' := by
  cases r with
  | stuck => exact h
  | err c fs p1 => exact h
  | ok a p1 => exact fun b F' H' s x => q _ _ (h b F' H' s x)
/-- a value that is there -/
theorem Out.here {α β : Type} {rep : Hp → β → α → Prop} {a : α} {b : β} {Q : β → Hp → Prop} (h0 : FOk F H pn p) (h : Out G rep E pn F H (.ok a p) Q) (rp : rep F b a) : Q b H :=
  h b F H (Step.refl h0) rp
theorem Out.ofH {α β : Type} {rep : Hp → β → α → Prop} {o : Option α} {Q : β → Hp → Prop} (h : Out G rep E pn F H (R.of o p) Q) : ∃ a, o = some a ∧ Out G rep E pn F H (.ok a p) Q := by
  cases o with
  | none => exact h.elim
  | some a => exact ⟨a, rfl, h⟩
end
abbrev rD (G : Ad) (pn : PN) : Hp → V → D → Prop := fun F v d => Rep G pn F v d
abbrev rDs (G : Ad) (pn : PN) : Hp → List V → List D → Prop := fun F v d => Reps G pn F v d
abbrev rB : Hp → Bool → Bool → Prop := fun _ b a => b = a
abbrev rO : Hp → Option Int → Option Int → Prop := fun _ b a => b = a

/-- slots hold what the names mean -/
def DR (G : Ad) (pn : PN) (σ : L2.St) (ρ : DEnv) (F : Hp) : Prop := σ.length = ρ.length ∧ ∀ (i : Nat) d, ρ[i]? = some (some d) → ∃ v, σ[i]? = some (some v) ∧ Rep G pn F v d
theorem DR.mono {G : Ad} {pn : PN} {σ : L2.St} {ρ : DEnv} {F F' : Hp} (h : DR G pn σ ρ F) (s : Same F F') : DR G pn σ ρ F' :=
  ⟨h.1, fun i d e => let ⟨v, h1, h2⟩ := h.2 i d e; ⟨v, h1, h2.mono s⟩⟩

/-! ### a def's promise by its meaning -/
def spOf (G : Ad) (m : Nat) (den : Den) : Sp := fun vs H Q E => vs.length = m ∧ ∃ F pn p ds, FOk F H pn p ∧ Reps G pn F vs ds ∧ Out G (rD G pn) E pn F H (den ds p) Q

/-! ### readings of expressions -/
def tG {α β : Type} (G : Ad) (rep : PN → Hp → β → α → Prop) (E : XK) (ev : DEnv → PenS → R α) : L2.St → Hp → (β → Hp → Prop) → Prop := fun σ H Q =>
  ∃ ρ F pn p, DR G pn σ ρ F ∧ FOk F H pn p ∧ Out G (rep pn) E pn F H (ev ρ p) Q
abbrev tE (G : Ad) (E : XK) (ev : DEnv → PenS → R D) : TE := tG G (rD G) E ev
abbrev tEs (G : Ad) (E : XK) (ev : DEnv → PenS → R (List D)) : TA := tG G (rDs G) E ev
abbrev tT (G : Ad) (E : XK) (ev : DEnv → PenS → R Bool) : TT := tG G (fun _ => rB) E ev
abbrev tO (G : Ad) (E : XK) (ev : DEnv → PenS → R (Option Int)) : TO := tG G (fun _ => rO) E ev
section
variable {X : Cx} {e : Expr}
theorem peI {t t' : TE} (h : PE X e t) (i : ∀ σ H Q, t' σ H Q → t σ H Q) : PE X e t' := ⟨fun pins s σ H Q I q => h.run pins s σ H Q I (i σ H Q q)⟩
theorem ptI {t t' : TT} (h : PT X e t) (i : ∀ σ H Q, t' σ H Q → t σ H Q) : PT X e t' := ⟨fun pins s σ H Q I q => h.run pins s σ H Q I (i σ H Q q)⟩
theorem pwI {t t' : TT} (h : PW X e t) (i : ∀ σ H Q, t' σ H Q → t σ H Q) : PW X e t' := ⟨fun wh pins s σ H Q I q => h.run wh pins s σ H Q I (i σ H Q q)⟩
theorem paI {es : List Expr} {t t' : TA} (h : PA X es t) (i : ∀ σ H Q, t' σ H Q → t σ H Q) : PA X es t' := ⟨fun pos pins s σ H Q I q => h.run pos pins s σ H Q I (i σ H Q q)⟩
theorem poI {o : Option Expr} {t t' : TO} (h : PO X o t) (i : ∀ σ H Q, t' σ H Q → t σ H Q) : PO X o t' := ⟨fun pins s σ H Q I q => h.run pins s σ H Q I (i σ H Q q)⟩
theorem psI {st : Stmt} {t t' : TS} (h : PS X st t) (i : ∀ D σ H, t' D σ H → t D σ H) : PS X st t' := ⟨fun pins s σ H Q I q => h.run pins s σ H Q I (i Q σ H q)⟩
theorem pssI {st : List Stmt} {t t' : TS} (h : PSs X st t) (i : ∀ D σ H, t' D σ H → t D σ H) : PSs X st t' := ⟨fun pins s σ H Q I q => h.run pins s σ H Q I (i Q σ H q)⟩
end

/-! ### operations -/
/-- an operation on two values that does what f says -/
def r2 {α β : Type} (G : Ad) (rep : PN → Hp → β → α → Prop) (E : XK) (f : D → D → Option α) (x y : V) (H : Hp) (Q : β → Hp → Prop) : Prop :=
  ∃ F pn p d e, FOk F H pn p ∧ Rep G pn F x d ∧ Rep G pn F y e ∧ Out G (rep pn) E pn F H (R.of (f d e) p) Q
section
variable {X : Cx} {G : Ad} {E : XK}
theorem upd_fresh {F H : Hp} {p : Addr} {o : HO} (s : Same F H) (hn : H p = none) : F p = none := s.free hn

def opOf : BOp → Operator
  | .add => .Add | .sub => .Sub | .mul => .Mult | .fdiv => .FloorDiv | .mod => .Mod | .pow => .Pow
def copOf : COp → CmpOp
  | .eq => .Eq | .ne => .NotEq | .lt => .Lt | .le => .LtE | .gt => .Gt | .ge => .GtE | .is_ => .Is | .isnot => .IsNot
mutual
theorem Rep.dp {K : PySem.W.Frag} {pn : PN} {F H : Hp} (s : Same F H) : ∀ {v : V} {d : D}, Rep G pn F v d → d.py.canLay0 = true → Dp K H v d.py
  | _, _, .non, _ => .non
  | _, _, .bl b, _ => .bl b
  | _, _, .int i, _ => .int i
  | _, _, .str x, _ => .str x
  | _, _, .tup e r, h => .tup (.inl (.inl (s _ _ e))) (Reps.dp s r (by simpa [D.py, PyData.canLay0] using h))
  | _, _, .lst e r, h => .lst (.inl (.inl (s _ _ e))) (Reps.dp s r (by simpa [D.py, PyData.canLay0] using h))
  | _, _, .obj _ _ _ _, h => by simp [D.py, PyData.canLay0] at h
  | _, _, .fn k, h => by simp [D.py, PyData.canLay0] at h
  | _, _, .pen _, h => by simp [D.py, PyData.canLay0] at h
theorem Reps.dp {K : PySem.W.Frag} {pn : PN} {F H : Hp} (s : Same F H) : ∀ {vs : List V} {ds : List D}, Reps G pn F vs ds → PyData.canLayAll0 (pyAll ds) = true → DpAll K H vs (pyAll ds)
  | _, _, .nil, _ => .nil
  | _, _, .cons r t, h => by
    simp only [pyAll, PyData.canLayAll0, Bool.and_eq_true] at h
    exact .cons (Rep.dp s r h.1) (Reps.dp s t h.2)
end
theorem Rep.dpS {K : PySem.W.Frag} {pn : PN} {F H : Hp} {v : V} {d : D} (r : Rep G pn F v d) (s : Same F H) (h : SeqAt.shaped d.py = true) : Dp K H v d.py := r.dp s (SeqAt.canLay_of_shaped h)

theorem opR_eq (hu : X.A.units + 64 < cLine) : OpR X (compareOp .Eq) (r2 G (rD G) E (fun d e => (deq d e).map D.bl)) := by
  intro pins s σ H x y v u Q I rx ry ⟨F, pn, p, d, e, fk, h1, h2, o⟩
  obtain ⟨z, ez, o⟩ := o.ofH
  dsimp only [deq] at ez
  by_cases hs : (SeqAt.shaped d.py && SeqAt.shaped e.py) = true
  · rw [if_pos hs] at ez
    simp only [Bool.and_eq_true] at hs
    cases ez
    exact op_eqD hu pins s σ H x y v u Q I rx ry ⟨_, _, h1.dpS fk.sub hs.1, h2.dpS fk.sub hs.2, hs.1, hs.2, o.here fk (.bl _)⟩
  · rw [if_neg hs] at ez; cases ez
theorem opR_ne (hu : X.A.units + 64 < cLine) : OpR X (compareOp .NotEq) (r2 G (rD G) E (fun d e => ((deq d e).map (!·)).map D.bl)) := by
  intro pins s σ H x y v u Q I rx ry ⟨F, pn, p, d, e, fk, h1, h2, o⟩
  obtain ⟨z, ez, o⟩ := o.ofH
  dsimp only [deq] at ez
  by_cases hs : (SeqAt.shaped d.py && SeqAt.shaped e.py) = true
  · rw [if_pos hs] at ez
    simp only [Bool.and_eq_true] at hs
    cases ez
    exact op_neD hu pins s σ H x y v u Q I rx ry ⟨_, _, h1.dpS fk.sub hs.1, h2.dpS fk.sub hs.2, hs.1, hs.2, o.here fk (.bl _)⟩
  · rw [if_neg hs] at ez; cases ez
theorem Rep.isNon {pn : PN} {F : Hp} {v : V} {d : D} (r : Rep G pn F v d) : decide (v = V.non) = d.isNon := by
  cases r <;> simp [D.isNon]
theorem opR_cmp (hu : X.A.units + 64 < cLine) (o : COp) : OpR X (compareOp (copOf o)) (r2 G (rD G) E (fun d e => (cmpV o d e).map D.bl)) := by
  cases o with
  | eq => exact opR_eq hu
  | ne => exact opR_ne hu
  | lt =>
    intro pins s σ H x y v u Q I rx ry ⟨F, pn, p, d, e, fk, h1, h2, o⟩
    obtain ⟨z, ez, o⟩ := o.ofH
    cases d <;> cases e <;> simp only [cmpV, Option.map_some, Option.map_none] at ez <;> cases ez
    cases h1; cases h2
    exact op_lt pins s σ H _ _ v u Q I rx ry ⟨_, _, rfl, rfl, o.here fk (.bl _)⟩
  | le =>
    intro pins s σ H x y v u Q I rx ry ⟨F, pn, p, d, e, fk, h1, h2, o⟩
    obtain ⟨z, ez, o⟩ := o.ofH
    cases d <;> cases e <;> simp only [cmpV, Option.map_some, Option.map_none] at ez <;> cases ez
    cases h1; cases h2
    exact op_le pins s σ H _ _ v u Q I rx ry ⟨_, _, rfl, rfl, o.here fk (.bl _)⟩
  | gt =>
    intro pins s σ H x y v u Q I rx ry ⟨F, pn, p, d, e, fk, h1, h2, o⟩
    obtain ⟨z, ez, o⟩ := o.ofH
    cases d <;> cases e <;> simp only [cmpV, Option.map_some, Option.map_none] at ez <;> cases ez
    cases h1; cases h2
    exact op_gt pins s σ H _ _ v u Q I rx ry ⟨_, _, rfl, rfl, o.here fk (.bl _)⟩
  | ge =>
    intro pins s σ H x y v u Q I rx ry ⟨F, pn, p, d, e, fk, h1, h2, o⟩
    obtain ⟨z, ez, o⟩ := o.ofH
    cases d <;> cases e <;> simp only [cmpV, Option.map_some, Option.map_none] at ez <;> cases ez
    cases h1; cases h2
    exact op_ge pins s σ H _ _ v u Q I rx ry ⟨_, _, rfl, rfl, o.here fk (.bl _)⟩
  | is_ =>
    intro pins s σ H x y v u Q I rx ry ⟨F, pn, p, d, e, fk, h1, h2, o⟩
    obtain ⟨z, ez, o⟩ := o.ofH
    cases e with
    | non =>
      have ez : (some (d.isNon)).map D.bl = some z := by cases d <;> exact ez
      cases ez
      cases h2
      exact op_isN pins s σ H _ _ v u Q I rx ry ⟨rfl, by rw [h1.isNon]; exact o.here fk (.bl _)⟩
    | bl b =>
      cases h2
      cases (show u = Value.bool b from ry)
      cases h1 with
      | bl a =>
        cases ez
        exact op_isBl pins s σ H _ _ v _ Q I rx (show L2.RelV (V.bl b) (Value.bool b) from rfl) ⟨_, _, rfl, rfl, o.here fk (.bl _)⟩
      | fn k => cases ez
      | pen e => cases ez
      | non => cases ez; cases (show v = Value.none from rx); exact wpAny_is_other rfl (fun z => by cases z) ⟨.bl false, H, I, rfl, o.here fk (.bl _)⟩
      | int i => cases ez; obtain ⟨t, rfl⟩ := (show ∃ t, v = Value.int i t from rx); exact wpAny_is_other rfl (fun z => by cases z) ⟨.bl false, H, I, rfl, o.here fk (.bl _)⟩
      | str i => cases ez; obtain ⟨t, rfl⟩ := (show ∃ t, v = Value.str i t from rx); exact wpAny_is_other rfl (fun z => by cases z) ⟨.bl false, H, I, rfl, o.here fk (.bl _)⟩
      | tup e r => cases ez; cases rx; exact wpAny_is_other rfl (fun z => by cases z) ⟨.bl false, H, I, rfl, o.here fk (.bl _)⟩
      | lst e r => cases ez; cases rx; exact wpAny_is_other rfl (fun z => by cases z) ⟨.bl false, H, I, rfl, o.here fk (.bl _)⟩
      | obj hc e l r => cases ez; cases rx; exact wpAny_is_other rfl (fun z => by cases z) ⟨.bl false, H, I, rfl, o.here fk (.bl _)⟩
    | _ => cases d <;> simp only [cmpV, Option.map_some, Option.map_none] at ez <;> cases ez
  | isnot =>
    intro pins s σ H x y v u Q I rx ry ⟨F, pn, p, d, e, fk, h1, h2, o⟩
    obtain ⟨z, ez, o⟩ := o.ofH
    cases e with
    | non =>
      have ez : (some (!d.isNon)).map D.bl = some z := by cases d <;> exact ez
      cases ez
      cases h2
      exact op_notN pins s σ H _ _ v u Q I rx ry ⟨rfl, by rw [h1.isNon]; exact o.here fk (.bl _)⟩
    | bl b =>
      cases h2
      cases (show u = Value.bool b from ry)
      cases h1 with
      | bl a =>
        cases ez
        exact op_notBl pins s σ H _ _ v _ Q I rx (show L2.RelV (V.bl b) (Value.bool b) from rfl) ⟨_, _, rfl, rfl, o.here fk (.bl _)⟩
      | fn k => cases ez
      | pen e => cases ez
      | non => cases ez; cases (show v = Value.none from rx); exact wpAny_isNot_other rfl (fun z => by cases z) ⟨.bl true, H, I, rfl, o.here fk (.bl _)⟩
      | int i => cases ez; obtain ⟨t, rfl⟩ := (show ∃ t, v = Value.int i t from rx); exact wpAny_isNot_other rfl (fun z => by cases z) ⟨.bl true, H, I, rfl, o.here fk (.bl _)⟩
      | str i => cases ez; obtain ⟨t, rfl⟩ := (show ∃ t, v = Value.str i t from rx); exact wpAny_isNot_other rfl (fun z => by cases z) ⟨.bl true, H, I, rfl, o.here fk (.bl _)⟩
      | tup e r => cases ez; cases rx; exact wpAny_isNot_other rfl (fun z => by cases z) ⟨.bl true, H, I, rfl, o.here fk (.bl _)⟩
      | lst e r => cases ez; cases rx; exact wpAny_isNot_other rfl (fun z => by cases z) ⟨.bl true, H, I, rfl, o.here fk (.bl _)⟩
      | obj hc e l r => cases ez; cases rx; exact wpAny_isNot_other rfl (fun z => by cases z) ⟨.bl true, H, I, rfl, o.here fk (.bl _)⟩
    | _ => cases d <;> simp only [cmpV, Option.map_some, Option.map_none] at ez <;> cases ez
end
end Mi

set_option Elab.async false
set_option linter.all false
set_option maxRecDepth 100000
set_option maxHeartbeats 4000000
namespace L2
open PySem PySem.Spec PyProof.Rows
theorem tuple_mulS (l : Addr) (items : Array Value) (n : Nat) (dd : Option Addr) (sl : Array (Option Value)) (x : Int) (u : Tok) (c0 : (decide (x < -(2 ^ 63)) || decide (x ≥ 2 ^ 63)) = false) (c1 : (items.isEmpty || x == 1) = true) :
    Meets (Builtin.«tuple.__mul__» ⟨[.ref l, .int x u], []⟩) (fun _ R s => s.heap.get? l = some { cls := .type "tuple", dict := dd, data := .seq items n, slots := sl } ∧
      R (.ok (.ret (Value.ref l))) s) :=
  .of_wp fun prog w A R s h => by
    obtain ⟨hp, g, d, tk, os⟩ := s
    obtain ⟨hl, h⟩ := h
    have f1 := AutoSeq1.idx_int
    wp_walk using wpAny_loadPart' hl
    repeat (first
      | (refine wpAny_ite_false (decide_eq_false (by rw [c0]; exact Bool.false_ne_true)) ?_; wp_walk using wpAny_loadPart' hl)
      | (refine wpAny_ite_true (decide_eq_true c1) ?_; wp_walk using wpAny_loadPart' hl))
    exact ⟨_, rfl, h⟩
theorem tuple_mulZ (l : Addr) (items : Array Value) (n : Nat) (dd : Option Addr) (sl : Array (Option Value)) (x : Int) (u : Tok) (c0 : (decide (x < -(2 ^ 63)) || decide (x ≥ 2 ^ 63)) = false) (c1 : (items.isEmpty || x == 1) = false) (c2 : (decide (x ≤ 0) || items.isEmpty) = true) :
    Meets (Builtin.«tuple.__mul__» ⟨[.ref l, .int x u], []⟩) (fun _ R s => s.heap.get? l = some { cls := .type "tuple", dict := dd, data := .seq items n, slots := sl } ∧
      R (.ok (.ret (Value.ref s.heap.objs.size))) { s with heap := s.heap.push { cls := Value.type "tuple", data := Data.seq #[] }, toks := s.toks }) :=
  .of_wp fun prog w A R s h => by
    obtain ⟨hp, g, d, tk, os⟩ := s
    obtain ⟨hl, h⟩ := h
    have f1 := AutoSeq1.idx_int
    wp_walk using wpAny_loadPart' hl
    repeat (first
      | (refine wpAny_ite_false (decide_eq_false (by rw [c0]; exact Bool.false_ne_true)) ?_; wp_walk using wpAny_loadPart' hl)
      | (refine wpAny_ite_false (decide_eq_false (by rw [c1]; exact Bool.false_ne_true)) ?_; wp_walk using wpAny_loadPart' hl)
      | (refine wpAny_ite_true (decide_eq_true c2) ?_; wp_walk using wpAny_loadPart' hl))
    exact ⟨_, rfl, h⟩
/-- t * k for every small k from 0 on -/
def rRepA (K : PySem.W.Frag) : R2 := fun x y H Q => ∃ l k xs, x = .ref l ∧ y = .int k ∧ SqT K H l xs ∧ 0 ≤ k ∧ k ≤ 1000 ∧ xs.length ≤ 1000 ∧
  (xs = [] ∨ k = 1 → Q (.ref l) H) ∧ (¬ (xs = [] ∨ k = 1) → ∀ p, H p = none → Q (.ref p) (upd H p (.tup (List.replicate k.toNat xs).flatten)))
section
variable {X : Cx}
theorem op_repA : OpR X (binaryOp .Mult) (rRepA X.K) := by
  intro pins s σ H x y v u Q I rx ry h
  obtain ⟨l, k, xs, rfl, rfl, hT, h1, h2, hz, q1, q2⟩ := h
  by_cases hs : xs = [] ∨ k = 1
  · have q := q1 hs
    cases rx
    obtain ⟨t, rfl⟩ := ry
    obtain ⟨its, r, ⟨⟨cls, dd, data, sl⟩, ho, hc, n, hd⟩, hs'⟩ := I.tuple hT
    simp only at hc hd
    subst hc hd
    have c0 : (decide (k < -(2 ^ 63)) || decide (k ≥ 2 ^ 63)) = false := by
      rw [decide_eq_false (by omega), decide_eq_false (by omega)] <;> rfl
    have c1 : (its.toArray.isEmpty || k == 1) = true := by
      rcases hs with e | e
      · subst e; cases r; rfl
      · rw [e]; simp
    exact wpAny_binaryOp_repeat_ref (T := "tuple") (U := "int") (by decide) ⟨_, ho, rfl⟩ (fun s' => typeIs_int s' k t) noFill_tuple_mul F.fills_int_mul F.slot_int_rmul repeat_tuple F.slot_int_index.lookup
      (call_meets F.slot_int_rmul (typeIs_int s k t) F.entry_int_rmul (F.args_int_rmul_2 _ _) (int_rmul_tuple k t l its.toArray n dd sl)
        ⟨ho, rfl, ⟨_, ho, rfl⟩, call_meets F.slot_tuple_mul ⟨_, ho, rfl⟩ F.entry_tuple_mul (F.args_tuple_mul_2 _ _) (tuple_mulS l its.toArray n dd sl k t c0 c1) ⟨ho, ⟨.ref l, H, I, rfl, q⟩⟩⟩)
  · have hne : xs ≠ [] := fun e => hs (.inl e)
    have hk : k ≠ 1 := fun e => hs (.inr e)
    by_cases hk0 : k = 0
    · subst hk0
      have q := q2 hs
      cases rx
      obtain ⟨t, rfl⟩ := ry
      obtain ⟨its, r, ⟨⟨cls, dd, data, sl⟩, ho, hc, n, hd⟩, hs'⟩ := I.tuple hT
      simp only at hc hd
      subst hc hd
      have hi : its.toArray.isEmpty = false := by
        cases r with
        | nil => exact absurd rfl hne
        | cons _ _ => rfl
      have c1 : (its.toArray.isEmpty || (0 : Int) == 1) = false := by rw [hi]; rfl
      have c2 : (decide ((0 : Int) ≤ 0) || its.toArray.isEmpty) = true := by simp
      refine wpAny_binaryOp_repeat_ref (T := "tuple") (U := "int") (by decide) ⟨_, ho, rfl⟩ (fun s' => typeIs_int s' 0 t) noFill_tuple_mul F.fills_int_mul F.slot_int_rmul repeat_tuple F.slot_int_index.lookup
        (call_meets F.slot_int_rmul (typeIs_int s 0 t) F.entry_int_rmul (F.args_int_rmul_2 _ _) (int_rmul_tuple 0 t l its.toArray n dd sl)
          ⟨ho, rfl, ⟨_, ho, rfl⟩, call_meets F.slot_tuple_mul ⟨_, ho, rfl⟩ F.entry_tuple_mul (F.args_tuple_mul_2 _ _) (tuple_mulZ l its.toArray n dd sl 0 t (by decide) c1 c2) ⟨ho, ?_⟩⟩)
      refine ⟨.ref s.heap.objs.size, _, I.laid (t' := s.toks) (o := .tup []) (fun b ob q => Heap.get?_push_of_some _ q) (Nat.le_refl _) ?_, rfl, q _ (I.hok.fresh (Nat.le_refl _))⟩
      exact ⟨by rw [sizeLine_eq]; decide, [], .nil, IsTup.new _ _⟩
    · exact op_repT pins s σ H _ _ v u Q I rx ry ⟨l, k, xs, rfl, rfl, hT, hne, by omega, h2, hz, q2 hs⟩
end
end L2

set_option Elab.async false
set_option linter.all false
set_option maxRecDepth 100000
namespace Mi
open PySem PySem.Spec PyProof.Rows L2
section
variable {X : Cx} {G : Ad} {E : XK}
/-- a value at a new place -/
theorem Out.new {pn : PN} {F H : Hp} {p : PenS} {a : Addr} {o : HO} {d : D} {Q : V → Hp → Prop} (fk : FOk F H pn p) (h : Out G (rD G pn) E pn F H (.ok d p) Q) (hn : H a = none)
    (r : Rep G pn (upd F a o) (.ref a) d) : Q (.ref a) (upd H a o) := h _ _ _ (Step.laid fk hn) r
theorem same_upd {F : Hp} {a : Addr} {o : HO} (hn : F a = none) : Same F (upd F a o) := fun b u e => by
  rw [upd_ne (ne_of_none e hn)]; exact e
theorem Reps.nil_iff {pn : PN} {F : Hp} {vs : List V} {ds : List D} (r : Reps G pn F vs ds) : vs = [] ↔ ds = [] := by
  cases r <;> simp
theorem opR_bin (op : BOp) : OpR X (binaryOp (opOf op)) (r2 G (rD G) E (bin op)) := by
  intro pins s σ H x y v u Q I rx ry ⟨F, pn, p, d, e, fk, h1, h2, o0⟩
  obtain ⟨z, ez, o⟩ := o0.ofH
  clear o0
  cases op with
  | add =>
    cases d with
    | int i =>
      cases e <;> simp only [bin] at ez <;> cases ez
      cases h1; cases h2
      exact op_add pins s σ H _ _ v u Q I rx ry ⟨_, _, rfl, rfl, o.here fk (.int _)⟩
    | tup xs =>
      cases e with
      | tup ys =>
        simp only [bin] at ez
        split at ez
        · rename_i hz
          cases ez
          obtain ⟨a, vs, rfl, e1, r1⟩ := h1.tup_inv
          obtain ⟨b, ws, rfl, e2, r2⟩ := h2.tup_inv
          refine op_catA pins s σ H _ _ v u Q I rx ry ⟨a, b, vs, ws, rfl, rfl, .inl (.inl (fk.sub _ _ e1)), .inl (.inl (fk.sub _ _ e2)), by rw [r1.length, r2.length]; exact hz, fun hx => ?_, fun hx hy => ?_, fun hx hy a hn => ?_⟩
          · have : xs = [] := r1.nil_iff.mp hx
            subst this
            exact o.here fk (.tup e2 r2)
          · have : ys = [] := r2.nil_iff.mp hy
            subst this
            rw [List.append_nil] at o
            exact o.here fk (.tup e1 r1)
          · have hF := fk.sub.free hn
            exact o.new fk hn (.tup upd_same ((r1.append r2).mono (same_upd hF)))
        · cases ez
      | _ => simp only [bin] at ez; cases ez
    | lst xs =>
      cases e with
      | lst ys =>
        simp only [bin] at ez
        split at ez
        · rename_i hz
          cases ez
          obtain ⟨a, vs, rfl, e1, r1⟩ := h1.lst_inv
          obtain ⟨b, ws, rfl, e2, r2⟩ := h2.lst_inv
          refine op_cat pins s σ H _ _ v u Q I rx ry ⟨a, b, vs, ws, rfl, rfl, fk.sub _ _ e1, fk.sub _ _ e2, by rw [r1.length, r2.length]; exact hz, fun a hn => ?_⟩
          exact o.new fk hn (.lst upd_same ((r1.append r2).mono (same_upd (fk.sub.free hn))))
        · cases ez
      | _ => simp only [bin] at ez; cases ez
    | _ => cases e <;> simp only [bin] at ez <;> cases ez
  | sub =>
    cases d <;> cases e <;> simp only [bin] at ez <;> cases ez
    cases h1; cases h2
    exact op_sub pins s σ H _ _ v u Q I rx ry ⟨_, _, rfl, rfl, o.here fk (.int _)⟩
  | mul =>
    cases d with
    | int i =>
      cases e with
      | int j =>
        simp only [bin] at ez
        split at ez
        · rename_i hz
          cases ez
          cases h1; cases h2
          rcases hz with hz | hz
          · exact op_mul pins s σ H _ _ v u Q I rx ry ⟨_, _, rfl, rfl, hz, o.here fk (.int _)⟩
          · exact op_mulW pins s σ H _ _ v u Q I rx ry ⟨_, _, rfl, rfl, hz, o.here fk (.int _)⟩
        · cases ez
      | _ => simp only [bin] at ez; cases ez
    | tup xs =>
      cases e with
      | int k =>
        simp only [bin] at ez
        split at ez
        · rename_i hz
          cases ez
          cases h2
          obtain ⟨a, vs, rfl, e1, r1⟩ := h1.tup_inv
          refine op_repA pins s σ H _ _ v u Q I rx ry ⟨a, k, vs, rfl, rfl, .inl (.inl (fk.sub _ _ e1)), hz.1, hz.2.1, by rw [r1.length]; exact hz.2.2, fun hs => ?_, fun _ b hn => ?_⟩
          · have : (List.replicate k.toNat xs).flatten = xs := by
              rcases hs with hs | hs
              · have : xs = [] := r1.nil_iff.mp hs
                subst this; simp
              · subst hs; simp
            rw [this] at o
            exact o.here fk (.tup e1 r1)
          · exact o.new fk hn (.tup upd_same ((r1.rep _).mono (same_upd (fk.sub.free hn))))
        · cases ez
      | _ => simp only [bin] at ez; cases ez
    | lst xs =>
      cases e with
      | int k =>
        simp only [bin] at ez
        split at ez
        · rename_i hz
          cases ez
          cases h2
          obtain ⟨a, vs, rfl, e1, r1⟩ := h1.lst_inv
          refine op_rep pins s σ H _ _ v u Q I rx ry ⟨a, k, vs, rfl, rfl, fk.sub _ _ e1, by omega, by omega, by rw [r1.length]; exact hz.2.2, fun b hn => ?_⟩
          exact o.new fk hn (.lst upd_same ((r1.rep _).mono (same_upd (fk.sub.free hn))))
        · cases ez
      | _ => simp only [bin] at ez; cases ez
    | _ => cases e <;> simp only [bin] at ez <;> cases ez
  | fdiv =>
    cases d with
    | int i =>
      cases e with
      | int j =>
        simp only [bin] at ez
        split at ez
        · rename_i hz
          cases ez
          cases h1; cases h2
          rcases hz with hz | hz
          · exact op_fdivN pins s σ H _ _ v u Q I rx ry ⟨_, _, rfl, rfl, hz, o.here fk (.int _)⟩
          · refine op_fdivW pins s σ H _ _ v u Q I rx ry ⟨_, _, rfl, rfl, hz, ?_⟩
            have h0 : (0 : Int) < j := hz.1
            rw [Int.fdiv_eq_ediv_of_nonneg i (by omega)] at o
            exact o.here fk (.int _)
        · cases ez
      | _ => simp only [bin] at ez; cases ez
    | _ => cases e <;> simp only [bin] at ez <;> cases ez
  | mod =>
    cases d with
    | int i =>
      cases e with
      | int j =>
        simp only [bin] at ez
        split at ez
        · rename_i hz
          cases ez
          cases h1; cases h2
          exact op_modN pins s σ H _ _ v u Q I rx ry ⟨_, _, rfl, rfl, hz, o.here fk (.int _)⟩
        · cases ez
      | _ => simp only [bin] at ez; cases ez
    | _ => cases e <;> simp only [bin] at ez <;> cases ez
  | pow =>
    cases d with
    | int i =>
      cases e with
      | int j =>
        simp only [bin] at ez
        split at ez
        · rename_i hz
          cases ez
          cases h1; cases h2
          exact op_pow pins s σ H _ _ v u Q I rx ry ⟨_, _, rfl, rfl, hz, o.here fk (.int _)⟩
        · cases ez
      | _ => simp only [bin] at ez; cases ez
    | _ => cases e <;> simp only [bin] at ez <;> cases ez

/-! ### subscripts, slices -/
theorem Reps.atI {pn : PN} {F : Hp} {vs : List V} {ds : List D} {i : Int} {d : D} (r : Reps G pn F vs ds) (h : atI ds i = some d) : ∃ v, L2.atI vs i = some v ∧ Rep G pn F v d := by
  unfold L2.atI at h ⊢
  rw [r.length]
  cases q : ixN ds.length i with
  | none => rw [q] at h; cases h
  | some j =>
    rw [q] at h
    exact r.get h
theorem ixR : IxR X (r2 G (rD G) E idx) := by
  intro value slice pins s σ H x y v u Q I rx ry ⟨F, pn, p, d, e, fk, h1, h2, o0⟩ hs
  obtain ⟨z, ez, o⟩ := o0.ofH
  clear o0
  cases d with
  | tup xs =>
    cases e <;> simp only [idx] at ez <;> try cases ez
    cases h2
    obtain ⟨a, vs, rfl, e1, r1⟩ := h1.tup_inv
    obtain ⟨w, hw, rw'⟩ := r1.atI ez
    exact ix_tup value slice pins s σ H _ _ v u Q I rx ry ⟨a, vs, _, w, rfl, rfl, .inl (.inl (fk.sub _ _ e1)), hw, o.here fk rw'⟩ hs
  | lst xs =>
    cases e <;> simp only [idx] at ez <;> try cases ez
    cases h2
    obtain ⟨a, vs, rfl, e1, r1⟩ := h1.lst_inv
    obtain ⟨w, hw, rw'⟩ := r1.atI ez
    exact ix_list value slice pins s σ H _ _ v u Q I rx ry ⟨a, vs, _, w, rfl, rfl, .inl (.inl (fk.sub _ _ e1)), hw, o.here fk rw'⟩ hs
  | _ => cases e <;> simp only [idx] at ez <;> cases ez
def rSlice (G : Ad) (E : XK) (x : V) (lo hi : Option Int) (H : Hp) (Q : VK) : Prop :=
  ∃ F pn p d, FOk F H pn p ∧ Rep G pn F x d ∧ Out G (rD G pn) E pn F H (R.of (slc d lo hi) p) Q
theorem Reps.cut {pn : PN} {F : Hp} {vs : List V} {ds : List D} (r : Reps G pn F vs ds) (lo hi : Option Int) : Reps G pn F (cutV vs lo hi) (cutD ds lo hi) := by
  unfold cutV cutD
  rw [r.length]
  exact (r.drop _).take _
theorem slR : SlR X (rSlice G E) := by
  intro pins s σ H x v vl vu lo hi sl Q I rx hs pl pu ⟨F, pn, p, d, fk, h1, o0⟩
  obtain ⟨z, ez, o⟩ := o0.ofH
  clear o0
  cases d with
  | tup xs =>
    simp only [slc] at ez
    cases ez
    obtain ⟨a, vs, rfl, e1, r1⟩ := h1.tup_inv
    refine sl_tupA pins s σ H _ v vl vu lo hi sl Q I rx hs pl pu ⟨a, vs, rfl, .inl (.inl (fk.sub _ _ e1)), fun hw => ?_, fun _ b hn => ?_⟩
    · have : cutD xs lo hi = xs := by
        unfold cutD
        rw [r1.length] at hw
        rw [hw.1, hw.2, List.drop_zero, Nat.sub_zero, List.take_length]
      rw [this] at o
      exact o.here fk (.tup e1 r1)
    · exact o.new fk hn (.tup upd_same ((r1.cut lo hi).mono (same_upd (fk.sub.free hn))))
  | lst xs =>
    simp only [slc] at ez
    cases ez
    obtain ⟨a, vs, rfl, e1, r1⟩ := h1.lst_inv
    refine sl_list pins s σ H _ v vl vu lo hi sl Q I rx hs pl pu ⟨a, vs, rfl, .inl (.inl (fk.sub _ _ e1)), fun b hn => ?_⟩
    exact o.new fk hn (.lst upd_same ((r1.cut lo hi).mono (same_upd (fk.sub.free hn))))
  | _ => simp only [slc] at ez; cases ez

/-! ### truth -/
theorem Rep.tru {K : PySem.W.Frag} {pn : PN} {F H : Hp} {v : V} {d : D} {b : Bool} (s : Same F H) (r : Rep G pn F v d) (h : truth d = some b) : TruV K v H b := by
  cases r with
  | non => cases h; rfl
  | bl b' => cases h; rfl
  | int i => cases h; rfl
  | str x => cases h
  | tup e r =>
    cases h
    refine .inr (.inl ⟨_, .inl (.inl (s _ _ e)), ?_⟩)
    cases r <;> rfl
  | lst e r =>
    cases h
    refine .inl ⟨_, .inl (.inl (s _ _ e)), ?_⟩
    cases r <;> rfl
  | obj c e l r => cases h
  | fn k => cases h
  | pen e => cases h

/-! ### built-in functions -/
def bfName : BF → Str
  | .len => "len" | .tuple => "tuple" | .list => "list" | .int => "int" | .abs => "abs" | .max => "max" | .min => "min" | .sum => "sum" | .all => "all" | .any => "any" | .sorted => "sorted"
def bfVal : BF → Value
  | .len => .builtin "len" | .tuple => .type "tuple" | .list => .type "list" | .int => .type "int" | .abs => .builtin "abs" | .max => .builtin "max" | .min => .builtin "min" | .sum => .builtin "sum" | .all => .builtin "all" | .any => .builtin "any" | .sorted => .builtin "sorted"
def rCall (G : Ad) (E : XK) (f : List D → Option D) (xs : List V) (H : Hp) (Q : VK) : Prop :=
  ∃ F pn p ds, FOk F H pn p ∧ Reps G pn F xs ds ∧ Out G (rD G pn) E pn F H (R.of (f ds) p) Q
theorem Reps.one {pn : PN} {F : Hp} {vs : List V} {d : D} (r : Reps G pn F vs [d]) : ∃ v, vs = [v] ∧ Rep G pn F v d := by
  cases r with | cons a b => cases b; exact ⟨_, rfl, a⟩
theorem Reps.two {pn : PN} {F : Hp} {vs : List V} {d e : D} (r : Reps G pn F vs [d, e]) : ∃ v w, vs = [v, w] ∧ Rep G pn F v d ∧ Rep G pn F w e := by
  cases r with | cons a b => cases b with | cons b c => cases c; exact ⟨_, _, rfl, a, b⟩
theorem foldl_max (xs : List Int) : ∀ (x : Int), (∀ y ∈ x :: xs, y ≤ xs.foldl (fun m y => if m < y then y else m) x) ∧ xs.foldl (fun m y => if m < y then y else m) x ∈ x :: xs := by
  induction xs with
  | nil => intro x; simp
  | cons z zs ih =>
    intro x
    simp only [List.foldl_cons]
    obtain ⟨h1, h2⟩ := ih (if x < z then z else x)
    have hx := h1 (if x < z then z else x) (by simp)
    refine ⟨fun y hy => ?_, ?_⟩
    · simp only [List.mem_cons] at hy
      rcases hy with rfl | rfl | hy
      · split at hx <;> rename_i q
        · simp only [q, if_true]; omega
        · simp only [q, if_false]; exact hx
      · split at hx <;> rename_i q
        · simp only [q, if_true]; exact hx
        · simp only [q, if_false]; omega
      · exact h1 y (by simp [hy])
    · simp only [List.mem_cons] at h2 ⊢
      rcases h2 with h2 | h2
      · rw [h2]; split <;> simp
      · exact .inr (.inr h2)
theorem foldl_min (xs : List Int) : ∀ (x : Int), (∀ y ∈ x :: xs, xs.foldl (fun m y => if y < m then y else m) x ≤ y) ∧ xs.foldl (fun m y => if y < m then y else m) x ∈ x :: xs := by
  induction xs with
  | nil => intro x; simp
  | cons z zs ih =>
    intro x
    simp only [List.foldl_cons]
    obtain ⟨h1, h2⟩ := ih (if z < x then z else x)
    have hx := h1 (if z < x then z else x) (by simp)
    refine ⟨fun y hy => ?_, ?_⟩
    · simp only [List.mem_cons] at hy
      rcases hy with rfl | rfl | hy
      · split at hx <;> rename_i q
        · simp only [q, if_true]; omega
        · simp only [q, if_false]; exact hx
      · split at hx <;> rename_i q
        · simp only [q, if_true]; exact hx
        · simp only [q, if_false]; omega
      · exact h1 y (by simp [hy])
    · simp only [List.mem_cons] at h2 ⊢
      rcases h2 with h2 | h2
      · rw [h2]; split <;> simp
      · exact .inr (.inr h2)
theorem sorted_unique {xs ys : List Int} (h : xs.Perm ys) (hx : xs.Pairwise (· ≤ ·)) (hy : ys.Pairwise (· ≤ ·)) : xs = ys := h.eq_of_pairwise (fun a b _ _ h1 h2 => Int.le_antisymm h1 h2) hx hy
theorem callR_bf (hc : X.calm = true) (f : BF) : CallR X (bfVal f) (rCall G E (bfn f)) := by
  intro pins s σ H xs us Q I rs ⟨F, pn, p, ds, fk, hr, o0⟩
  obtain ⟨z, ez, o⟩ := o0.ofH
  clear o0
  cases f with
  | len =>
    rcases ds with _ | ⟨d, _ | ⟨e, ds⟩⟩
    · simp [bfn] at ez
    · obtain ⟨v, rfl, r⟩ := hr.one
      cases d with
      | tup ys =>
        cases ez
        obtain ⟨a, vs, rfl, e1, r1⟩ := r.tup_inv
        refine call_len_seq pins s σ H _ us Q I rs ⟨a, vs, rfl, .inr (.inl (.inl (fk.sub _ _ e1))), ?_⟩
        rw [r1.length]
        exact o.here fk (.int _)
      | lst ys =>
        cases ez
        obtain ⟨a, vs, rfl, e1, r1⟩ := r.lst_inv
        refine call_len_seq pins s σ H _ us Q I rs ⟨a, vs, rfl, .inl (.inl (.inl (fk.sub _ _ e1))), ?_⟩
        rw [r1.length]
        exact o.here fk (.int _)
      | _ => simp [bfn] at ez
    · simp [bfn] at ez
  | tuple =>
    rcases ds with _ | ⟨d, _ | ⟨e, ds⟩⟩
    · simp [bfn] at ez
    · obtain ⟨v, rfl, r⟩ := hr.one
      cases d with
      | tup ys =>
        cases ez
        obtain ⟨a, vs, rfl, e1, r1⟩ := r.tup_inv
        exact call_tuple_of pins s σ H _ us Q I rs ⟨a, vs, rfl, .inr ⟨.inl (.inl (fk.sub _ _ e1)), o.here fk (.tup e1 r1)⟩⟩
      | lst ys =>
        cases ez
        obtain ⟨a, vs, rfl, e1, r1⟩ := r.lst_inv
        refine call_tuple_of pins s σ H _ us Q I rs ⟨a, vs, rfl, .inl ⟨.inl (.inl (fk.sub _ _ e1)), fun l hn => ?_⟩⟩
        exact o.new fk hn (.tup upd_same (r1.mono (same_upd (fk.sub.free hn))))
      | _ => simp [bfn] at ez
    · simp [bfn] at ez
  | list =>
    rcases ds with _ | ⟨d, _ | ⟨e, ds⟩⟩
    · simp [bfn] at ez
    · obtain ⟨v, rfl, r⟩ := hr.one
      cases d with
      | tup ys =>
        cases ez
        obtain ⟨a, vs, rfl, e1, r1⟩ := r.tup_inv
        refine call_list_of pins s σ H _ us Q I rs ⟨a, vs, rfl, .inr (.inl (.inl (fk.sub _ _ e1))), fun l hn => ?_⟩
        exact o.new fk hn (.lst upd_same (r1.mono (same_upd (fk.sub.free hn))))
      | lst ys =>
        cases ez
        obtain ⟨a, vs, rfl, e1, r1⟩ := r.lst_inv
        refine call_list_of pins s σ H _ us Q I rs ⟨a, vs, rfl, .inl (.inl (.inl (fk.sub _ _ e1))), fun l hn => ?_⟩
        exact o.new fk hn (.lst upd_same (r1.mono (same_upd (fk.sub.free hn))))
      | _ => simp [bfn] at ez
    · simp [bfn] at ez
  | int =>
    rcases ds with _ | ⟨d, _ | ⟨e, ds⟩⟩
    · simp [bfn] at ez
    · obtain ⟨v, rfl, r⟩ := hr.one
      cases d with
      | int i => cases ez; cases r; exact call_int1 pins s σ H _ us Q I rs (.inl ⟨_, rfl, o.here fk (.int _)⟩)
      | bl i => cases ez; cases r; exact call_int1 pins s σ H _ us Q I rs (.inr ⟨_, rfl, o.here fk (.int _)⟩)
      | _ => simp [bfn] at ez
    · simp [bfn] at ez
  | abs =>
    rcases ds with _ | ⟨d, _ | ⟨e, ds⟩⟩
    · simp [bfn] at ez
    · obtain ⟨v, rfl, r⟩ := hr.one
      cases d with
      | int i => cases ez; cases r; exact call_abs pins s σ H _ us Q I rs ⟨_, rfl, o.here fk (.int _)⟩
      | _ => simp [bfn] at ez
    · simp [bfn] at ez
  | max =>
    rcases ds with _ | ⟨d, _ | ⟨e, _ | ⟨e', ds⟩⟩⟩
    · simp [bfn] at ez
    · obtain ⟨v, rfl, r⟩ := hr.one
      cases d with
      | lst ys =>
        simp only [bfn] at ez
        cases ei : intsOf ys with
        | none => rw [ei] at ez; cases ez
        | some ns =>
          rw [ei] at ez
          have := intsOf_eq ei
          subst this
          cases ns with
          | nil => simp [maxOf] at ez
          | cons n ns =>
            simp only [maxOf, Option.bind_some, Option.map_some, Option.some.injEq] at ez
            subst ez
            obtain ⟨a, vs, rfl, e1, r1⟩ := r.lst_inv
            have := reps_ints_inv r1
            subst this
            refine cr_max hc pins s σ H _ us Q I rs ⟨a, n :: ns, rfl, .inl (.inl (fk.sub _ _ e1)), by simp, fun m hm hle => ?_⟩
            obtain ⟨q1, q2⟩ := foldl_max ns n
            have : m = ns.foldl (fun m y => if m < y then y else m) n := Int.le_antisymm (q1 m hm) (hle _ q2)
            rw [this]
            exact o.here fk (.int _)
      | _ => simp [bfn] at ez
    · obtain ⟨v, w, rfl, r1, r2⟩ := hr.two
      cases d <;> cases e <;> simp only [bfn] at ez <;> cases ez
      cases r1; cases r2
      exact call_max2 hc pins s σ H _ us Q I rs ⟨_, _, rfl, o.here fk (.int _)⟩
    · simp [bfn] at ez
  | min =>
    rcases ds with _ | ⟨d, _ | ⟨e, _ | ⟨e', ds⟩⟩⟩
    · simp [bfn] at ez
    · obtain ⟨v, rfl, r⟩ := hr.one
      cases d with
      | lst ys =>
        simp only [bfn] at ez
        cases ei : intsOf ys with
        | none => rw [ei] at ez; cases ez
        | some ns =>
          rw [ei] at ez
          have := intsOf_eq ei
          subst this
          cases ns with
          | nil => simp [minOf] at ez
          | cons n ns =>
            simp only [minOf, Option.bind_some, Option.map_some, Option.some.injEq] at ez
            subst ez
            obtain ⟨a, vs, rfl, e1, r1⟩ := r.lst_inv
            have := reps_ints_inv r1
            subst this
            refine cr_min hc pins s σ H _ us Q I rs ⟨a, n :: ns, rfl, .inl (.inl (fk.sub _ _ e1)), by simp, fun m hm hle => ?_⟩
            obtain ⟨q1, q2⟩ := foldl_min ns n
            have : m = ns.foldl (fun m y => if y < m then y else m) n := Int.le_antisymm (hle _ q2) (q1 m hm)
            rw [this]
            exact o.here fk (.int _)
      | _ => simp [bfn] at ez
    · obtain ⟨v, w, rfl, r1, r2⟩ := hr.two
      cases d <;> cases e <;> simp only [bfn] at ez <;> cases ez
      cases r1; cases r2
      exact call_min2 hc pins s σ H _ us Q I rs ⟨_, _, rfl, o.here fk (.int _)⟩
    · simp [bfn] at ez
  | sum =>
    rcases ds with _ | ⟨d, _ | ⟨e, ds⟩⟩
    · simp [bfn] at ez
    · obtain ⟨v, rfl, r⟩ := hr.one
      cases d with
      | lst ys =>
        simp only [bfn, Option.map_eq_some_iff] at ez
        obtain ⟨ns, ei, rfl⟩ := ez
        have := intsOf_eq ei
        subst this
        obtain ⟨a, vs, rfl, e1, r1⟩ := r.lst_inv
        have := reps_ints_inv r1
        subst this
        exact cr_sum hc pins s σ H _ us Q I rs ⟨a, ns, rfl, .inl (.inl (fk.sub _ _ e1)), o.here fk (.int _)⟩
      | _ => simp [bfn] at ez
    · simp [bfn] at ez
  | all =>
    rcases ds with _ | ⟨d, _ | ⟨e, ds⟩⟩
    · simp [bfn] at ez
    · obtain ⟨v, rfl, r⟩ := hr.one
      cases d with
      | lst ys =>
        simp only [bfn, Option.map_eq_some_iff] at ez
        obtain ⟨ns, ei, rfl⟩ := ez
        have := bolsOf_eq ei
        subst this
        obtain ⟨a, vs, rfl, e1, r1⟩ := r.lst_inv
        have := reps_bols_inv r1
        subst this
        exact cr_all hc pins s σ H _ us Q I rs ⟨a, ns, rfl, .inl (.inl (fk.sub _ _ e1)), o.here fk (.bl _)⟩
      | _ => simp [bfn] at ez
    · simp [bfn] at ez
  | any =>
    rcases ds with _ | ⟨d, _ | ⟨e, ds⟩⟩
    · simp [bfn] at ez
    · obtain ⟨v, rfl, r⟩ := hr.one
      cases d with
      | lst ys =>
        simp only [bfn, Option.map_eq_some_iff] at ez
        obtain ⟨ns, ei, rfl⟩ := ez
        have := bolsOf_eq ei
        subst this
        obtain ⟨a, vs, rfl, e1, r1⟩ := r.lst_inv
        have := reps_bols_inv r1
        subst this
        exact cr_any hc pins s σ H _ us Q I rs ⟨a, ns, rfl, .inl (.inl (fk.sub _ _ e1)), o.here fk (.bl _)⟩
      | _ => simp [bfn] at ez
    · simp [bfn] at ez
  | sorted =>
    rcases ds with _ | ⟨d, _ | ⟨e, ds⟩⟩
    · simp [bfn] at ez
    · obtain ⟨v, rfl, r⟩ := hr.one
      cases d with
      | lst ys =>
        simp only [bfn, Option.map_eq_some_iff] at ez
        obtain ⟨ns, ei, rfl⟩ := ez
        have := intsOf_eq ei
        subst this
        obtain ⟨a, vs, rfl, e1, r1⟩ := r.lst_inv
        have := reps_ints_inv r1
        subst this
        refine cr_sortedI pins s σ H _ us Q I rs ⟨a, ns, rfl, .inl (.inl (fk.sub _ _ e1)), fun ns' l hp hs hn => ?_⟩
        have hm : (ns.mergeSort (fun a b => decide (a ≤ b))).Pairwise (· ≤ ·) := by
          have := List.pairwise_mergeSort (le := fun (a b : Int) => decide (a ≤ b)) (by intro a b c; simp; omega) (by intro a b; simp; omega) ns
          exact this.imp (by simp)
        have : ns' = ns.mergeSort (fun a b => decide (a ≤ b)) := sorted_unique (hp.trans (List.mergeSort_perm ns _).symm) hs hm
        rw [← this] at o
        exact o.new fk hn (.lst upd_same (reps_ints _))
      | _ => simp [bfn] at ez
    · simp [bfn] at ez
end
end Mi

set_option Elab.async false
set_option linter.all false
set_option maxRecDepth 100000
namespace Mi
open PySem PySem.Spec PyProof.Rows L2
section
open PySem.W
variable {prog : Program} {w : World} {A : Around} {E : Value → Shared → Prop} {s : Shared} {K : Frag} {x C f : Addr} {ox : Obj} {od : Option Obj} {b tb : Value}
/-- a slot of 'object' found on an instance -/
theorem ifBound_B {M : Model} {name : Str} {id : String} {T : String} {args : List Value} {Q : Option Value → Shared → Prop} (X : K.In s.heap) (I : InstAt s.heap x ox C od) (hs : findIn K (.ref C) name = some (some (.builtin id))) (S : Slot T name id)
    (h : wpAny M A (call (.builtin id) (.ref x :: args)) (fun v => Q (some v)) E s) : wpAny M A (callSpecialIfBound? (.ref x) name args) Q E s := by
  simp only [callSpecialIfBound?, bindSpecialIfBound?]
  refine wpAny_holding (wpAny_bind (wpAny_bind (wpAny_bind (I.type.here ((looks_findIn X hs).here ?_)))))
  simp only [S.bind]
  refine wpAny_bind (wpAny_askSetting (wpAny_ite ?_))
  have fin : wpAny M A (call (.builtin id) ([.ref x] ++ args) >>= fun v => pure (some v)) Q E s := wpAny_bind (wpAny_mono h (fun v s' h' => wpAny_pure h') fun _ _ h' => h')
  split
  · exact wpAny_bind (wpAny_pure (wpAny_pure (by exact fin)))
  · exact wpAny_tryCatch (wpAny_bind (wpAny_pure (wpAny_pure (by exact fin))))
theorem check_B {M : Model} {id owner n : String} {rest : List Value} {Q : Unit → Shared → Prop} (X : K.In s.heap) (I : InstAt s.heap x ox C od) (hm : mroIn K C (.type owner) = some true) (hk : builtinKind id = some .slot) (hs : splitId id = some (owner, n))
    (ha : argsOk id ⟨.ref x :: rest, []⟩) (hq : Q () s) : wpAny M A (checkBuiltinCall id ⟨.ref x :: rest, []⟩) Q E s := by
  simp only [checkBuiltinCall, hk, hs]
  refine wpAny_bind (wpAny_bind (I.type.here ((looks_mroIn X hm).here ?_)))
  simp only [Bool.not_true, Bool.false_eq_true, if_false]
  cases hsig : Manifest.signature? id with
  | none => exact wpAny_pure hq
  | some sig =>
    simp only [argsOk, hsig] at ha
    have h2 : Bind.checkArgs id sig ⟨.ref x :: rest, []⟩ = pure () := ha
    show wpAny M A (Bind.checkArgs id sig ⟨.ref x :: rest, []⟩) Q E _
    rw [h2]; exact wpAny_pure hq
theorem objNe_K {M : Model} (X : K.In s.heap) (I : InstAt s.heap x ox C od) (hs : findIn K (.ref C) "__eq__" = some (some (.ref f))) (hf : isFn K (.ref f) = true) (hu : A.units < cLine) {Q : Fin → Shared → Prop}
    (h : wpAny M A (call (.ref f) [.ref x, b]) (fun v s' => ∃ t, v = .bool t ∧ Q (.done (.ret (.bool (!t)))) s') E s) : wpAny M A (Builtin.«object.__ne__» ⟨[.ref x, b], []⟩) Q E s := by
  unfold Builtin.«object.__ne__»
  repeat (first
    | with_reducible refine wpAny_cRoomFor hu ?_
    | (refine wpAny_bind (m := callSpecialIfBound? (.ref x) (Str.ofString "__eq__") [b])
        (ifBound_K X I hs hf (wpAny_mono h (fun v s' hr => by
          obtain ⟨t, rfl, hq⟩ := hr
          repeat (first | exact hq | exact wpAny_pure hq | exact wpAny_truthy_bool hq | (refine wpAny_bind (m := truthy (.bool _)) (wpAny_truthy_bool ?_)) | wp_step)) fun _ _ e => e)))
    | wp_step)
/-- a != b where the class has an own __eq__ alone -/
theorem ne_K {Q : Value → Shared → Prop} (hu : A.units + 1 < cLine) (X : K.In s.heap) (I : InstAt s.heap x ox C od) (hb : Looks (model prog w) s.heap (typeOf b) (.ref C))
    (hn : findIn K (.ref C) "__ne__" = some (some (.builtin "object.__ne__"))) (hs : findIn K (.ref C) "__eq__" = some (some (.ref f))) (hf : isFn K (.ref f) = true) (hm : mroIn K C (.type "object") = some true)
    (h : wpAny (model prog w) A.in1 (call (.ref f) [.ref x, b]) (fun v s' => ∃ t, v = .bool t ∧ Q (.bool (!t)) s') E s) : wpAny (model prog w) A (richCompare .NotEq (.ref x) b) Q E s := by
  unfold richCompare
  simp only [oneThing_ref]
  refine wpAny_holding (wpAny_bind (wpAny_cRoomFor (Nat.lt_of_succ_lt hu) ?_))
  rw [cmpInfo_NotEq]
  dsimp only
  refine wpAny_bind (I.type.here (wpAny_bind (hb.here ?_)))
  rw [show (Value.ref C != Value.ref C) = false from by simp]
  simp only [Bool.false_eq_true, if_false]
  refine wpAny_bind (wpAny_pure ?_)
  simp only [Bool.false_eq_true, if_false]
  have one : wpAny (model prog w) A (tryCompare (.ref x) "__ne__" b) (fun r s' => ∃ v, r = some v ∧ Q v s') E s := by
    unfold tryCompare
    refine wpAny_bind (ifBound_B (id := "object.__ne__") X I hn F.slot_tuple_iterator_ne (wpAny_call (codeAny_call_builtin F.slot_tuple_iterator_ne.plain F.cmpEntry_ne
      (check_B X I hm F.cmpKind_ne F.cmpSplit_ne (F.cmpArgs_ne _ _) ?_))))
    refine objNe_K X I hs hf hu (wpAny_mono h (fun v s' hv => ?_) fun _ _ e => e)
    obtain ⟨t, rfl, hq⟩ := hv
    first | exact ⟨t, rfl, wpAny_pure ⟨_, rfl, hq⟩⟩ | exact ⟨t, rfl, wpAny_pure (wpAny_pure ⟨_, rfl, hq⟩)⟩ | exact ⟨t, rfl, ⟨_, rfl, hq⟩⟩
  refine wpAny_bind (wpAny_mono one (fun r s' z => ?_) fun _ _ e => e)
  obtain ⟨v, rfl, hq⟩ := z
  exact wpAny_pure hq
end
section
variable {X : Cx} {G : Ad} {E : XK}
/-- == and != of two objects whose class has its own __eq__ -/
def eqoR (G : Ad) (E : XK) (c : Nat) (ne : Bool) (den : Den) (x y : V) (H : Hp) (Q : VK) : Prop :=
  ∃ F pn p fs gs, FOk F H pn p ∧ Rep G pn F x (.obj c fs) ∧ Rep G pn F y (.obj c gs) ∧ Out G (rD G pn) E pn F H ((den [.obj c fs, .obj c gs] p).bind (eqRes ne)) Q
def eqOp (ne : Bool) : CmpOp := if ne = true then .NotEq else .Eq
theorem eq_callA {c : Nat} {ne : Bool} {den : Den} {k : Nat} {f : Addr} {fd : FuncData} {ps : List Str} (Fn : FnOk X.prog X.w X.K X.mg X.base (L2.CX X.prog X.w) k f fd ps (spOf G 2 den)) (hb : Binds X.K fd ps []) (hx : Passes (L2.CX X.prog X.w) X E)
    {A : Around} (sr : Room k A) (sf : A.frames = X.A.frames) {pins : List (Addr × Obj)} {s : Shared} {σ : L2.St} {H : Hp} {a b : Addr} {Q : VK} (I : Inv X pins σ H s) (h : eqoR G E c ne den (.ref a) (.ref b) H Q) :
    wpAny (model X.prog X.w) A (call (.ref f) [.ref a, .ref b]) (fun v s' => ∃ t, v = .bool t ∧ ∃ H', Inv X pins σ H' s' ∧ Q (.bl (if ne = true then !t else t)) H') X.xe s := by
  obtain ⟨F, pn, p, fs, gs, fk, r1, r2, o⟩ := h
  have hsp : spOf G 2 den [.ref a, .ref b] H (fun v H' => ∃ t, v = .bl t ∧ Q (.bl (if ne = true then !t else t)) H') E := by
    refine ⟨rfl, F, pn, p, _, fk, .cons r1 (.cons r2 .nil), (o.bind (rep := rD G pn)).imp ?_⟩
    rintro v H1 ⟨F1, p1, d, e1, s1, rv, o1⟩
    cases d with
    | bl t => cases rv; exact ⟨t, rfl, o1.here s1.ok (.bl _)⟩
    | _ => exact o1.elim
  have e0 : Env0 X.prog X.w X.K X.mg X.base A X.stack s H := by
    have e := I.env0
    exact ⟨by rw [sf]; exact e.frames, e.mod, e.bs, e.bsz, e.funs, e.frf, e.hok, e.bare⟩
  have hl := Fn.len _ _ _ _ hsp
  have r2 : Vals [V.ref a, V.ref b] [Value.ref a, Value.ref b] := .cons rfl (.cons rfl .nil)
  refine wpAny_call (codeAny_mono (Fn.run A X.stack s H ⟨[.ref a, .ref b], []⟩ [.ref a, .ref b] [.ref a, .ref b] _ E sr e0 (by
    have := hb s [.ref a, .ref b] I.kIn (by simpa using hl)
    simpa using this) r2 hsp) fun r s' hq => ?_)
  cases r with
  | error e => exact hx pins σ H s e s' I hq
  | ok fl =>
    cases fl with
    | ret w =>
      obtain ⟨z, H', I', rz, t, ez, q⟩ := I.after hq
      subst ez
      cases rz
      exact ⟨t, rfl, H', I', q⟩
    | next => exact False.elim hq
    | brk => exact False.elim hq
    | cont => exact False.elim hq
theorem op_eqo {c : Nat} {ne : Bool} {den : Den} {k : Nat} {f : Addr} {fd : FuncData} {ps : List Str} (Fn : FnOk X.prog X.w X.K X.mg X.base (L2.CX X.prog X.w) k f fd ps (spOf G 2 den)) (hb : Binds X.K fd ps []) (hx : Passes (L2.CX X.prog X.w) X E)
    (hr : Room (k + 1) X.A) (hn : PySem.W.findIn X.K (.ref (G.cls c)) "__ne__" = some (some (.builtin "object.__ne__"))) (hs : PySem.W.findIn X.K (.ref (G.cls c)) "__eq__" = some (some (.ref f))) (hf : PySem.W.isFn X.K (.ref f) = true)
    (hm : PySem.W.mroIn X.K (G.cls c) (.type "object") = some true) : OpR X (compareOp (eqOp ne)) (eqoR G E c ne den) := by
  intro pins s σ H x y v u Q I rx ry h
  have h' := h
  obtain ⟨F, pn, p, fs, gs, fk, r1, r2, o⟩ := h
  cases r1 with
  | obj _ e1 l1 q1 =>
    cases r2 with
    | obj _ e2 l2 q2 =>
      cases rx
      cases ry
      obtain ⟨mA, J, _⟩ := ins_get I.hok (fk.sub _ _ e1)
      obtain ⟨mB, J', _⟩ := ins_get I.hok (fk.sub _ _ e2)
      obtain ⟨od, J, _⟩ := J.look
      obtain ⟨od', J', _⟩ := J'.look
      obtain ⟨m, hF⟩ := I.fr
      cases ne with
      | false =>
        show wpAny (model X.prog X.w) X.A (richCompare .Eq _ _) (EP X pins σ Q) X.xe s
        refine PySem.W.cmp_K (op := .Eq) (tb := .ref (G.cls c)) hr.units0 hF I.ok.mod.kin J J'.type (by simp [PySem.W.notFirst]) hs hf ?_
        refine wpAny_mono (eq_callA Fn hb hx (hr.mono (Nat.le_succ k)) rfl I h') (fun v s' z => ?_) fun _ _ x => x
        obtain ⟨t, rfl, H', I', q⟩ := z
        exact ⟨.bl t, H', I', rfl, q⟩
      | true =>
        show wpAny (model X.prog X.w) X.A (richCompare .NotEq _ _) (EP X pins σ Q) X.xe s
        have hu : X.A.units + 1 < cLine := by have := hr.un; omega
        refine ne_K hu I.kIn J J'.type hn hs hf hm ?_
        refine wpAny_mono (eq_callA Fn hb hx hr.in1 rfl I h') (fun v s' z => ?_) fun _ _ x => x
        obtain ⟨t, rfl, H', I', q⟩ := z
        exact ⟨t, rfl, .bl (!t), H', I', rfl, q⟩
end
end Mi

set_option Elab.async false
set_option linter.all false
set_option maxRecDepth 100000
namespace Mi
open PySem PySem.Spec PyProof.Rows L2

/-! ### the text against the small language -/
structure Tab where
  cons : List (Str × Int)
  fns : List (Str × Nat)
  /-- class, how many arguments, attributes -/
  clss : List (Str × Nat × List Str)
  /-- class, its __eq__ among the defs -/
  eqs : List (Nat × Nat)
def nst : Expr → Bool
  | .Starred _ _ => false
  | _ => true
def nsl : Expr → Bool
  | .Slice _ _ _ _ => false
  | _ => true
def nset : Expr → Bool
  | .Set _ _ _ => false
  | _ => true
def ncal : Expr → Bool
  | .Call _ _ _ _ => false
  | _ => true
def visB (sc : Scope) (x : Str) : Bool := match sc.names.lookup x with
  | some .local => true
  | some .cell => true
  | some .free => true
  | _ => false
def locB (sc : Scope) (x : Str) : Bool := match sc.names.lookup x with
  | some .local => true
  | some .cell => true
  | _ => false
def gloB (sc : Scope) (x : Str) : Bool := match sc.names.lookup x with
  | some .globalImplicit => true
  | _ => false
def okN (x : Str) : Bool := !(x == ("__debug__" : Str)) && !(x == ("__classdict__" : Str)) && !(x == ("" : Str))
def tyUse : List String := ["int", "bool", "tuple", "list", "str"]
def bltN : List Str := ["len", "tuple", "list", "int", "abs", "max", "min", "sum", "all", "any", "sorted", "isinstance", "range", "zip", "enumerate", "bool", "str"]
section
variable (T : Tab) (n nc : Nat → Bool) (N : List Str)
def mTy (sc : Scope) : Ty → Expr → Bool
  | .b m, e => match e with
    | .Name x _ => gloB sc x && okN x && decide (x = Str.ofString m) && decide (m ∈ tyUse)
    | _ => false
  | .c k, e => match e with
    | .Name x _ => gloB sc x && okN x && decide ((T.clss[k]?).map (·.1) = some x)
    | _ => false
def mTys (sc : Scope) : List Ty → List Expr → Bool
  | [], [] => true
  | t :: ts, e :: es => nst e && mTy T sc t e && mTys sc ts es
  | _, _ => false
def mNm (sc0 : Scope) (i : Nat) (e : Expr) : Bool := match e with
  | .Name x _ => decide (N[i]? = some x) && locB sc0 x && okN x
  | _ => false
def mNms (sc0 : Scope) : List Nat → List Expr → Bool
  | [], [] => true
  | i :: is, e :: es => nst e && mNm N sc0 i e && mNms sc0 is es
  | _, _ => false
def mTg (sc0 : Scope) : Tg → Expr → Bool
  | .nm i, e => mNm N sc0 i e
  | .tp is, e => match e with
    | .Tuple es _ _ => mNms N sc0 is es
    | _ => false
def isTp : Expr → Bool
  | .Tuple _ _ _ => true
  | _ => false
def tgIn (vs : List Nat) : Tg → Bool
  | .nm i => decide (i ∈ vs)
  | .tp is => is.all fun i => decide (i ∈ vs)
mutual
def mE (sc : Scope) : IE → Expr → Bool
  | .int i, e => match e with
    | .Constant (.int j) _ _ => decide (i = j)
    | _ => false
  | .bl b, e => match e with
    | .Constant (.bool c) _ _ => decide (b = c)
    | _ => false
  | .non, e => match e with
    | .Constant .none _ _ => true
    | _ => false
  | .str x, e => match e with
    | .Constant (.str y) _ _ => decide (x = y)
    | _ => false
  | .var i, e => match e with
    | .Name x _ => decide (N[i]? = some x) && visB sc x && okN x
    | _ => false
  | .con k, e => match e with
    | .Name x _ => gloB sc x && okN x && decide ((T.cons[k]?).map (·.1) = some x)
    | _ => false
  | .fnv k, e => match e with
    | .Name x _ => gloB sc x && okN x && n k && decide ((T.fns[k]?).map (·.1) = some x)
    | _ => false
  | .bin o a b, e => match e with
    | .BinOp l op r _ => decide (op = opOf o) && mE sc a l && mE sc b r
    | _ => false
  | .neg a, e => match e with
    | .UnaryOp .USub x _ => mE sc a x
    | _ => false
  | .not a, e => match e with
    | .UnaryOp .Not x _ => mE sc a x
    | _ => false
  | .cmp o a b, e => match e with
    | .Compare l [op] [r] _ => decide (op = copOf o) && mE sc a l && mE sc b r
    | _ => false
  | .chain o o' a b c, e => match e with
    | .Compare l [op, op'] [r, r'] _ => decide (op = copOf o) && decide (op' = copOf o') && mE sc a l && mE sc b r && mE sc c r'
    | _ => false
  | .and xs, e => match e with
    | .BoolOp .And es _ => mEs sc xs es
    | _ => false
  | .or xs, e => match e with
    | .BoolOp .Or es _ => mEs sc xs es
    | _ => false
  | .ite c a b, e => match e with
    | .IfExp t x y _ => mT sc c t && mE sc a x && mE sc b y
    | _ => false
  | .tup xs, e => match e with
    | .Tuple es _ _ => mEs sc xs es
    | _ => false
  | .lst xs, e => match e with
    | .List es _ => mEs sc xs es
    | _ => false
  | .ix a b, e => match e with
    | .Subscript x y _ => nsl y && mE sc a x && mE sc b y
    | _ => false
  | .sl a lo hi, e => match e with
    | .Subscript x (.Slice l h none _) _ => mE sc a x && mO sc lo l && mO sc hi h
    | _ => false
  | .fld a f, e => match e with
    | .Attribute x g _ => decide (f = g) && ncal x && mE sc a x
    | _ => false
  | .call k xs, e => match e with
    | .Call (.Name x _) es [] _ => gloB sc x && okN x && n k && decide (T.fns[k]? = some (x, es.length)) && mEs sc xs es
    | _ => false
  | .mk c xs, e => match e with
    | .Call (.Name x _) (e0 :: es) [] _ => gloB sc x && okN x && nc c && decide ((T.clss[c]?).map (fun t => (t.1, t.2.1)) = some (x, es.length + 1)) && mEs sc xs (e0 :: es)
    | _ => false
  | .blt f xs, e => match e with
    | .Call (.Name x _) (e0 :: es) [] _ => gloB sc x && okN x && decide (x = bfName f) && mEs sc xs (e0 :: es)
    | _ => false
  | .isi a t, e => match e with
    | .Call (.Name x _) [y, z] [] _ => gloB sc x && okN x && decide (x = ("isinstance" : Str)) && nst y && nst z && mE sc a y && mTy T sc t z
    | _ => false
  | .isis a ts, e => match e with
    | .Call (.Name x _) [y, .Tuple zs _ _] [] _ => gloB sc x && okN x && decide (x = ("isinstance" : Str)) && nst y && mE sc a y && mTys T sc ts zs && decide (ts.length ≤ 10)
    | _ => false
  | .comp elt tg it ifs own, e => match e with
    | .ListComp x [⟨t, i, fs, k⟩] scope _ => decide (k = 0) && blkC N sc scope own && nset i && mI sc it t i && mTg N scope tg t && tgIn (own.map (·.2)) tg && mTs (relS scope sc) ifs fs && decide (fs.length ≤ 1) && mE (relS scope sc) elt x
    | _ => false
  | .pget a f, e => match e with
    | .Subscript x (.Constant (.str g) _ _) _ => decide (f = g) && mE sc a x
    | _ => false
  | .eqo ne c k a b, e => match e with
    | .Compare l [op] [r] _ => decide (op = eqOp ne) && n k && decide ((c, k) ∈ T.eqs) && mE sc a l && mE sc b r
    | _ => false
def mT (sc : Scope) : IE → Expr → Bool
  | .not a, e => match e with
    | .UnaryOp .Not x _ => mT sc a x
    | _ => false
  | .and xs, e => match e with
    | .BoolOp .And es _ => mTs sc xs es && !es.isEmpty
    | _ => false
  | .or xs, e => match e with
    | .BoolOp .Or es _ => mTs sc xs es && !es.isEmpty
    | _ => false
  | .cmp o a b, e => match e with
    | .Compare l [op] [r] _ => decide (op = copOf o) && mE sc a l && mE sc b r
    | _ => false
  | .chain o o' a b c, e => match e with
    | .Compare l [op, op'] [r, r'] _ => decide (op = copOf o) && decide (op' = copOf o') && mE sc a l && mE sc b r && mE sc c r'
    | _ => false
  | .var i, e => match e with
    | .Name x _ => decide (N[i]? = some x) && visB sc x && okN x
    | _ => false
  | .call k xs, e => match e with
    | .Call (.Name x _) es [] _ => gloB sc x && okN x && n k && decide (T.fns[k]? = some (x, es.length)) && mEs sc xs es
    | _ => false
  | .blt f xs, e => match e with
    | .Call (.Name x _) (e0 :: es) [] _ => gloB sc x && okN x && decide (x = bfName f) && mEs sc xs (e0 :: es)
    | _ => false
  | .isi a t, e => match e with
    | .Call (.Name x _) [y, z] [] _ => gloB sc x && okN x && decide (x = ("isinstance" : Str)) && nst y && nst z && mE sc a y && mTy T sc t z
    | _ => false
  | .isis a ts, e => match e with
    | .Call (.Name x _) [y, .Tuple zs _ _] [] _ => gloB sc x && okN x && decide (x = ("isinstance" : Str)) && nst y && mE sc a y && mTys T sc ts zs && decide (ts.length ≤ 10)
    | _ => false
  | .fld a f, e => match e with
    | .Attribute x g _ => decide (f = g) && ncal x && mE sc a x
    | _ => false
  | .bl b, e => match e with
    | .Constant (.bool c) _ _ => decide (b = c)
    | _ => false
  | .eqo ne c k a b, e => match e with
    | .Compare l [op] [r] _ => decide (op = eqOp ne) && n k && decide ((c, k) ∈ T.eqs) && mE sc a l && mE sc b r
    | _ => false
  | _, _ => false
def mEs (sc : Scope) : IEs → List Expr → Bool
  | .nil, es => match es with
    | [] => true
    | _ => false
  | .cons a r, es => match es with
    | e :: es => nst e && mE sc a e && mEs sc r es
    | _ => false
def mTs (sc : Scope) : IEs → List Expr → Bool
  | .nil, es => match es with
    | [] => true
    | _ => false
  | .cons a r, es => match es with
    | e :: es => mT sc a e && mTs sc r es
    | _ => false
def mO (sc : Scope) : IO → Option Expr → Bool
  | .no, o => match o with
    | none => true
    | _ => false
  | .so a, o => match o with
    | some e => mE sc a e
    | _ => false
/-- behind the target's form -/
def mI (sc : Scope) : II → Expr → Expr → Bool
  | .seq a, _, e => mE sc a e
  | .rng1 a, _, e => match e with
    | .Call (.Name x _) [y] [] _ => gloB sc x && okN x && decide (x = ("range" : Str)) && nst y && mE sc a y
    | _ => false
  | .rng2 a b, _, e => match e with
    | .Call (.Name x _) [y, z] [] _ => gloB sc x && okN x && decide (x = ("range" : Str)) && nst y && nst z && mE sc a y && mE sc b z
    | _ => false
  | .zip a b, t, e => match e with
    | .Call (.Name x _) [y, z] [] _ => isTp t && gloB sc x && okN x && decide (x = ("zip" : Str)) && nst y && nst z && mE sc a y && mE sc b z
    | _ => false
  | .enum a, t, e => match e with
    | .Call (.Name x _) [y] [] _ => isTp t && gloB sc x && okN x && decide (x = ("enumerate" : Str)) && nst y && mE sc a y
    | _ => false
end
end

/-! ### what is known of classes -/
structure ClsF (K : PySem.W.Frag) (G : Ad) : Prop where
  cl : ∀ c, c < G.nc → Cls K (G.cls c)
  noat : ∀ c, c < G.nc → ∀ f ∈ G.att c, NoAttr K (G.cls c) f
  nd : ∀ c, c < G.nc → (G.att c).Nodup ∧ (G.att c).length ≤ 900
  ha : ∀ c, c < G.nc → PySem.W.findIn K (.ref (G.cls c)) "__class__" = some (some (.builtin "object.__class__"))
  hm : ∀ c, c < G.nc → PySem.W.mroIn K (G.cls c) (.type "object") = some true
  hn : 0 < G.nc → PySem.W.specialIn K (.builtin "object.__class__") "__get__" = some (some (.builtin "getset_descriptor.__get__"))
  ht : 0 < G.nc → PySem.W.takesIn K (.builtin "object.__class__") = some true
  kcc : ∀ c d, c < G.nc → d < G.nc → PySem.W.kitOne K (.ref (G.cls c)) (.ref (G.cls d)) = some (decide (c = d))
  kbc : ∀ c, c < G.nc → ∀ m ∈ "NoneType" :: tyUse, PySem.W.kitOne K (.type m) (.ref (G.cls c)) = some false
  kcb : ∀ c, c < G.nc → ∀ m ∈ tyUse, PySem.W.kitOne K (.ref (G.cls c)) (.type m) = some false

/-! ### the promise of an __init__ -/
def spIni (G : Ad) (c m : Nat) (ini : List D → PenS → R (List D)) : Sp := fun vs H Q E => vs.length = m + 1 ∧ ∃ x dx args, vs = .ref x :: args ∧ H x = some (.ins (G.cls c) dx []) ∧
  ∃ F pn p ds, FOk F H pn p ∧ F x = none ∧ Reps G pn F args ds ∧ match ini ds p with
    | .ok fs p' => ∀ F' H' ws dx', (∀ a o, ¬ IsPen pn a → a ≠ x → H a = some o → H' a = some o) → (∀ a, H' a = none → H a = none) → Same F F' → (∀ a, F' a ≠ none → F a ≠ none ∨ H a = none) → FOk F' H' pn p' → F' x = none →
        H' x = some (.ins (G.cls c) dx' ((G.att c).zip ws)) → ws.length = (G.att c).length → Reps G pn F' ws fs → Q .non H'
    | .err k fs p' => ∀ F' H' dy, (∀ a o, ¬ IsPen pn a → a ≠ x → H a = some o → H' a = some o) → (∀ a, H' a = none → H a = none) → Same F F' → (∀ a, F' a ≠ none → F a ≠ none ∨ H a = none) → FOk F' H' pn p' → XAt G pn F' H' k fs dy → E (.ref (G.cls k)) (some dy) H'
    | .stuck => False

/-! ### where one stands -/
structure Ctx (T : Tab) (S : Sem0) (G : Ad) (lv : Nat → Nat) (n nc : Nat → Bool) (N : List Str) (sc sc0 : Scope) (E : XK) (X : Cx) : Prop where
  hN : X.N = N
  nd : N.Nodup
  hsc : X.env.scope = sc
  loc : ∀ x, locB sc0 x = true → Loc X.env.scope x ∧ (X.fn x = true ∨ X.env.scope.names.lookup x = some .local)
  calm : X.calm = true
  units : X.A.units + 64 < cLine
  room : ∀ i, n i = true → Room (lv i) X.A
  con : ∀ i x v, T.cons[i]? = some (x, v) → S.con i = some v ∧ ∃ t, X.mg x = some (.int v t)
  fns : ∀ i x m, n i = true → T.fns[i]? = some (x, m) → ∃ fd ps, FnOk X.prog X.w X.K X.mg X.base (L2.CX X.prog X.w) (lv i) (G.fad i) fd ps (spOf G m (S.den i)) ∧ (x ≠ ("" : Str) → X.mg x = some (.ref (G.fad i)) ∧ PySem.W.keepIn X.K (.ref (G.fad i)) = true) ∧ Binds X.K fd ps []
  free : ∀ x ∈ bltN, X.mg x = none
  hnc : G.nc = T.clss.length
  att : S.att = G.att
  clsF : ClsF X.K G
  clsM : ∀ c x m at_, T.clss[c]? = some (x, m, at_) → X.mg x = some (.ref (G.cls c))
  mks : ∀ c x m at_, nc c = true → T.clss[c]? = some (x, m, at_) → ∃ f fd ps k, FnOk X.prog X.w X.K X.mg X.base (L2.CX X.prog X.w) k f fd ps (spIni G c m (S.ini c)) ∧ Mk X.K (G.cls c) f ∧ Binds X.K fd ps [] ∧ Room (k + 1) X.A
  eqs : ∀ c k, (c, k) ∈ T.eqs → n k = true → c < G.nc ∧ ∃ f fd ps, FnOk X.prog X.w X.K X.mg X.base (L2.CX X.prog X.w) (lv k) f fd ps (spOf G 2 (S.den k)) ∧ Binds X.K fd ps [] ∧ Room (lv k + 1) X.A ∧
    PySem.W.findIn X.K (.ref (G.cls c)) "__ne__" = some (some (.builtin "object.__ne__")) ∧ PySem.W.findIn X.K (.ref (G.cls c)) "__eq__" = some (some (.ref f)) ∧ PySem.W.isFn X.K (.ref f) = true
  pass : Passes (L2.CX X.prog X.w) X E

section
variable {X : Cx} {e : Expr} {es : List Expr} {sc : Scope} {x : Str}
theorem star_cons (h : nst e = true) (env : Env) : starEach (e :: es) env = (false, eval e env) :: starEach es env := by
  cases e <;> first | rfl | cases h
theorem star_plain : ∀ {es : List Expr}, (∀ e ∈ es, nst e = true) → ∀ (pos : Pos) (env : Env), (backTo pos (starEach es env)).any (·.1) = false
  | [], _, _, _ => rfl
  | e :: es, h, pos, env => by
    rw [star_cons (h e (by simp))]
    have ih := star_plain (es := es) (fun e he => h e (by simp [he])) pos env
    unfold backTo at ih ⊢
    simp only [List.map_cons, List.any_cons, ih]
    rfl
theorem plain_ix (h : nsl e = true) : PlainIx e := fun o i => by
  cases e <;> first | rfl | cases h
theorem attr_base (h : ncal e = true) (f : Str) (env : Env) (w : Sem Value) : attributeBase e f env w = w := by
  cases e <;> first | rfl | cases h
theorem fold_set (h : nset e = true) (env : Env) (x : Value) : foldedSetIterable e env x = pure x := by
  cases e <;> first | rfl | cases h
theorem vis_of (h : visB sc x = true) : Vis sc x := by
  unfold visB at h
  unfold Vis
  cases q : sc.names.lookup x with
  | none => rw [q] at h; cases h
  | some k => rw [q] at h; cases k <;> first | exact .inl rfl | exact .inr (.inl rfl) | exact .inr (.inr rfl) | cases h
theorem glo_of (hs : X.env.scope = sc) (h : gloB sc x = true) : Gl X x := by
  unfold gloB at h
  unfold Gl Env.kindOf
  rw [hs]
  cases q : sc.names.lookup x with
  | none => rw [q] at h; cases h
  | some k => rw [q] at h; cases k <;> first | rfl | cases h
theorem okN1 (h : okN x = true) : (x == ("__debug__" : Str)) = false := by
  unfold okN at h; simp only [Bool.and_eq_true, Bool.not_eq_true'] at h; exact h.1.1
theorem okN2 (h : okN x = true) : (x == ("__classdict__" : Str)) = false := by
  unfold okN at h; simp only [Bool.and_eq_true, Bool.not_eq_true'] at h; exact h.1.2
theorem okN3 (h : okN x = true) : x ≠ ("" : Str) := by
  unfold okN at h; simp only [Bool.and_eq_true, Bool.not_eq_true'] at h; simpa using h.2
end
end Mi

set_option Elab.async false
set_option linter.all false
set_option maxRecDepth 100000
namespace Mi
open PySem PySem.Spec PyProof.Rows L2

/-! ### what is walked -/
structure JOk (G : Ad) (pn : PN) (F : Hp) (J : It) (ds : List D) : Prop where
  go : ∀ i H, Same F H → i < ds.length → J.go i H
  stop : ∀ i H, Same F H → ds.length ≤ i → J.stop i H
  yld : ∀ i H x H' F1 p, Same F F1 → FOk F1 H pn p → J.yld i H x H' → i < ds.length → ∃ d F2, ds[i]? = some d ∧ Step pn p F1 H F2 H' ∧ Rep G pn F2 x d
abbrev rJ (G : Ad) (pn : PN) : Hp → It → List D → Prop := fun F J ds => JOk G pn F J ds
abbrev tI (G : Ad) (E : XK) (ev : DEnv → PenS → R (List D)) : TI := tG G (rJ G) E ev
theorem piI {X : Cx} {tg e : Expr} {t t' : TI} (h : PI X tg e t) (i : ∀ σ H Q, t' σ H Q → t σ H Q) : PI X tg e t' := ⟨fun pins s σ H Q I q => h.run pins s σ H Q I (i σ H Q q)⟩
section
variable {G : Ad} {pn : PN} {F : Hp} {K : PySem.W.Frag}
theorem sqL_inj {H : Hp} {a : Addr} {xs ys : List V} (h : H a = some (.lst xs)) (q : ∀ zs, SqL K H a zs → zs[0]? = ys[0]? ) : True := trivial
theorem jok_lst {a : Addr} {vs : List V} {ds : List D} (e : F a = some (.lst vs)) (r : Reps G pn F vs ds) : JOk G pn F (Itl K a) ds where
  go := fun i H s hi => by
    obtain ⟨v, hv, _⟩ := r.get (List.getElem?_eq_getElem hi)
    exact ⟨vs, v, SqL.of (s _ _ e), hv⟩
  stop := fun i H s hi => ⟨vs, SqL.of (s _ _ e), by rw [r.length]; exact hi⟩
  yld := fun i H x H' F1 p s fk y hi => by
    obtain ⟨rfl, y⟩ := y
    have hx := y vs (SqL.of (fk.sub _ _ (s _ _ e)))
    obtain ⟨d, hd, rd⟩ := r.get' hx
    exact ⟨d, F1, hd, Step.refl fk, rd.mono s⟩
theorem jok_tup {a : Addr} {vs : List V} {ds : List D} (e : F a = some (.tup vs)) (r : Reps G pn F vs ds) : JOk G pn F (Itt K a) ds where
  go := fun i H s hi => by
    obtain ⟨v, hv, _⟩ := r.get (List.getElem?_eq_getElem hi)
    exact ⟨vs, v, SqT.of (s _ _ e), hv⟩
  stop := fun i H s hi => ⟨vs, SqT.of (s _ _ e), by rw [r.length]; exact hi⟩
  yld := fun i H x H' F1 p s fk y hi => by
    obtain ⟨rfl, y⟩ := y
    have hx := y vs (SqT.of (fk.sub _ _ (s _ _ e)))
    obtain ⟨d, hd, rd⟩ := r.get' hx
    exact ⟨d, F1, hd, Step.refl fk, rd.mono s⟩
theorem rng_get {a b : Int} {i : Nat} (h : i < (b - a).toNat) : (rng a b)[i]? = some (.int (a + (i : Nat))) := by
  unfold rng
  rw [List.getElem?_map, List.getElem?_range h]
  rfl
theorem rng_length (a b : Int) : (rng a b).length = (b - a).toNat := by unfold rng; rw [List.length_map, List.length_range]
theorem jok_rng (a b : Int) : JOk G pn F (Itr a (b - a).toNat) (rng a b) where
  go := fun i H s hi => by rw [rng_length] at hi; exact hi
  stop := fun i H s hi => by rw [rng_length] at hi; exact hi
  yld := fun i H x H' F1 p s fk y hi => by
    obtain ⟨rfl, rfl⟩ := y
    rw [rng_length] at hi
    exact ⟨_, F1, rng_get hi, Step.refl fk, .int _⟩
theorem zipD_get : ∀ {xs ys : List D} {i : Nat} {x y : D}, xs[i]? = some x → ys[i]? = some y → (zipD xs ys)[i]? = some (.tup [x, y])
  | [], _, _, _, _, h, _ => by simp at h
  | _ :: _, [], _, _, _, _, h => by simp at h
  | x :: xs, y :: ys, 0, _, _, h1, h2 => by simp at h1 h2; subst h1 h2; rfl
  | x :: xs, y :: ys, i + 1, _, _, h1, h2 => by
    simp only [zipD, List.getElem?_cons_succ] at *
    exact zipD_get h1 h2
theorem zipD_length : ∀ (xs ys : List D), (zipD xs ys).length = min xs.length ys.length
  | [], _ => by simp [zipD]
  | _ :: _, [] => by simp [zipD]
  | x :: xs, y :: ys => by simp only [zipD, List.length_cons, zipD_length xs ys]; omega
theorem enumD_get : ∀ {xs : List D} {n i : Nat} {x : D}, xs[i]? = some x → (enumD n xs)[i]? = some (.tup [.int ((n + i : Nat) : Int), x])
  | [], _, _, _, h => by simp at h
  | x :: xs, n, 0, _, h => by simp at h; subst h; rfl
  | x :: xs, n, i + 1, _, h => by
    simp only [enumD, List.getElem?_cons_succ] at *
    rw [enumD_get h]
    congr 5
    omega
theorem enumD_length : ∀ (n : Nat) (xs : List D), (enumD n xs).length = xs.length
  | _, [] => rfl
  | n, x :: xs => by simp [enumD, enumD_length (n + 1) xs]
/-- a new pair is laid -/
theorem step_pair {H : Hp} {p : PenS} {T : Addr} {vs : List V} {ds : List D} (fk : FOk F H pn p) (hn : H T = none) (r : Reps G pn F vs ds) :
    Step pn p F H (upd F T (.tup vs)) (upd H T (.tup vs)) ∧ Rep G pn (upd F T (.tup vs)) (.ref T) (.tup ds) :=
  ⟨Step.laid fk hn, .tup upd_same (r.mono (same_upd (fk.sub.free hn)))⟩
theorem jok_zipL {a b : Addr} {vs ws : List V} {ds es : List D} (e1 : F a = some (.lst vs)) (r1 : Reps G pn F vs ds) (e2 : F b = some (.lst ws)) (r2 : Reps G pn F ws es) : JOk G pn F (Itz K a b) (zipD ds es) where
  go := fun i H s hi => by
    rw [zipD_length] at hi
    obtain ⟨v, hv, _⟩ := r1.get (List.getElem?_eq_getElem (show i < ds.length by omega))
    obtain ⟨w, hw, _⟩ := r2.get (List.getElem?_eq_getElem (show i < es.length by omega))
    exact ⟨vs, ws, v, w, SqL.of (s _ _ e1), SqL.of (s _ _ e2), hv, hw⟩
  stop := fun i H s hi => by
    rw [zipD_length] at hi
    refine ⟨vs, ws, SqL.of (s _ _ e1), SqL.of (s _ _ e2), ?_⟩
    rw [r1.length, r2.length]; omega
  yld := fun i H x H' F1 p s fk y hi => by
    obtain ⟨T, x, y, rfl, hn, rfl, h1, h2⟩ := y
    have hx := h1 vs (SqL.of (fk.sub _ _ (s _ _ e1)))
    have hy := h2 ws (SqL.of (fk.sub _ _ (s _ _ e2)))
    obtain ⟨d, hd, rd⟩ := r1.get' hx
    obtain ⟨e, he, re⟩ := r2.get' hy
    obtain ⟨q1, q2⟩ := step_pair fk hn (.cons (rd.mono s) (.cons (re.mono s) .nil))
    exact ⟨_, _, zipD_get hd he, q1, q2⟩
theorem jok_zipT {a b : Addr} {vs ws : List V} {ds es : List D} (e1 : F a = some (.tup vs)) (r1 : Reps G pn F vs ds) (e2 : F b = some (.tup ws)) (r2 : Reps G pn F ws es) : JOk G pn F (RZ.ItzT K a b) (zipD ds es) where
  go := fun i H s hi => by
    rw [zipD_length] at hi
    obtain ⟨v, hv, _⟩ := r1.get (List.getElem?_eq_getElem (show i < ds.length by omega))
    obtain ⟨w, hw, _⟩ := r2.get (List.getElem?_eq_getElem (show i < es.length by omega))
    exact ⟨vs, ws, v, w, SqT.of (s _ _ e1), SqT.of (s _ _ e2), hv, hw⟩
  stop := fun i H s hi => by
    rw [zipD_length] at hi
    refine ⟨vs, ws, SqT.of (s _ _ e1), SqT.of (s _ _ e2), ?_⟩
    rw [r1.length, r2.length]; omega
  yld := fun i H x H' F1 p s fk y hi => by
    obtain ⟨T, x, y, rfl, hn, rfl, h1, h2⟩ := y
    have hx := h1 vs (SqT.of (fk.sub _ _ (s _ _ e1)))
    have hy := h2 ws (SqT.of (fk.sub _ _ (s _ _ e2)))
    obtain ⟨d, hd, rd⟩ := r1.get' hx
    obtain ⟨e, he, re⟩ := r2.get' hy
    obtain ⟨q1, q2⟩ := step_pair fk hn (.cons (rd.mono s) (.cons (re.mono s) .nil))
    exact ⟨_, _, zipD_get hd he, q1, q2⟩
theorem jok_enum {a : Addr} {vs : List V} {ds : List D} (e1 : F a = some (.lst vs)) (r1 : Reps G pn F vs ds) : JOk G pn F (Ite K a) (enumD 0 ds) where
  go := fun i H s hi => by
    rw [enumD_length] at hi
    obtain ⟨v, hv, _⟩ := r1.get (List.getElem?_eq_getElem hi)
    exact ⟨vs, v, SqL.of (s _ _ e1), hv⟩
  stop := fun i H s hi => ⟨vs, SqL.of (s _ _ e1), by rw [enumD_length] at hi; rw [r1.length]; exact hi⟩
  yld := fun i H x H' F1 p s fk y hi => by
    obtain ⟨T, x, rfl, hn, rfl, h1⟩ := y
    have hx := h1 vs (SqL.of (fk.sub _ _ (s _ _ e1)))
    obtain ⟨d, hd, rd⟩ := r1.get' hx
    obtain ⟨q1, q2⟩ := step_pair fk hn (.cons (.int ((i : Nat) : Int)) (.cons (rd.mono s) .nil))
    refine ⟨_, _, enumD_get hd, q1, ?_⟩
    rw [Nat.zero_add]
    exact q2
end

/-! ### targets -/
theorem DR.set {G : Ad} {pn : PN} {σ : L2.St} {ρ : DEnv} {F : Hp} (h : DR G pn σ ρ F) {v : V} {d : D} (r : Rep G pn F v d) (i : Nat) : DR G pn (σ.set i (some v)) (ρ.set i (some d)) F := by
  refine ⟨by rw [List.length_set, List.length_set]; exact h.1, fun j e q => ?_⟩
  by_cases hj : i = j
  · subst hj
    by_cases hl : i < ρ.length
    · rw [List.getElem?_set_self hl] at q
      cases q
      exact ⟨v, List.getElem?_set_self (by rw [h.1]; exact hl), r⟩
    · rw [List.getElem?_eq_none (by simpa using hl)] at q; cases q
  · rw [List.getElem?_set_ne hj] at q
    rw [List.getElem?_set_ne hj]
    exact h.2 j e q
theorem DR.wipe {G : Ad} {pn : PN} {σ : L2.St} {ρ : DEnv} {F : Hp} (h : DR G pn σ ρ F) : ∀ vs : List Nat, DR G pn (wipe σ vs) (wipeD ρ vs) F
  | [] => h
  | v :: vs => by
    have ih := h.wipe vs
    refine ⟨by unfold L2.wipe wipeD; rw [List.length_set, List.length_set]; exact ih.1, fun j e q => ?_⟩
    unfold wipeD at q
    unfold L2.wipe
    by_cases hj : v = j
    · subst hj
      by_cases hl : v < (wipeD ρ vs).length
      · rw [List.getElem?_set_self hl] at q; cases q
      · rw [List.getElem?_eq_none (by simpa using hl)] at q; cases q
    · rw [List.getElem?_set_ne hj] at q
      rw [List.getElem?_set_ne hj]
      exact ih.2 j e q
theorem wipe_get (σ : L2.St) : ∀ (vs : List Nat) (j : Nat), (wipe σ vs)[j]? = if j ∈ vs ∧ j < σ.length then some none else σ[j]?
  | [], j => by simp [L2.wipe]
  | v :: vs, j => by
    unfold L2.wipe
    by_cases hj : v = j
    · subst hj
      by_cases hl : v < σ.length
      · rw [List.getElem?_set_self (by rw [wipe_length]; exact hl), if_pos ⟨by simp, hl⟩]
      · rw [List.getElem?_eq_none (by rw [List.length_set, wipe_length]; omega), if_neg (by omega), List.getElem?_eq_none (by omega)]
    · rw [List.getElem?_set_ne hj, wipe_get σ vs j]
      have : (j ∈ v :: vs) ↔ j ∈ vs := by simp [Ne.symm hj]
      simp only [this]
theorem wipe_wipe (σ : L2.St) (vs : List Nat) : wipe (wipe σ vs) vs = wipe σ vs := by
  apply List.ext_getElem?
  intro j
  rw [wipe_get, wipe_get, wipe_length]
  split <;> rfl
theorem wipe_set {σ : L2.St} {vs : List Nat} {i : Nat} (x : Option V) (h : i ∈ vs) : wipe (σ.set i x) vs = wipe σ vs := by
  apply List.ext_getElem?
  intro j
  rw [wipe_get, wipe_get, List.length_set]
  split
  · rfl
  · rename_i hh
    by_cases hj : i = j
    · subst hj
      have hl : ¬ i < σ.length := fun z => hh ⟨h, z⟩
      rw [List.getElem?_eq_none (by rw [List.length_set]; omega), List.getElem?_eq_none (by omega)]
    · rw [List.getElem?_set_ne hj]
/-- a target by what it does to the meaning -/
def tgSt (σ : L2.St) : Tg → D → V → L2.St → Prop := fun _ _ _ _ => True
section
variable {G : Ad} {X : Cx} {N : List Str} {sc0 : Scope}
def gT (G : Ad) (vs : List Nat) (tg : Tg) : TG := fun v σ H Q => ∃ ρ F pn p d ρ', DR G pn σ ρ F ∧ FOk F H pn p ∧ Rep G pn F v d ∧ asgTg ρ tg d = some ρ' ∧ ∀ σ', DR G pn σ' ρ' F → wipe σ' vs = wipe σ vs → Q σ' H
def gsT (G : Ad) (vs : List Nat) (is : List Nat) : TGs := fun xs σ H Q => ∃ ρ F pn p ds ρ', DR G pn σ ρ F ∧ FOk F H pn p ∧ Reps G pn F xs ds ∧ setAll ρ is ds = some ρ' ∧ ∀ σ', DR G pn σ' ρ' F → wipe σ' vs = wipe σ vs → Q σ' H
theorem nst_asg {e : Expr} (h : nst e = true) (es : List Expr) (env : Env) : (assignEach (e :: es) env) = (false, assign e env) :: assignEach es env := by
  cases e <;> first | rfl | cases h
theorem mNms_nst : ∀ {is : List Nat} {es : List Expr}, mNms N sc0 is es = true → (∀ e ∈ es, nst e = true) ∧ is.length = es.length
  | [], [], _ => ⟨fun e h => by simp at h, rfl⟩
  | [], _ :: _, h => by cases h
  | _ :: _, [], h => by cases h
  | i :: is, e :: es, h => by
    simp only [mNms, Bool.and_eq_true] at h
    obtain ⟨q1, q2⟩ := mNms_nst h.2
    exact ⟨fun e' he => by
      rcases List.mem_cons.mp he with rfl | he
      · exact h.1.1
      · exact q1 e' he, by simp [q2]⟩
theorem asg_len : ∀ {es : List Expr}, (∀ e ∈ es, nst e = true) → ∀ (env : Env), (assignEach es env).length = es.length ∧ (assignEach es env).findIdx? (·.1) = none
  | [], _, _ => ⟨rfl, rfl⟩
  | e :: es, h, env => by
    obtain ⟨q1, q2⟩ := asg_len (es := es) (fun e he => h e (by simp [he])) env
    rw [nst_asg (h e (by simp))]
    refine ⟨by simp [q1], ?_⟩
    rw [List.findIdx?_cons, q2]
    rfl
variable (hN : X.N = N) (nd : N.Nodup) (loc : ∀ x, locB sc0 x = true → Loc X.env.scope x ∧ (X.fn x = true ∨ X.env.scope.names.lookup x = some .local)) (calm : X.calm = true) (vs : List Nat)
include hN nd loc
theorem pg_nm {i : Nat} {e : Expr} (h : mNm N sc0 i e = true) (hv : i ∈ vs) : PG X e (gT G vs (.nm i)) := by
  unfold mNm at h
  split at h
  · rename_i x pos
    simp only [Bool.and_eq_true, decide_eq_true_eq] at h
    obtain ⟨⟨h1, h2⟩, h3⟩ := h
    obtain ⟨l1, l2⟩ := loc x h2
    have pg : PG X (.Name x pos) (gName i) := pg_name (by rw [hN]; exact nd) (by rw [hN]; exact h1) l1 l2
    refine ⟨fun pins s σ H v u Q I r ⟨ρ, F, pn, p, d, ρ', dr, fk, rv, ha, q⟩ => pg.run pins s σ H v u Q I r ?_⟩
    cases ha
    exact q _ (dr.set rv i) (wipe_set _ hv)
  · cases h
theorem pgs_nms : ∀ {is : List Nat} {es : List Expr}, mNms N sc0 is es = true → (∀ i ∈ is, i ∈ vs) → PGs X es (gsT G vs is)
  | [], [], _, _ => by
    refine ⟨fun pins s σ H xs us Q I r ⟨ρ, F, pn, p, ds, ρ', dr, fk, rs, ha, q⟩ => ?_⟩
    cases ds with
    | nil =>
      cases rs
      cases ha
      exact (pgs_nil (X := X)).run pins s σ H [] us Q I r ⟨rfl, q _ dr rfl⟩
    | cons _ _ => cases ha
  | [], _ :: _, h, _ => by cases h
  | _ :: _, [], h, _ => by cases h
  | i :: is, e :: es, h, hv => by
    simp only [mNms, Bool.and_eq_true] at h
    have pg := pg_nm (G := G) hN nd loc vs h.1.2 (hv i (by simp))
    have pgs := pgs_nms (is := is) (es := es) h.2 (fun j hj => hv j (by simp [hj]))
    have z := pgs_cons pg pgs (by rw [nst_asg h.1.1]; rfl)
    refine ⟨fun pins s σ H xs us Q I r ⟨ρ, F, pn, p, ds, ρ', dr, fk, rs, ha, q⟩ => z.run pins s σ H xs us Q I r ?_⟩
    cases ds with
    | nil => cases ha
    | cons d ds =>
      cases rs with
      | cons r1 r2 =>
        refine ⟨_, _, rfl, ρ, F, pn, p, d, _, dr, fk, r1, rfl, fun σ' dr' hw => ⟨_, F, pn, p, ds, ρ', dr', fk, r2, ha, fun σ'' dr'' hw' => q σ'' dr'' (hw'.trans hw)⟩⟩
include calm
theorem pg_tg {tg : Tg} {e : Expr} (h : mTg N sc0 tg e = true) (hv : tgIn vs tg = true) : PG X e (gT G vs tg) := by
  cases tg with
  | nm i => exact pg_nm hN nd loc vs h (by simpa [tgIn] using hv)
  | tp is =>
    simp only [mTg] at h
    split at h
    · rename_i es k pos
      obtain ⟨q1, q2⟩ := mNms_nst h
      obtain ⟨q3, q4⟩ := asg_len q1 X.env
      have pgs := pgs_nms (G := G) hN nd loc vs h (by simpa [tgIn] using hv)
      have z := pg_tup (k := k) (pos := pos) calm pgs q3 q4
      refine ⟨fun pins s σ H v u Q I r ⟨ρ, F, pn, p, d, ρ', dr, fk, rv, ha, q⟩ => z.run pins s σ H v u Q I r ?_⟩
      cases d with
      | tup ds =>
        obtain ⟨a, ws, rfl, e1, r1⟩ := rv.tup_inv
        have hl : ∀ {is : List Nat} {ds : List D} {ρ : DEnv}, setAll ρ is ds = some ρ' → is.length = ds.length := by
          intro is
          induction is with
          | nil => intro ds ρ h; cases ds <;> simp [setAll] at h ⊢
          | cons i is ih =>
            intro ds ρ h
            cases ds with
            | nil => simp [setAll] at h
            | cons d ds => simp only [setAll] at h; simp [ih h]
        exact ⟨a, ws, rfl, .inl (.inl (fk.sub _ _ e1)), by rw [r1.length, ← hl ha, q2], ρ, F, pn, p, ds, ρ', dr, fk, r1, ha, q⟩
      | _ => cases ha
    · cases h
end
end Mi

set_option Elab.async false
set_option linter.all false
set_option maxRecDepth 100000
namespace Mi
open PySem PySem.Spec PyProof.Rows L2
section
variable {G : Ad} {E : XK} {pn : PN} {F H : Hp} {p : PenS}
theorem Out.ret {α β : Type} {rep : Hp → β → α → Prop} {a : α} {Q : β → Hp → Prop} (h : Out G rep E pn F H (.ok a p) Q) (fk : FOk F H pn p) : ∀ b, rep F b a → Q b H := fun b r => h b F H (Step.refl fk) r
theorem Out.ofMap {α β α' β' : Type} {rep : Hp → β → α → Prop} {rep' : Hp → β' → α' → Prop} {o : Option α} {f : α → α'} {g : β → β'} {Q : β' → Hp → Prop}
    (h : Out G rep' E pn F H (R.of (o.map f) p) Q) (hr : ∀ F b a, rep F b a → rep' F (g b) (f a)) : Out G rep E pn F H (R.of o p) (fun b H => Q (g b) H) := by
  cases o with
  | none => exact h.elim
  | some a => exact fun b F' H' s r => h (g b) F' H' s (hr _ _ _ r)
end
/-- a bool as a value -/
abbrev rBV (G : Ad) (pn : PN) : Hp → V → Bool → Prop := fun F v b => Rep G pn F v (.bl b)
abbrev rVb : Hp → V → Bool → Prop := fun F v b => v = .bl b

theorem zip_lookup {G : Ad} {pn : PN} {F : Hp} : ∀ {at_ : List Str} {vs : List V} {ds : List D} {f : Str} {d : D}, Reps G pn F vs ds → (at_.zip ds).lookup f = some d → ∃ v, (at_.zip vs).lookup f = some v ∧ Rep G pn F v d ∧ f ∈ at_
  | [], _, _, _, _, _, h => by simp at h
  | _ :: _, _, _, _, _, .nil, h => by simp at h
  | a :: at_, _, _, f, d, .cons (v := v) (vs := vs) r t, h => by
    simp only [List.zip_cons_cons, List.lookup_cons] at h ⊢
    cases q : f == a with
    | true =>
      rw [q] at h
      cases h
      exact ⟨v, rfl, r, by simp [beq_iff_eq.mp q]⟩
    | false =>
      rw [q] at h
      obtain ⟨w, h1, h2, h3⟩ := zip_lookup t h
      exact ⟨w, h1, h2, by simp [h3]⟩
theorem valV_cons {κ : Type} [DecidableEq κ] (k k' : κ) (v : V) (r : List (κ × V)) : valV ((k, v) :: r) k' = if k = k' then some v else valV r k' := by
  unfold valV
  rw [List.find?_cons]
  by_cases h : k = k'
  · rw [if_pos h]; simp [h]
  · rw [if_neg h]; simp [h]
theorem penGet_rep {G : Ad} {pn : PN} {F : Hp} {ca : Addr} {st : Pen} {f : Str} {d : D} (hca : F ca = some (.lst (st.cells.map V.int))) (h : penGet f st = some d) : ∃ v, valV (penK ca st) (Sum.inr f) = some v ∧ Rep G pn F v d := by
  unfold penGet at h
  unfold penK
  simp only [valV_cons, Sum.inr.injEq]
  split at h
  · rename_i e; cases h
    exact ⟨.ref ca, by rw [if_pos e.symm], .lst hca (reps_ints _)⟩
  split at h
  · rename_i n1 e; cases h
    exact ⟨.int st.at_, by rw [if_neg (Ne.symm n1), if_pos e.symm], .int _⟩
  split at h
  · rename_i n1 n2 e; cases h
    exact ⟨.int st.digits, by rw [if_neg (Ne.symm n1), if_neg (Ne.symm n2), if_pos e.symm], .int _⟩
  split at h
  · rename_i n1 n2 n3 e; cases h
    exact ⟨.int st.count, by rw [if_neg (Ne.symm n1), if_neg (Ne.symm n2), if_neg (Ne.symm n3), if_pos e.symm], .int _⟩
  split at h
  · rename_i n1 n2 n3 n4 e; cases h
    exact ⟨.int st.fold, by rw [if_neg (Ne.symm n1), if_neg (Ne.symm n2), if_neg (Ne.symm n3), if_neg (Ne.symm n4), if_pos e.symm], .int _⟩
  · cases h

section
variable {T : Tab} {S : Sem0} {G : Ad} {lv : Nat → Nat} {n nc : Nat → Bool} {N : List Str}
variable {sc sc0 : Scope} {E : XK} {X : Cx}
abbrev C0 (T : Tab) (S : Sem0) (G : Ad) (lv : Nat → Nat) (n nc : Nat → Bool) (N : List Str) (sc sc0 : Scope) (E : XK) (X : Cx) : Prop := Ctx T S G lv n nc N sc sc0 E X

def lenEs : IEs → Nat
  | .nil => 0
  | .cons _ r => lenEs r + 1
theorem evEs_len : ∀ {xs : IEs} {ρ : DEnv} {p p' : PenS} {ds : List D}, evEs S xs ρ p = .ok ds p' → ds.length = lenEs xs
  | .nil, _, _, _, _, h => by cases h; rfl
  | .cons a r, ρ, p, p', ds, h => by
    simp only [evEs] at h
    cases e1 : evE S a ρ p with
    | ok d p1 =>
      rw [e1] at h
      simp only [R.bind_ok] at h
      cases e2 : evEs S r ρ p1 with
      | ok ds' p2 =>
        rw [e2] at h
        simp only [R.bind_ok] at h
        cases h
        simp [lenEs, evEs_len e2]
      | err _ _ _ => rw [e2] at h; cases h
      | stuck => rw [e2] at h; cases h
    | err _ _ _ => rw [e1] at h; cases h
    | stuck => rw [e1] at h; cases h
theorem mEs_len : ∀ {xs : IEs} {es : List Expr}, mEs T n nc N sc xs es = true → lenEs xs = es.length
  | .nil, [], _ => rfl
  | .nil, _ :: _, h => by cases h
  | .cons _ _, [], h => by cases h
  | .cons a r, e :: es, h => by
    simp only [mEs, Bool.and_eq_true] at h
    simp [lenEs, mEs_len h.2]
theorem mEs_nst : ∀ {xs : IEs} {es : List Expr}, mEs T n nc N sc xs es = true → ∀ e ∈ es, nst e = true
  | .nil, [], _ => fun e h => by simp at h
  | .nil, _ :: _, h => by cases h
  | .cons _ _, [], h => by cases h
  | .cons a r, e :: es, h => by
    simp only [mEs, Bool.and_eq_true] at h
    intro e' he
    rcases List.mem_cons.mp he with rfl | he
    · exact h.1.1
    · exact mEs_nst h.2 e' he

theorem Ctx.dr (C : Ctx T S G lv n nc N sc sc0 E X) : True := trivial
theorem Ctx.hu1 (C : Ctx T S G lv n nc N sc sc0 E X) : X.A.units + 1 < cLine := Nat.lt_of_le_of_lt (Nat.add_le_add_left (by decide : 1 ≤ 64) _) C.units

/-! ### small pieces -/
theorem s_call (C : Ctx T S G lv n nc N sc sc0 E X) {k : Nat} {xs : IEs} {x : Str} {es : List Expr} {p1 p2 : Pos} (hg : gloB sc x = true) (ho : okN x = true) (hk : n k = true) (hf : T.fns[k]? = some (x, es.length))
    (hm : mEs T n nc N sc xs es = true) (ha : PA X es (tEs G E (evEs S xs))) : PE X (.Call (.Name x p1) es [] p2) (tE G E (evE S (.call k xs))) := by
  obtain ⟨fd, ps, F, hmk, hb⟩ := C.fns k x es.length hk hf
  obtain ⟨hmg, hkp⟩ := hmk (okN3 ho)
  cases es with
  | nil =>
    refine peI (pe_call0 F (C.room k hk) (glo_of C.hsc hg) hmg hkp hb .nil C.pass (okN1 ho)) ?_
    rintro σ H Q ⟨ρ, F0, pn, p, dr, fk, o⟩
    cases xs with
    | nil => exact ⟨rfl, F0, pn, p, [], fk, .nil, o⟩
    | cons _ _ => cases hm
  | cons e es =>
    have hn := mEs_nst hm
    refine peI (pe_call F (C.room k hk) (glo_of C.hsc hg) hmg hkp hb .nil C.pass ha (okN1 ho) (star_cons (hn e (by simp)) _) (star_plain (fun e he => hn e (by simp [he])) _ _)) ?_
    rintro σ H Q ⟨ρ, F0, pn, p, dr, fk, o⟩
    refine ⟨ρ, F0, pn, p, dr, fk, (o.bind (rep := rDs G pn)).imp ?_⟩
    rintro vs H1 ⟨F1, p1, ds, e1, s1, r1, o1⟩
    rw [List.append_nil]
    exact ⟨by rw [r1.length, evEs_len e1, mEs_len hm], F1, pn, p1, ds, s1.ok, r1, o1⟩
theorem boot_bf (f : BF) : bootBuiltins (bfName f) = some (bfVal f) := by
  cases f <;> decide +kernel
theorem bf_free (f : BF) : bfName f ∈ bltN := by cases f <;> decide +kernel
theorem bf_main (f : BF) : bfName f ≠ "__name__" := by cases f <;> decide +kernel
theorem s_blt (C : Ctx T S G lv n nc N sc sc0 E X) {f : BF} {xs : IEs} {x : Str} {e0 : Expr} {es : List Expr} {p1 p2 : Pos} (hg : gloB sc x = true) (ho : okN x = true) (hx : x = bfName f)
    (hm : mEs T n nc N sc xs (e0 :: es) = true) (ha : PA X (e0 :: es) (tEs G E (evEs S xs))) : PE X (.Call (.Name x p1) (e0 :: es) [] p2) (tE G E (evE S (.blt f xs))) := by
  subst hx
  have hn := mEs_nst hm
  have h1 := star_cons (hn e0 (by simp)) X.env (es := es)
  have h2 := star_plain (es := es) (fun e he => hn e (by simp [he])) p2 X.env
  have hgl := glo_of C.hsc hg
  have hfr := C.free _ (bf_free f)
  have hb := boot_bf f
  have hc := callR_bf (X := X) (G := G) (E := E) C.calm f
  have fin : ∀ (r : List V → Hp → VK → Prop), r = rCall G E (bfn f) → PE X (.Call (.Name (bfName f) p1) (e0 :: es) [] p2) (tCB r (tEs G E (evEs S xs))) → PE X (.Call (.Name (bfName f) p1) (e0 :: es) [] p2) (tE G E (evE S (.blt f xs))) := by
    rintro r rfl pe
    refine peI pe ?_
    rintro σ H Q ⟨ρ, F0, pn, p, dr, fk, o⟩
    refine ⟨ρ, F0, pn, p, dr, fk, (o.bind (rep := rDs G pn)).imp ?_⟩
    rintro vs H1 ⟨F1, p1, ds, e1, s1, r1, o1⟩
    exact ⟨F1, pn, p1, ds, s1.ok, r1, o1⟩
  refine fin _ rfl ?_
  cases f with
  | tuple => exact pe_callTy hc hgl hfr hb ha (bf_main _) (okN1 ho) h1 h2
  | list => exact pe_callTy hc hgl hfr hb ha (bf_main _) (okN1 ho) h1 h2
  | int => exact pe_callTy hc hgl hfr hb ha (bf_main _) (okN1 ho) h1 h2
  | len => exact pe_callB hc hgl hfr hb ha (bf_main _) (okN1 ho) h1 h2
  | abs => exact pe_callB hc hgl hfr hb ha (bf_main _) (okN1 ho) h1 h2
  | max => exact pe_callB hc hgl hfr hb ha (bf_main _) (okN1 ho) h1 h2
  | min => exact pe_callB hc hgl hfr hb ha (bf_main _) (okN1 ho) h1 h2
  | sum => exact pe_callB hc hgl hfr hb ha (bf_main _) (okN1 ho) h1 h2
  | all => exact pe_callB hc hgl hfr hb ha (bf_main _) (okN1 ho) h1 h2
  | any => exact pe_callB hc hgl hfr hb ha (bf_main _) (okN1 ho) h1 h2
  | sorted => exact pe_callB hc hgl hfr hb ha (bf_main _) (okN1 ho) h1 h2

/-! ### isinstance -/
def tyV0 (G : Ad) : Ty → V
  | .b m => .ty m
  | .c k => .ref (G.cls k)
def tyVal (G : Ad) : Ty → Value
  | .b m => .type m
  | .c k => .ref (G.cls k)
theorem clsV_ty (G : Ad) (t : Ty) : ClsV (tyV0 G t) (tyVal G t) := by cases t <;> constructor
theorem boot_ty : ∀ m ∈ tyUse, bootBuiltins (Str.ofString m) = some (.type m) ∧ Str.ofString m ∈ bltN ∧ Str.ofString m ≠ "__name__" := by decide +kernel
/-- a type that the text may name -/
def TyOk (T : Tab) : Ty → Prop
  | .b m => m ∈ tyUse
  | .c k => k < T.clss.length
theorem s_ty (C : Ctx T S G lv n nc N sc sc0 E X) {t : Ty} {e : Expr} (h : mTy T sc t e = true) : PE X e (tC (tyV0 G t)) ∧ TyOk T t := by
  cases t with
  | b m =>
    simp only [mTy] at h
    split at h
    · simp only [Bool.and_eq_true, decide_eq_true_eq] at h
      obtain ⟨⟨⟨h1, h2⟩, rfl⟩, h4⟩ := h
      obtain ⟨b1, b2, b3⟩ := boot_ty m h4
      exact ⟨pe_bltn (glo_of C.hsc h1) (C.free _ b2) b1 rfl b3 (okN1 h2), h4⟩
    · cases h
  | c k =>
    simp only [mTy] at h
    split at h
    · simp only [Bool.and_eq_true, decide_eq_true_eq] at h
      obtain ⟨⟨h1, h2⟩, h4⟩ := h
      cases q : T.clss[k]? with
      | none => rw [q] at h4; cases h4
      | some z =>
        obtain ⟨x, m, at_⟩ := z
        rw [q] at h4
        cases h4
        exact ⟨pe_glob (glo_of C.hsc h1) (C.clsM k _ _ _ q) rfl (okN1 h2), (List.getElem?_eq_some_iff.mp q).1⟩
    · cases h
theorem s_tys (C : Ctx T S G lv n nc N sc sc0 E X) : ∀ {ts : List Ty} {es : List Expr}, mTys T sc ts es = true → PA X es (fun _ H Q => Q (ts.map (tyV0 G)) H) ∧ ∀ t ∈ ts, TyOk T t
  | [], [], _ => ⟨pa_nil, fun t h => by simp at h⟩
  | [], _ :: _, h => by cases h
  | _ :: _, [], h => by cases h
  | t :: ts, e :: es, h => by
    simp only [mTys, Bool.and_eq_true] at h
    obtain ⟨q1, q2⟩ := s_ty C h.1.2
    obtain ⟨q3, q4⟩ := s_tys C h.2
    exact ⟨paI (pa_cons q1 q3 (star_cons h.1.1 _)) fun σ H Q q => q, fun t' ht => by
      rcases List.mem_cons.mp ht with rfl | ht
      · exact q2
      · exact q4 t' ht⟩
theorem tyX_of (C : Ctx T S G lv n nc N sc sc0 E X) {pn : PN} {F H : Hp} {v : V} {d : D} {u : Ty} (s : Same F H) (r : Rep G pn F v d) (h : tyD d = some u) :
    TyX X.K H v (tyVal G u) ∧ (∀ m, u = .b m → m ∈ "NoneType" :: tyUse) ∧ (∀ c, u = .c c → c < G.nc) := by
  cases r with
  | non => cases h; exact ⟨.base .non, fun m e => by cases e; decide, fun c e => by cases e⟩
  | bl b => cases h; exact ⟨.base (.bl b), fun m e => by cases e; decide, fun c e => by cases e⟩
  | int i => cases h; exact ⟨.base (.int i), fun m e => by cases e; decide, fun c e => by cases e⟩
  | str x => cases h; exact ⟨.base (.str x), fun m e => by cases e; decide, fun c e => by cases e⟩
  | tup e r => cases h; exact ⟨.base (.tup (s _ _ e)), fun m e => by cases e; decide, fun c e => by cases e⟩
  | lst e r => cases h; exact ⟨.base (.lst (s _ _ e)), fun m e => by cases e; decide, fun c e => by cases e⟩
  | obj hc e l r =>
    cases h
    have z := C.clsF
    have q := TyX.base (.ins (s _ _ e) (z.cl _ hc) (z.ha _ hc) (z.hn (Nat.zero_lt_of_lt hc)) (z.ht (Nat.zero_lt_of_lt hc)) (z.hm _ hc))
    refine ⟨q, ⟨fun m e => ?_, fun c e => ?_⟩⟩
    · cases e
    · cases e; exact hc
  | fn k => cases h
  | pen e => cases h
theorem kit_of' (C : Ctx T S G lv n nc N sc sc0 E X) {u t : Ty} {b : Bool} (h1 : ∀ m, u = .b m → m ∈ "NoneType" :: tyUse) (h2 : ∀ c, u = .c c → c < G.nc) (h3 : TyOk T t) (h : kit u t = some b) :
    PySem.W.kitOne X.K (tyVal G u) (tyVal G t) = some b := by
  have z := C.clsF
  cases u with
  | b m =>
    cases t with
    | b m' => exact kit_ty h
    | c k => cases h; exact z.kbc k (by rw [C.hnc]; exact h3) m (h1 m rfl)
  | c c =>
    cases t with
    | b m' => cases h; exact z.kcb c (h2 c rfl) m' h3
    | c k => cases h; exact z.kcc c k (h2 c rfl) (by rw [C.hnc]; exact h3)
theorem kits_of (C : Ctx T S G lv n nc N sc sc0 E X) {u : Ty} (h1 : ∀ m, u = .b m → m ∈ "NoneType" :: tyUse) (h2 : ∀ c, u = .c c → c < G.nc) : ∀ {ts : List Ty} {b : Bool}, (∀ t ∈ ts, TyOk T t) → kits u ts = some b →
    PySem.W.kitAny X.K (tyVal G u) (ts.map (tyVal G)) = some b
  | [], b, _, h => by cases h; exact kitAny_nil
  | t :: ts, b, h3, h => by
    simp only [kits] at h
    cases q : kit u t with
    | none => rw [q] at h; cases h
    | some b' =>
      rw [q] at h
      have k1 := kit_of' C h1 h2 (h3 t (by simp)) q
      cases b' with
      | true => cases h; exact kitAny_cons k1 (fun z => by cases z) (fun _ => rfl)
      | false => exact kitAny_cons k1 (fun _ => kits_of C h1 h2 (fun t ht => h3 t (by simp [ht])) h) (fun z => by cases z)
theorem paired_cls (G : Ad) : ∀ ts : List Ty, Paired ClsV (ts.map (tyV0 G)) (ts.map (tyVal G))
  | [] => .nil
  | t :: ts => .cons (clsV_ty G t) (paired_cls G ts)
theorem s_isi (C : Ctx T S G lv n nc N sc sc0 E X) {a : IE} {t : Ty} {y z : Expr} {x : Str} {p1 p2 : Pos} (hg : gloB sc x = true) (ho : okN x = true) (hx : x = ("isinstance" : Str)) (hy : nst y = true) (hz : nst z = true)
    (ha : PE X y (tE G E (evE S a))) (ht : mTy T sc t z = true) : PE X (.Call (.Name x p1) [y, z] [] p2) (tE G E (evE S (.isi a t))) := by
  subst hx
  obtain ⟨q1, q2⟩ := s_ty C ht
  refine peI (pe_callB call_isi (glo_of C.hsc hg) (C.free _ (by decide +kernel)) (by decide +kernel) (pa_cons ha (pa_cons q1 pa_nil (star_cons hz _)) (star_cons hy _)) (by decide +kernel) (okN1 ho) (star_cons hy _)
    (star_plain (fun e he => by rw [List.mem_singleton.mp he]; exact hz) _ _)) ?_
  rintro σ H Q ⟨ρ, F0, pn, p, dr, fk, o⟩
  refine ⟨ρ, F0, pn, p, dr, fk, (o.bind (rep := rD G pn)).imp ?_⟩
  rintro v H1 ⟨F1, p1, d, e1, s1, r1, o1⟩
  obtain ⟨w, ew, o2⟩ := o1.ofH
  simp only [Option.bind_eq_some_iff, Option.map_eq_some_iff] at ew
  obtain ⟨u, hu, b, hb, rfl⟩ := ew
  obtain ⟨t1, t2, t3⟩ := tyX_of C s1.ok.sub r1 hu
  exact ⟨v, tyV0 G t, _, _, b, rfl, clsV_ty G t, t1, kit_of' C t2 t3 q2 hb, o2.here s1.ok (.bl b)⟩
theorem s_isis (C : Ctx T S G lv n nc N sc sc0 E X) {a : IE} {ts : List Ty} {y : Expr} {zs : List Expr} {x : Str} {kk : Nat} {p1 p2 p3 : Pos} (hg : gloB sc x = true) (ho : okN x = true) (hx : x = ("isinstance" : Str)) (hy : nst y = true)
    (ha : PE X y (tE G E (evE S a))) (ht : mTys T sc ts zs = true) (hl : ts.length ≤ 10) : PE X (.Call (.Name x p1) [y, .Tuple zs kk p3] [] p2) (tE G E (evE S (.isis a ts))) := by
  subst hx
  obtain ⟨q1, q2⟩ := s_tys C ht
  have hz : ts.length ≤ sizeLine := Nat.le_trans hl (by rw [sizeLine_eq]; decide)
  refine peI (pe_callB call_isiT (glo_of C.hsc hg) (C.free _ (by decide +kernel)) (by decide +kernel) (pa_cons ha (pa_cons (pe_tup q1) pa_nil) (star_cons hy _)) (by decide +kernel) (okN1 ho) (star_cons hy _) rfl) ?_
  rintro σ H Q ⟨ρ, F0, pn, p, dr, fk, o⟩
  refine ⟨ρ, F0, pn, p, dr, fk, (o.bind (rep := rD G pn)).imp ?_⟩
  rintro v H1 ⟨F1, p1, d, e1, s1, r1, o1⟩
  obtain ⟨w, ew, o2⟩ := o1.ofH
  simp only [Option.bind_eq_some_iff, Option.map_eq_some_iff] at ew
  obtain ⟨u, hu, b, hb, rfl⟩ := ew
  refine ⟨by rw [List.length_map]; exact hz, fun q hq => ?_⟩
  have st : Step pn p1 F1 H1 F1 (upd H1 q (.tup (ts.map (tyV0 G)))) := Step.side s1.ok hq
  obtain ⟨t1, t2, t3⟩ := tyX_of C st.ok.sub r1 hu
  exact ⟨v, q, ts.map (tyV0 G), _, ts.map (tyVal G), b, rfl, upd_same, paired_cls G ts, t1, kits_of C t2 t3 q2 hb, o2 (.bl b) F1 _ st (.bl b)⟩
end
end Mi

set_option Elab.async false
set_option linter.all false
set_option maxRecDepth 100000
namespace Mi
open PySem PySem.Spec PyProof.Rows L2
section
variable {pn : PN} {p p' : PenS} {F H F' H' : Hp} {a : Addr} {o u : HO}
/-- a cell of one's own (not leant on) is written -/
theorem FOk.other (h : FOk F H pn p) (hF : F a = none) (hp : ¬ IsPen pn a) : FOk F (upd H a o) pn p := by
  refine ⟨fun b u e => ?_, ?_⟩
  · have : b ≠ a := fun z => by subst z; rw [hF] at e; cases e
    rw [upd_ne this]; exact h.sub b u e
  · have z := h.pen
    cases pn with
    | none => cases p with | none => trivial | some _ => exact z.elim
    | some q =>
      obtain ⟨pa, ca⟩ := q
      cases p with
      | none => exact z.elim
      | some st =>
        obtain ⟨z1, z2, z3⟩ := z
        have hpa : pa ≠ a := fun e => hp ⟨ca, by rw [e]⟩
        exact ⟨z1, by rw [upd_ne hpa]; exact z2, z3⟩
theorem FOk.fresh (h : FOk F H pn p) (hn : H a = none) : F a = none ∧ ¬ IsPen pn a := ⟨h.sub.free hn, fun q => (h.noPen a q).2 hn⟩
theorem Step.ownW (s : Step pn p' F H F' H') (hn : H a = none) (hF : F' a = none) (hp : ¬ IsPen pn a) : Step pn p' F H F' (upd H' a o) where
  keep := fun b u n e => by rw [upd_ne (ne_of_none e hn)]; exact s.keep b u n e
  there := fun b e => by
    by_cases hb : b = a
    · subst hb; exact hn
    · rw [upd_ne hb] at e; exact s.there b e
  same := s.same
  new := s.new
  ok := s.ok.other hF hp
/-- a cell of one's own is leant on from now on -/
theorem Step.give (s : Step pn p' F H F' H') (hn : H a = none) (hF : F' a = none) (hH : H' a = some o) (hp : ¬ IsPen pn a) : Step pn p' F H (upd F' a o) H' where
  keep := s.keep
  there := s.there
  same := s.same.trans (same_upd hF)
  new := fun b e => by
    by_cases hb : b = a
    · subst hb; exact .inr hn
    · rw [upd_ne hb] at e; exact s.new b e
  ok := Step.more s.ok hF hH hp
end
theorem calm_ok {α : Type} {r : R α} {a : α} {p : PenS} (h : r.calm = .ok a p) : r = .ok a p := by
  cases r <;> simp [R.calm] at h ⊢
  exact h
theorem bind_ok_inv {α β : Type} {r : R α} {f : α → PenS → R β} {b : β} {p : PenS} (h : r.bind f = .ok b p) : ∃ a p1, r = .ok a p1 ∧ f a p1 = .ok b p := by
  cases r with
  | ok a p1 => exact ⟨a, p1, rfl, h⟩
  | err c fs p1 => cases h
  | stuck => cases h
theorem of_ok_inv {α : Type} {o : Option α} {p p' : PenS} {a : α} (h : R.of o p = .ok a p') : o = some a ∧ p' = p := by
  cases o with
  | none => cases h
  | some x => cases h; exact ⟨rfl, rfl⟩
theorem compLoop_nerr {f : D → PenS → R (Option D)} : ∀ {ds : List D} {p : PenS} {c : Nat} {fs : List D} {p' : PenS}, compLoop (fun d p => (f d p).calm) ds p ≠ .err c fs p'
  | [], _, _, _, _, h => by cases h
  | d :: ds, p, c, fs, p', h => by
    simp only [compLoop] at h
    cases e : (f d p).calm with
    | err c' fs' p1 => cases e2 : f d p <;> rw [e2] at e <;> cases e
    | stuck => rw [e] at h; cases h
    | ok o p1 =>
      rw [e] at h
      simp only [R.bind_ok] at h
      cases e3 : compLoop (fun d p => (f d p).calm) ds p1 with
      | err c' fs' p2 => exact compLoop_nerr e3
      | stuck => rw [e3] at h; cases h
      | ok r p2 => rw [e3] at h; cases h
/-- a fresh list -/
def OutO (G : Ad) (E : XK) (pn : PN) (F H : Hp) (r : R D) (Q : VK) : Prop := match r with
  | .ok d p' => ∀ xs, d = .lst xs → ∀ a vs F' H', Step pn p' F H F' H' → H a = none → F' a = none → H' a = some (.lst vs) → Reps G pn F' vs xs → Q (.ref a) H'
  | .err c fs p' => ∀ F' H' dx, Step pn p' F H F' H' → XAt G pn F' H' c fs dx → E (.ref (G.cls c)) (some dx) H'
  | .stuck => False
theorem Out.toO {G : Ad} {E : XK} {pn : PN} {F H : Hp} {p : PenS} {r : R D} {Q : VK} (fk : FOk F H pn p) (h : Out G (rD G pn) E pn F H r Q) : OutO G E pn F H r Q := by
  cases r with
  | stuck => exact h
  | err c fs p' => exact h
  | ok d p' =>
    rintro xs rfl a vs F' H' st hn hF hH rs
    exact h (.ref a) (upd F' a (.lst vs)) H' (st.give hn hF hH (fk.fresh hn).2) (.lst upd_same (rs.mono (same_upd hF)))
def tF (G : Ad) (E : XK) (ev : DEnv → PenS → R D) : TE := fun σ H Q => ∃ ρ F pn p, DR G pn σ ρ F ∧ FOk F H pn p ∧ OutO G E pn F H (ev ρ p) Q
theorem tE_tF {G : Ad} {E : XK} {ev : DEnv → PenS → R D} {σ : L2.St} {H : Hp} {Q : VK} (h : tE G E ev σ H Q) : tF G E ev σ H Q := by
  obtain ⟨ρ, F, pn, p, dr, fk, o⟩ := h
  exact ⟨ρ, F, pn, p, dr, fk, o.toO fk⟩
section
variable {T : Tab} {S : Sem0} {G : Ad} {lv : Nat → Nat} {n nc : Nat → Bool} {N : List Str}
variable {sc sc0 : Scope} {E : XK} {X : Cx}
theorem Ctx.blk (C : Ctx T S G lv n nc N sc sc0 E X) (s : Shared) (H : Hp) (scope : Scope) (Cc : Addr) (cl : List (Str × Addr)) (fp : List Addr) :
    Ctx T S G lv n nc N (relS scope sc) scope E0 (X.blk s H scope (compEnvC scope cl Cc X.env) fp) where
  hN := C.hN
  nd := C.nd
  hsc := by
    show relS scope X.env.scope = _
    rw [C.hsc]
  loc := fun x h => by
    have hs : (compEnvC scope cl Cc X.env).scope = relS scope X.env.scope := rfl
    unfold locB at h
    cases q : scope.names.lookup x with
    | none => rw [q] at h; cases h
    | some k =>
      rw [q] at h
      cases k with
      | «local» =>
        have z : (relS scope X.env.scope).names.lookup x = some .local := lookup_relS_keep (by decide) q
        exact ⟨.inl z, .inr z⟩
      | cell =>
        have z : (relS scope X.env.scope).names.lookup x = some .cell := lookup_relS_keep (by decide) q
        exact ⟨.inr z, .inl (by show (scope.names.lookup x == some NameKind.cell) = true; rw [q]; rfl)⟩
      | _ => cases h
  calm := C.calm
  units := C.units
  room := C.room
  con := C.con
  fns := C.fns
  free := C.free
  hnc := C.hnc
  att := C.att
  clsF := C.clsF
  clsM := C.clsM
  mks := C.mks
  eqs := C.eqs
  pass := passL

theorem s_comp (C : Ctx T S G lv n nc N sc sc0 E X) {elt : IE} {tg : Tg} {it : II} {ifs : IEs} {own : List (Str × Nat)} {x t i : Expr} {fs : List Expr} {scope : Scope} {pos : Pos}
    (hb : blkC N sc scope own = true) (hni : nset i = true) (htg : mTg N scope tg t = true) (hin : tgIn (own.map (·.2)) tg = true)
    (hi : PI X t i (tI G E (evI S it)))
    (hf : ∀ (s : Shared) (H : Hp) (C : Addr) (cl : List (Str × Addr)) (fp : List Addr), PTs (X.blk s H scope (compEnvC scope cl C X.env) fp) fs (tT G E0 (evAndT S ifs)))
    (he : ∀ (s : Shared) (H : Hp) (C : Addr) (cl : List (Str × Addr)) (fp : List Addr), PE (X.blk s H scope (compEnvC scope cl C X.env) fp) x (tE G E0 (evE S elt))) :
    PE X (.ListComp x [⟨t, i, fs, 0⟩] scope pos) (tF G E (evE S (.comp elt tg it ifs own))) ∧
    ∀ σ H Q, tF G E (evE S (.comp elt tg it ifs own)) σ H Q → tLc (tI G E (evI S it)) (gT G (own.map (·.2)) tg) (tT G E0 (evAndT S ifs)) (tE G E0 (evE S elt)) (own.map (·.2)) σ H Q := by
  have key : ∀ σ H Q, tF G E (evE S (.comp elt tg it ifs own)) σ H Q → tLc (tI G E (evI S it)) (gT G (own.map (·.2)) tg) (tT G E0 (evAndT S ifs)) (tE G E0 (evE S elt)) (own.map (·.2)) σ H Q := by
    rintro σ H Q ⟨ρ, F, pn, p, dr, fk, o⟩
    generalize hvs : own.map (·.2) = vs at *
    refine ⟨ρ, F, pn, p, dr, fk, ?_⟩
    simp only [evE, hvs] at o
    cases e1 : evI S it ρ p with
    | stuck => rw [e1] at o; exact o
    | err c fs' p' => rw [e1] at o; exact o
    | ok ds p1 =>
    rw [e1] at o
    simp only [R.bind_ok] at o
    intro J F1 H1 s1 jk Dd hD
    have o1 := o
    by_cases hlen : ds.length ≤ sizeLine
    · rw [if_pos hlen] at o1
      generalize hf0 : (fun d p => ((R.of (asgTg (wipeD ρ vs) tg d) p).bind fun ρ' p => (evAndT S ifs ρ' p).bind fun k p => if k = true then (evE S elt ρ' p).bind fun x p => R.ok (some x) p else R.ok none p)) = f0 at o1
      have o1' : OutO G E pn F H ((compLoop (fun d p => (f0 d p).calm) ds p1).bind fun xs p => R.ok (D.lst xs) p) Q := by
        rw [← hf0]; exact o1
      clear o1
      cases ec : compLoop (fun d p => (f0 d p).calm) ds p1 with
      | stuck => rw [ec] at o1'; exact o1'.elim
      | err c fs' p' => exact absurd ec compLoop_nerr
      | ok xs pe =>
        rw [ec] at o1'
        simp only [R.bind_ok] at o1'
        obtain ⟨hF1, hnp⟩ := s1.ok.fresh hD
        have drw : DR G pn (wipe σ vs) (wipeD ρ vs) F1 := (dr.mono s1.same).wipe vs
        refine ⟨fun i m H => m = ds.length - i ∧ i ≤ ds.length ∧ ∃ F' p' acc accd rest, F' Dd = none ∧ H Dd = some (.lst acc) ∧ Reps G pn F' acc accd ∧ Step pn p' F1 H1 F' H ∧ compLoop (fun d p => (f0 d p).calm) (ds.drop i) p' = .ok rest pe ∧ accd ++ rest = xs ∧ acc.length ≤ i,
          ⟨ds.length, rfl, Nat.zero_le _, F1, p1, [], [], xs, hF1, upd_same, .nil, Step.side s1.ok hD, ec, rfl, Nat.le_refl _⟩, ?_⟩
        rintro i m H2 ⟨rfl, hi2, F2, p2, acc, accd, rest, hF2, hH2, ra, s2, el, ex, hal⟩
        by_cases hlt : i < ds.length
        · refine .inr ⟨jk.go i H2 (s2.same.trans s2.ok.sub) hlt, fun H' => ∃ m', m' < ds.length - i ∧ (m' = ds.length - (i + 1) ∧ i + 1 ≤ ds.length ∧ ∃ F' p' acc accd rest, F' Dd = none ∧ H' Dd = some (.lst acc) ∧ Reps G pn F' acc accd ∧ Step pn p' F1 H1 F' H' ∧ compLoop (fun d p => (f0 d p).calm) (ds.drop (i + 1)) p' = .ok rest pe ∧ accd ++ rest = xs ∧ acc.length ≤ i + 1), fun H' h => h, ?_⟩
          intro xv H3 hy
          obtain ⟨d, F3, hd, s3, rx⟩ := jk.yld i H2 xv H3 F2 p2 s2.same s2.ok hy hlt
          have hdr : ds.drop i = d :: ds.drop (i + 1) := by
            rw [List.getElem?_eq_getElem hlt, Option.some.injEq] at hd
            rw [← hd]
            exact (List.getElem_cons_drop (h := hlt)).symm
          rw [hdr] at el
          simp only [compLoop] at el
          obtain ⟨od, p3, ef9, el1⟩ := bind_ok_inv el
          obtain ⟨rest', p4, el2, er⟩ := bind_ok_inv el1
          cases er
          clear el el1
          have ef := calm_ok ef9
          clear ef9
          rw [← hf0] at ef
          obtain ⟨ρ', p5, ea0, ef1⟩ := bind_ok_inv ef
          obtain ⟨ea, e55⟩ := of_ok_inv ea0
          clear ef ea0
          subst e55
          obtain ⟨k, p6, et, ef⟩ := bind_ok_inv ef1
          clear ef1
          refine ⟨wipeD ρ vs, F3, pn, p5, d, ρ', drw.mono (s2.same.trans s3.same), s3.ok, rx, ea, fun σ' dr' hw => ⟨hw.trans (wipe_wipe σ vs), ρ', F3, pn, p5, dr', s3.ok, ?_⟩⟩
          rw [et]
          intro b F4 H4 s4 hb4
          have hb4 : b = k := hb4
          subst hb4
          cases b with
          | false =>
            rw [if_neg Bool.false_ne_true] at ef
            cases ef
            rw [if_neg Bool.false_ne_true]
            have s34 := s3.trans s4
            have hF4 : F4 Dd = none := by
              cases q : F4 Dd with
              | none => rfl
              | some z =>
                rcases s34.new Dd (by rw [q]; simp) with w | w
                · exact absurd hF2 w
                · rw [hH2] at w; cases w
            exact ⟨_, by omega, rfl, hlt, F4, _, acc, accd, rest', hF4, s34.keep _ _ hnp hH2, ra.mono s34.same, s2.trans s34, el2, ex, by omega⟩
          | true =>
            rw [if_pos rfl] at ef
            rw [if_pos rfl]
            obtain ⟨y, p7, ee, ef⟩ := bind_ok_inv ef
            cases ef
            refine ⟨ρ', F4, pn, p6, dr'.mono s4.same, s4.ok, ?_⟩
            rw [ee]
            intro yv F5 H5 s5 ry
            have s35 := (s3.trans s4).trans s5
            have hF5 : F5 Dd = none := by
              cases q : F5 Dd with
              | none => rfl
              | some z =>
                rcases s35.new Dd (by rw [q]; simp) with w | w
                · exact absurd hF2 w
                · rw [hH2] at w; cases w
            refine ⟨acc, s35.keep _ _ hnp hH2, by omega, _, by omega, rfl, hlt, F5, _, acc ++ [yv], accd ++ [y], rest', hF5, upd_same, (ra.mono s35.same).append (.cons ry .nil), (s2.trans s35).ownW hD hF5 hnp, el2, ?_, ?_⟩
            · rw [List.append_assoc]; exact ex
            · rw [List.length_append]; simp; omega
        · have e : i = ds.length := by omega
          subst e
          refine .inl ⟨jk.stop _ H2 (s2.same.trans s2.ok.sub) (Nat.le_refl _), ?_⟩
          rw [List.drop_length] at el
          cases el
          rw [List.append_nil] at ex
          subst ex
          exact o1' _ rfl Dd acc F2 H2 (s1.trans s2) (s1.there _ hD) hF2 hH2 ra
    · rw [if_neg hlen] at o1; exact o1.elim
  refine ⟨peI (pe_lc C.calm (by rw [C.hN]; exact C.nd) hi (own := own) (blkOk_by (by rw [C.hN, C.hsc]; exact hb)) (fun s H Cc cl fp => ?_) hf he (fun z => fold_set hni _ z)) key, key⟩
  have C' := C.blk s H scope Cc cl fp
  exact pg_tg C'.hN C'.nd C'.loc C'.calm _ htg hin
end
end Mi

set_option Elab.async false
set_option linter.all false
set_option maxRecDepth 100000
namespace Mi
open PySem PySem.Spec PyProof.Rows L2
theorem tChain_imp {G : Ad} {E : XK} {o o' : COp} {ea eb ec : DEnv → PenS → R D} {σ : L2.St} {H : Hp} {Q Q' : VK} (h : tChain (r2 G (rD G) E (fun d e => (cmpV o d e).map D.bl)) (r2 G (rD G) E (fun d e => (cmpV o' d e).map D.bl)) (tE G E ea) (tE G E eb) (tE G E ec) σ H Q)
    (q : ∀ x H', Q x H' → Q' x H') : tChain (r2 G (rD G) E (fun d e => (cmpV o d e).map D.bl)) (r2 G (rD G) E (fun d e => (cmpV o' d e).map D.bl)) (tE G E ea) (tE G E eb) (tE G E ec) σ H Q' := by
  obtain ⟨ρ, F, pn, p, dr, fk, h⟩ := h
  refine ⟨ρ, F, pn, p, dr, fk, h.imp ?_⟩
  rintro x H1 ⟨ρ1, F1, pn1, p1, dr1, fk1, h1⟩
  refine ⟨ρ1, F1, pn1, p1, dr1, fk1, h1.imp ?_⟩
  rintro y H2 ⟨F2, pn2, p2, d, e, fk2, r1, r2', h2⟩
  refine ⟨F2, pn2, p2, d, e, fk2, r1, r2', h2.imp ?_⟩
  rintro z H3 ⟨k, rfl, h3⟩
  refine ⟨k, rfl, ?_⟩
  cases k with
  | false => exact q _ _ h3
  | true =>
    obtain ⟨ρ4, F4, pn4, p4, dr4, fk4, h4⟩ := h3
    refine ⟨ρ4, F4, pn4, p4, dr4, fk4, h4.imp ?_⟩
    rintro w H5 ⟨F5, pn5, p5, d5, e5, fk5, r5, r5', h5⟩
    exact ⟨F5, pn5, p5, d5, e5, fk5, r5, r5', h5.imp q⟩
section
variable {T : Tab} {S : Sem0} {G : Ad} {lv : Nat → Nat} {n nc : Nat → Bool} {N : List Str}
variable {sc sc0 : Scope} {E : XK} {X : Cx}
theorem s_mk (C : Ctx T S G lv n nc N sc sc0 E X) {c : Nat} {xs : IEs} {x : Str} {e0 : Expr} {es : List Expr} {p1 p2 : Pos} (hg : gloB sc x = true) (ho : okN x = true) (hc : nc c = true) (hf : (T.clss[c]?).map (fun t => (t.1, t.2.1)) = some (x, es.length + 1))
    (hm : mEs T n nc N sc xs (e0 :: es) = true) (ha : PA X (e0 :: es) (tEs G E (evEs S xs))) : PE X (.Call (.Name x p1) (e0 :: es) [] p2) (tE G E (evE S (.mk c xs))) := by
  cases q : T.clss[c]? with
  | none => rw [q] at hf; cases hf
  | some z =>
    obtain ⟨x', m, at_⟩ := z
    rw [q] at hf
    simp only [Option.map_some, Option.some.injEq, Prod.mk.injEq] at hf
    obtain ⟨rfl, rfl⟩ := hf
    obtain ⟨f, fd, ps, k, F1, M, hb, hr⟩ := C.mks c _ _ _ hc q
    have hmg := C.clsM c _ _ _ q
    have hcn : c < G.nc := by rw [C.hnc]; exact (List.getElem?_eq_some_iff.mp q).1
    have hn := mEs_nst hm
    refine peI (pe_make M F1 hr (glo_of C.hsc hg) hmg hb .nil C.pass ha (okN1 ho) (star_cons (hn e0 (by simp)) _) (star_plain (fun e he => hn e (by simp [he])) _ _)) ?_
    rintro σ H Q ⟨ρ, F0, pn, p, dr, fk, o⟩
    refine ⟨ρ, F0, pn, p, dr, fk, (Out.bind (rep := rDs G pn) (by simpa only [evE] using o)).imp ?_⟩
    rintro vs H1 ⟨F1, p1, ds, e1, s1, r1, o1⟩ x dx hx hdx hne
    have st1 : Step pn p1 F1 H1 F1 (upd H1 dx (.own x)) := Step.side s1.ok hdx
    have hx1 : (upd H1 dx (.own x)) x = none := by rw [upd_ne (Ne.symm hne)]; exact hx
    have st2 : Step pn p1 F1 (upd H1 dx (.own x)) F1 (upd (upd H1 dx (.own x)) x (.ins (G.cls c) dx [])) := Step.side st1.ok hx1
    obtain ⟨hFx, hnp⟩ := s1.ok.fresh hx
    rw [List.append_nil]
    refine ⟨by simp [r1.length, evEs_len e1, mEs_len hm], x, dx, vs, rfl, upd_same, F1, pn, p1, ds, st2.ok, hFx, r1, ?_⟩
    cases ei : S.ini c ds p1 with
    | stuck => rw [ei] at o1; exact o1.elim
    | err k fs p' =>
      rw [ei] at o1
      intro F' H' dy keep there same new ok xa
      refine o1 F' H' dy ⟨fun a u na e => ?_, fun a e => ?_, same, fun a e => ?_, ok⟩ xa
      · have h1 : a ≠ x := ne_of_none e hx
        exact keep a u na h1 (by rw [upd_ne h1, upd_ne (ne_of_none e hdx)]; exact e)
      · have z := there a e
        by_cases h1 : a = x
        · subst h1; exact hx
        · rw [upd_ne h1] at z
          by_cases h2 : a = dx
          · subst h2; exact hdx
          · rw [upd_ne h2] at z; exact z
      · rcases new a e with z | z
        · exact .inl z
        · right
          by_cases h1 : a = x
          · subst h1; exact hx
          · rw [upd_ne h1] at z
            by_cases h2 : a = dx
            · subst h2; exact hdx
            · rw [upd_ne h2] at z; exact z
    | ok fs p' =>
      rw [ei] at o1
      intro F' H' ws dx' keep there same new ok hF'x hH'x hl rw'
      refine ⟨rfl, o1 (.ref x) (upd F' x (.ins (G.cls c) dx' ((G.att c).zip ws))) H' ⟨fun a u na e => ?_, fun a e => ?_, same.trans (same_upd hF'x), fun a e => ?_, Step.more ok hF'x hH'x hnp⟩ (.obj hcn upd_same hl (rw'.mono (same_upd hF'x)))⟩
      · have h1 : a ≠ x := ne_of_none e hx
        exact keep a u na h1 (by rw [upd_ne h1, upd_ne (ne_of_none e hdx)]; exact e)
      · have z := there a e
        by_cases h1 : a = x
        · subst h1; exact hx
        · rw [upd_ne h1] at z
          by_cases h2 : a = dx
          · subst h2; exact hdx
          · rw [upd_ne h2] at z; exact z
      · by_cases h0 : a = x
        · subst h0; exact .inr hx
        · rw [upd_ne h0] at e
          rcases new a e with z | z
          · exact .inl z
          · right
            rw [upd_ne h0] at z
            by_cases h2 : a = dx
            · subst h2; exact hdx
            · rw [upd_ne h2] at z; exact z
theorem s_seq (C : Ctx T S G lv n nc N sc sc0 E X) {a : IE} {t e : Expr} (ha : PE X e (tE G E (evE S a))) : PI X t e (tI G E (evI S (.seq a))) := by
  have hL : PI X t e (iList X.K (tE G E (evE S a))) := pi_list ha
  have hT : PI X t e (iTup X.K (tE G E (evE S a))) := pi_tup ha
  refine ⟨fun pins s σ H R' I ⟨ρ, F, pn, p, dr, fk, o⟩ => ?_⟩
  -- which of the two is told by the value
  have o' : Out G (rJ G pn) E pn F H ((evE S a ρ p).bind fun x p => R.of (seqOf x) p) R' := by simpa only [evI] using o
  cases ev : evE S a ρ p with
  | stuck => rw [ev] at o'; exact o'.elim
  | err c fs p1 =>
    rw [ev] at o'
    exact hL.run pins s σ H R' I ⟨ρ, F, pn, p, dr, fk, by rw [ev]; exact o'⟩
  | ok d p1 =>
    rw [ev] at o'
    simp only [R.bind_ok] at o'
    cases d with
    | tup ds =>
      refine hT.run pins s σ H R' I ⟨ρ, F, pn, p, dr, fk, ?_⟩
      rw [ev]
      intro v F1 H1 s1 r1
      obtain ⟨b, vs, rfl, e1, r2'⟩ := r1.tup_inv
      exact ⟨b, rfl, ⟨vs, SqT.of (s1.ok.sub _ _ e1)⟩, o' _ F1 H1 s1 (jok_tup e1 r2')⟩
    | lst ds =>
      refine hL.run pins s σ H R' I ⟨ρ, F, pn, p, dr, fk, ?_⟩
      rw [ev]
      intro v F1 H1 s1 r1
      obtain ⟨b, vs, rfl, e1, r2'⟩ := r1.lst_inv
      exact ⟨b, rfl, ⟨vs, SqL.of (s1.ok.sub _ _ e1)⟩, o' _ F1 H1 s1 (jok_lst e1 r2')⟩
    | _ => exact o'.elim
theorem s_rng1 (C : Ctx T S G lv n nc N sc sc0 E X) {a : IE} {t y : Expr} {p1 p2 : Pos} (hg : gloB sc ("range" : Str) = true) (hy : nst y = true) (ha : PE X y (tE G E (evE S a))) : PI X t (.Call (.Name "range" p1) [y] [] p2) (tI G E (evI S (.rng1 a))) := by
  refine piI (pi_range1 (glo_of C.hsc hg) (C.free _ (by decide +kernel)) (pa_cons ha pa_nil (star_cons hy _)) (by rw [star_cons hy]; rfl)) ?_
  rintro σ H Q ⟨ρ, F, pn, p, dr, fk, o⟩
  refine ⟨ρ, F, pn, p, dr, fk, (Out.bind (rep := rD G pn) (by simpa only [evI] using o)).imp ?_⟩
  rintro x H1 ⟨F1, p1, d, e1, s1, r1, o1⟩
  obtain ⟨w, ew, o2⟩ := o1.ofH
  cases d with
  | int i =>
    cases r1
    simp only [asInt, Option.bind_some, rngOf] at ew
    split at ew
    · rename_i hs
      cases ew
      refine ⟨i, rfl, hs.2.1.1, hs.2.1.2, ?_⟩
      have z := jok_rng (G := G) (pn := pn) (F := F1) 0 i
      rw [Int.sub_zero] at z
      exact Out.here s1.ok o2 z
    · cases ew
  | _ => cases ew
theorem s_rng2 (C : Ctx T S G lv n nc N sc sc0 E X) {a b : IE} {t y z : Expr} {p1 p2 : Pos} (hg : gloB sc ("range" : Str) = true) (hy : nst y = true) (hz : nst z = true) (ha : PE X y (tE G E (evE S a))) (hb : PE X z (tE G E (evE S b))) :
    PI X t (.Call (.Name "range" p1) [y, z] [] p2) (tI G E (evI S (.rng2 a b))) := by
  refine piI (pi_range2 (glo_of C.hsc hg) (C.free _ (by decide +kernel)) (pa_cons ha (pa_cons hb pa_nil (star_cons hz _)) (star_cons hy _)) (by rw [star_cons hy, star_cons hz]; rfl) (by rw [star_cons hz]; rfl)) ?_
  rintro σ H Q ⟨ρ, F, pn, p, dr, fk, o⟩
  refine ⟨ρ, F, pn, p, dr, fk, (Out.bind (rep := rD G pn) (by simpa only [evI] using o)).imp ?_⟩
  rintro x H1 ⟨F1, p1, d, e1, s1, r1, o1⟩
  refine ⟨ρ, F1, pn, p1, dr.mono s1.same, s1.ok, (o1.bind (rep := rD G pn)).imp ?_⟩
  rintro y' H2 ⟨F2, p2, d', e2, s2, r2', o2⟩
  obtain ⟨w, ew, o3⟩ := o2.ofH
  cases d with
  | int i =>
    cases d' with
    | int j =>
      cases r1
      cases r2'
      simp only [asInt, Option.bind_some, rngOf] at ew
      split at ew
      · rename_i hs
        cases ew
        exact ⟨i, j, rfl, ⟨hs.1.1, hs.1.2, hs.2.1.1, hs.2.1.2⟩, Out.here s2.ok o3 (jok_rng i j)⟩
      · cases ew
    | _ => cases ew
  | _ => cases ew
theorem s_zip (C : Ctx T S G lv n nc N sc sc0 E X) {a b : IE} {t y z : Expr} {p1 p2 : Pos} (ht : isTp t = true) (hg : gloB sc ("zip" : Str) = true) (hy : nst y = true) (hz : nst z = true) (ha : PE X y (tE G E (evE S a))) (hb : PE X z (tE G E (evE S b))) :
    PI X t (.Call (.Name "zip" p1) [y, z] [] p2) (tI G E (evI S (.zip a b))) := by
  cases t with
  | Tuple elts kk tpos =>
    refine piI (RZ.pi_zipA (glo_of C.hsc hg) (C.free _ (by decide +kernel)) (pa_cons ha (pa_cons hb pa_nil (star_cons hz _)) (star_cons hy _)) (star_cons hy _) (star_plain (fun e he => by rw [List.mem_singleton.mp he]; exact hz) _ _)) ?_
    rintro σ H Q ⟨ρ, F, pn, p, dr, fk, o⟩
    refine ⟨ρ, F, pn, p, dr, fk, (Out.bind (rep := rD G pn) (by simpa only [evI] using o)).imp ?_⟩
    rintro x H1 ⟨F1, p1, d, e1, s1, r1, o1⟩
    refine ⟨ρ, F1, pn, p1, dr.mono s1.same, s1.ok, (o1.bind (rep := rD G pn)).imp ?_⟩
    rintro y' H2 ⟨F2, p2, d', e2, s2, r2', o2⟩
    obtain ⟨w, ew, o3⟩ := o2.ofH
    have r1 := r1.mono s2.same
    cases d with
    | tup xs =>
      cases d' with
      | tup ys =>
        cases ew
        obtain ⟨a1, vs, rfl, q1, q2⟩ := r1.tup_inv
        obtain ⟨a2, ws, rfl, q3, q4⟩ := r2'.tup_inv
        exact ⟨a1, a2, vs, ws, rfl, .inr ⟨SqT.of (s2.ok.sub _ _ q1), SqT.of (s2.ok.sub _ _ q3), Out.here s2.ok o3 (jok_zipT q1 q2 q3 q4)⟩⟩
      | _ => cases ew
    | lst xs =>
      cases d' with
      | lst ys =>
        cases ew
        obtain ⟨a1, vs, rfl, q1, q2⟩ := r1.lst_inv
        obtain ⟨a2, ws, rfl, q3, q4⟩ := r2'.lst_inv
        exact ⟨a1, a2, vs, ws, rfl, .inl ⟨SqL.of (s2.ok.sub _ _ q1), SqL.of (s2.ok.sub _ _ q3), Out.here s2.ok o3 (jok_zipL q1 q2 q3 q4)⟩⟩
      | _ => cases ew
    | _ => cases d' <;> cases ew
  | _ => cases ht
theorem s_enum (C : Ctx T S G lv n nc N sc sc0 E X) {a : IE} {t y : Expr} {p1 p2 : Pos} (ht : isTp t = true) (hg : gloB sc ("enumerate" : Str) = true) (hy : nst y = true) (ha : PE X y (tE G E (evE S a))) :
    PI X t (.Call (.Name "enumerate" p1) [y] [] p2) (tI G E (evI S (.enum a))) := by
  cases t with
  | Tuple elts kk tpos =>
    refine piI (pi_enum (glo_of C.hsc hg) (C.free _ (by decide +kernel)) (pa_cons ha pa_nil (star_cons hy _)) (by rw [star_cons hy]; rfl)) ?_
    rintro σ H Q ⟨ρ, F, pn, p, dr, fk, o⟩
    refine ⟨ρ, F, pn, p, dr, fk, (Out.bind (rep := rD G pn) (by simpa only [evI] using o)).imp ?_⟩
    rintro x H1 ⟨F1, p1, d, e1, s1, r1, o1⟩
    obtain ⟨w, ew, o2⟩ := o1.ofH
    cases d with
    | lst xs =>
      cases ew
      obtain ⟨a1, vs, rfl, q1, q2⟩ := r1.lst_inv
      exact ⟨a1, vs, rfl, SqL.of (s1.ok.sub _ _ q1), Out.here s1.ok o2 (jok_enum q1 q2)⟩
    | _ => cases ew
  | _ => cases ht
end
end Mi

set_option Elab.async false
set_option linter.all false
set_option maxRecDepth 100000
set_option maxHeartbeats 4000000
namespace Mi
open PySem PySem.Spec PyProof.Rows L2
theorem tG_nil {α β : Type} {G : Ad} {rep : PN → Hp → β → α → Prop} {E : XK} {ev : DEnv → PenS → R α} {σ : L2.St} {H : Hp} {Q : β → Hp → Prop} (h : ∀ ρ p, ev ρ p = .stuck) (t : tG G rep E ev σ H Q) : False := by
  obtain ⟨ρ, F, pn, p, dr, fk, o⟩ := t
  rw [h] at o
  exact o
/-- two values in a row, then an operation -/
theorem bin_read {α β : Type} {G : Ad} {rep : PN → Hp → β → α → Prop} {E : XK} {ea eb : DEnv → PenS → R D} {f : D → D → Option α} {σ : L2.St} {H : Hp} {Q : β → Hp → Prop}
    (h : tG G rep E (fun ρ p => (ea ρ p).bind fun x p => (eb ρ p).bind fun y p => R.of (f x y) p) σ H Q) :
    tE G E ea σ H fun x H1 => tE G E eb σ H1 fun y H2 => r2 G rep E f x y H2 Q := by
  obtain ⟨ρ, F, pn, p, dr, fk, o⟩ := h
  refine ⟨ρ, F, pn, p, dr, fk, (o.bind (rep := rD G pn)).imp ?_⟩
  rintro x H1 ⟨F1, p1, d, e1, s1, r1, o1⟩
  refine ⟨ρ, F1, pn, p1, dr.mono s1.same, s1.ok, (o1.bind (rep := rD G pn)).imp ?_⟩
  rintro y H2 ⟨F2, p2, e, e2, s2, q2, o2⟩
  exact ⟨F2, pn, p2, d, e, s2.ok, r1.mono s2.same, q2, o2⟩
theorem chain_read {G : Ad} {E : XK} {o o' : COp} {ea eb ec : DEnv → PenS → R D} {σ : L2.St} {H : Hp} {Q : Bool → Hp → Prop}
    (h : tT G E (fun ρ p => (ea ρ p).bind fun x p => (eb ρ p).bind fun y p => (R.of (cmpV o x y) p).bind fun k p => if k = true then (ec ρ p).bind fun z p => R.of (cmpV o' y z) p else .ok false p) σ H Q) :
    tChain (r2 G (rD G) E (fun d e => (cmpV o d e).map D.bl)) (r2 G (rD G) E (fun d e => (cmpV o' d e).map D.bl)) (tE G E ea) (tE G E eb) (tE G E ec) σ H (fun x H' => ∃ k, x = .bl k ∧ Q k H') := by
  obtain ⟨ρ, F, pn, p, dr, fk, h⟩ := h
  refine ⟨ρ, F, pn, p, dr, fk, (h.bind (rep := rD G pn)).imp ?_⟩
  rintro x H1 ⟨F1, p1, d, e1, s1, r1, o1⟩
  refine ⟨ρ, F1, pn, p1, dr.mono s1.same, s1.ok, (o1.bind (rep := rD G pn)).imp ?_⟩
  rintro y H2 ⟨F2, p2, e, e2, s2, q2, o2⟩
  refine ⟨F2, pn, p2, d, e, s2.ok, r1.mono s2.same, q2, ?_⟩
  cases ec1 : cmpV o d e with
  | none => rw [ec1] at o2; exact o2.elim
  | some k =>
    rw [ec1] at o2
    simp only [R.of_some, R.bind_ok] at o2
    show Out G (rD G pn) E pn F2 H2 (R.of ((cmpV o d e).map D.bl) p2) _
    rw [ec1]
    show Out G (rD G pn) E pn F2 H2 (.ok (.bl k) p2) _
    intro b F3 H3 s3 rb
    have rb := rb.bl_inv
    subst rb
    refine ⟨k, rfl, ?_⟩
    cases k with
    | false =>
      rw [if_neg Bool.false_ne_true] at o2
      rw [if_neg Bool.false_ne_true]
      exact ⟨false, rfl, o2 false F3 H3 s3 rfl⟩
    | true =>
      rw [if_pos rfl] at o2
      rw [if_pos rfl]
      have o3 : Out G rB E pn F3 H3 ((ec ρ p2).bind fun z p => R.of (cmpV o' e z) p) Q := by
        cases q : (ec ρ p2).bind (fun z p => R.of (cmpV o' e z) p) with
        | stuck => rw [q] at o2; exact o2
        | err c fs p' => rw [q] at o2; exact fun F' H' dx st => o2 F' H' dx (s3.trans st)
        | ok b p' => rw [q] at o2; exact fun b F' H' st => o2 b F' H' (s3.trans st)
      refine ⟨ρ, F3, pn, p2, dr.mono (s1.same.trans (s2.same.trans s3.same)), s3.ok, (o3.bind (rep := rD G pn)).imp ?_⟩
      rintro w H4 ⟨F4, p4, z, e4, s4, r4, o4⟩
      refine ⟨F4, pn, p4, e, z, s4.ok, q2.mono (s3.same.trans s4.same), r4, ?_⟩
      cases ec2 : cmpV o' e z with
      | none => rw [ec2] at o4; exact o4.elim
      | some k =>
        rw [ec2] at o4
        show Out G (rD G pn) E pn F4 H4 (R.of ((cmpV o' e z).map D.bl) p4) _
        rw [ec2]
        show Out G (rD G pn) E pn F4 H4 (.ok (.bl k) p4) _
        intro b F5 H5 s5 rb
        have rb := rb.bl_inv
        subst rb
        exact ⟨k, rfl, o4 k F5 H5 s5 rfl⟩
/-- a bool's reading as a value, from the test's -/
theorem bl_read {G : Ad} {E : XK} {ev : DEnv → PenS → R Bool} {σ : L2.St} {H : Hp} {Q : VK} (h : tE G E (fun ρ p => (ev ρ p).bind fun k p => .ok (.bl k) p) σ H Q) : tT G E ev σ H (fun k H' => Q (.bl k) H') := by
  obtain ⟨ρ, F, pn, p, dr, fk, o⟩ := h
  refine ⟨ρ, F, pn, p, dr, fk, ?_⟩
  dsimp only at o
  cases e : ev ρ p with
  | stuck => rw [e] at o; exact o
  | err c fs p' => rw [e] at o; exact o
  | ok k p' =>
    rw [e] at o
    rintro b F' H' s rfl
    exact o (.bl b) F' H' s (.bl b)
/-- a value's truth -/
theorem tru_read {G : Ad} {K : PySem.W.Frag} {E : XK} {ev : DEnv → PenS → R D} {σ : L2.St} {H : Hp} {Q : Bool → Hp → Prop} (h : tT G E (fun ρ p => (ev ρ p).bind fun x p => R.of (truth x) p) σ H Q) :
    tE G E ev σ H fun x H1 => ∃ k, TruV K x H1 k ∧ Q k H1 := by
  obtain ⟨ρ, F, pn, p, dr, fk, o⟩ := h
  refine ⟨ρ, F, pn, p, dr, fk, (o.bind (rep := rD G pn)).imp ?_⟩
  rintro x H1 ⟨F1, p1, d, e1, s1, r1, o1⟩
  obtain ⟨k, ek, o2⟩ := o1.ofH
  exact ⟨k, r1.tru s1.ok.sub ek, o2.here s1.ok rfl⟩
theorem eqArgs_some {c : Nat} {x y : D} {ds : List D} (h : eqArgs c x y = some ds) : ∃ fs gs, x = .obj c fs ∧ y = .obj c gs ∧ ds = [.obj c fs, .obj c gs] := by
  cases x with
  | obj i fs =>
    cases y with
    | obj j gs =>
      simp only [eqArgs] at h
      split at h
      · rename_i q; obtain ⟨rfl, rfl⟩ := q; cases h; exact ⟨fs, gs, rfl, rfl, rfl⟩
      · cases h
    | _ => cases h
  | _ => cases h
section
variable {T : Tab} {S : Sem0} {G : Ad} {lv : Nat → Nat} {n nc : Nat → Bool} {N : List Str}
theorem evT_tru_eqo {ne : Bool} {c k : Nat} {a b : IE} : (fun ρ p => evT S (.eqo ne c k a b) ρ p) = fun ρ p => (evE S (.eqo ne c k a b) ρ p).bind fun x p => R.of (truth x) p := by
  funext ρ p
  simp only [evT, evE]
  cases evE S a ρ p with
  | ok x p1 =>
    simp only [R.bind_ok]
    cases evE S b ρ p1 with
    | ok y p2 =>
      simp only [R.bind_ok]
      cases eqArgs c x y <;> rfl
    | err _ _ _ => rfl
    | stuck => rfl
  | err _ _ _ => rfl
  | stuck => rfl
theorem s_eqo {sc sc0 : Scope} {E : XK} {X : Cx} (C : Ctx T S G lv n nc N sc sc0 E X) {ne : Bool} {c k : Nat} {a b : IE} (h2 : n k = true) (h3 : (c, k) ∈ T.eqs) : 
    OpR X (compareOp (eqOp ne)) (fun x y H Q => ∃ F pn p d e, FOk F H pn p ∧ Rep G pn F x d ∧ Rep G pn F y e ∧ Out G (rD G pn) E pn F H ((R.of (eqArgs c d e) p).bind fun ds p => (S.den k ds p).bind (eqRes ne)) Q) := by
  obtain ⟨hc, f, fd, ps, Fn, hb, hr, hn, hs, hf⟩ := C.eqs c k h3 h2
  have op := op_eqo (c := c) (ne := ne) (E := E) Fn hb C.pass hr hn hs hf (C.clsF.hm c hc)
  rintro pins s σ H x y v u Q I rx ry ⟨F, pn, p, d, e, fk, r1, r2', o⟩
  cases q : eqArgs c d e with
  | none => rw [q] at o; exact o.elim
  | some ds =>
    rw [q] at o
    obtain ⟨fs, gs, rfl, rfl, rfl⟩ := eqArgs_some q
    exact op pins s σ H x y v u Q I rx ry ⟨F, pn, p, fs, gs, fk, r1, r2', o⟩
theorem eqo_test {ne : Bool} {G : Ad} {E : XK} {pn : PN} {F H : Hp} {p : PenS} {o : Option (List D)} {den : Den} {Q : Bool → Hp → Prop}
    (h : Out G rB E pn F H ((R.of o p).bind fun ds p => ((den ds p).bind (eqRes ne)).bind fun x p => R.of (truth x) p) Q) : Out G (rD G pn) E pn F H ((R.of o p).bind fun ds p => (den ds p).bind (eqRes ne)) (fun z H' => ∃ k, z = .bl k ∧ Q k H') := by
  cases o with
  | none => exact h.elim
  | some ds =>
    have h : Out G rB E pn F H (((den ds p).bind (eqRes ne)).bind fun x p => R.of (truth x) p) Q := h
    show Out G (rD G pn) E pn F H ((den ds p).bind (eqRes ne)) _
    refine (h.bind (rep := rD G pn)).imp ?_
    rintro z H1 ⟨F1, p1, d, e1, s1, r1, o1⟩
    obtain ⟨d0, p0, _, e2⟩ := bind_ok_inv e1
    cases d0 with
    | bl t =>
      cases e2
      cases r1
      exact ⟨_, rfl, o1.here s1.ok rfl⟩
    | _ => cases e2
theorem eqo_mark {ne : Bool} {b : Expr} : behindInMarks (eqOp ne) b = false := by
  cases ne
  · exact nobehind _ (by decide) (by decide)
  · exact nobehind _ (by decide) (by decide)
theorem evT_tru_call {k : Nat} {xs : IEs} : (fun ρ p => evT S (.call k xs) ρ p) = fun ρ p => (evE S (.call k xs) ρ p).bind fun x p => R.of (truth x) p := by
  funext ρ p
  simp only [evT, evE]
  cases evEs S xs ρ p <;> rfl
theorem evT_tru_blt {k : BF} {xs : IEs} : (fun ρ p => evT S (.blt k xs) ρ p) = fun ρ p => (evE S (.blt k xs) ρ p).bind fun x p => R.of (truth x) p := by
  funext ρ p
  simp only [evT, evE]
  cases evEs S xs ρ p <;> rfl
theorem evT_tru_fld {a : IE} {f : Str} : (fun ρ p => evT S (.fld a f) ρ p) = fun ρ p => (evE S (.fld a f) ρ p).bind fun x p => R.of (truth x) p := by
  funext ρ p
  simp only [evT, evE]
  cases evE S a ρ p <;> rfl
theorem evT_tru_isi {a : IE} {t : Ty} : (fun ρ p => evT S (.isi a t) ρ p) = fun ρ p => (evE S (.isi a t) ρ p).bind fun x p => R.of (truth x) p := by
  funext ρ p
  simp only [evT, evE]
  cases evE S a ρ p with
  | ok d p1 =>
    simp only [R.bind_ok]
    cases tyD d with
    | none => rfl
    | some u =>
      simp only [Option.bind_some]
      cases kit u t <;> rfl
  | err _ _ _ => rfl
  | stuck => rfl
theorem evT_tru_isis {a : IE} {t : List Ty} : (fun ρ p => evT S (.isis a t) ρ p) = fun ρ p => (evE S (.isis a t) ρ p).bind fun x p => R.of (truth x) p := by
  funext ρ p
  simp only [evT, evE]
  cases evE S a ρ p with
  | ok d p1 =>
    simp only [R.bind_ok]
    cases tyD d with
    | none => rfl
    | some u =>
      simp only [Option.bind_some]
      cases kits u t <;> rfl
  | err _ _ _ => rfl
  | stuck => rfl
mutual
theorem soundE : ∀ (ir : IE) {sc sc0 : Scope} {E : XK} {X : Cx} (C : Ctx T S G lv n nc N sc sc0 E X) (e : Expr), mE T n nc N sc ir e = true → PE X e (tE G E (evE S ir))
  | .int i, sc, sc0, E, X, C, e, h => by
    simp only [mE] at h
    split at h
    · cases of_decide_eq_true h
      exact peI pe_int fun σ H Q ⟨ρ, F, pn, p, dr, fk, o⟩ => o.here fk (.int i)
    · cases h
  | .bl i, sc, sc0, E, X, C, e, h => by
    simp only [mE] at h
    split at h
    · cases of_decide_eq_true h
      exact peI pe_bl fun σ H Q ⟨ρ, F, pn, p, dr, fk, o⟩ => o.here fk (.bl i)
    · cases h
  | .non, sc, sc0, E, X, C, e, h => by
    simp only [mE] at h
    split at h
    · exact peI pe_non fun σ H Q ⟨ρ, F, pn, p, dr, fk, o⟩ => o.here fk .non
    · cases h
  | .str i, sc, sc0, E, X, C, e, h => by
    simp only [mE] at h
    split at h
    · cases of_decide_eq_true h
      exact peI pe_str fun σ H Q ⟨ρ, F, pn, p, dr, fk, o⟩ => o.here fk (.str i)
    · cases h
  | .var i, sc, sc0, E, X, C, e, h => by
    simp only [mE] at h
    split at h
    · simp only [Bool.and_eq_true, decide_eq_true_eq] at h
      refine peI (pe_var (by rw [C.hN]; exact h.1.1) (by rw [C.hsc]; exact vis_of h.1.2) (okN1 h.2) (okN2 h.2)) ?_
      rintro σ H Q ⟨ρ, F, pn, p, dr, fk, o⟩
      obtain ⟨d, ed, o1⟩ := o.ofH
      cases q : ρ[i]? with
      | none => rw [q] at ed; cases ed
      | some z =>
        rw [q] at ed
        have ed : z = some d := ed
        subst ed
        obtain ⟨v, hv, rv⟩ := dr.2 i d q
        exact ⟨v, hv, o1.here fk rv⟩
    · cases h
  | .con k, sc, sc0, E, X, C, e, h => by
    simp only [mE] at h
    split at h
    · simp only [Bool.and_eq_true, decide_eq_true_eq] at h
      obtain ⟨⟨h1, h2⟩, h3⟩ := h
      cases q : T.cons[k]? with
      | none => rw [q] at h3; cases h3
      | some z =>
        obtain ⟨x, v⟩ := z
        rw [q] at h3
        cases h3
        obtain ⟨c1, t, c2⟩ := C.con k x v q
        refine peI (pe_glob (v := .int v) (glo_of C.hsc h1) c2 ⟨t, rfl⟩ (okN1 h2)) ?_
        rintro σ H Q ⟨ρ, F, pn, p, dr, fk, o⟩
        simp only [evE, c1] at o
        exact o.here fk (.int v)
    · cases h
  | .fnv k, sc, sc0, E, X, C, e, h => by
    simp only [mE] at h
    split at h
    · simp only [Bool.and_eq_true, decide_eq_true_eq] at h
      obtain ⟨⟨⟨h1, h2⟩, h3⟩, h4⟩ := h
      cases q : T.fns[k]? with
      | none => rw [q] at h4; cases h4
      | some z =>
        obtain ⟨x, m⟩ := z
        rw [q] at h4
        cases h4
        obtain ⟨fd, ps, _, hm, _⟩ := C.fns k x m h3 q
        exact peI (pe_glob (v := .ref (G.fad k)) (glo_of C.hsc h1) (hm (okN3 h2)).1 rfl (okN1 h2)) fun σ H Q ⟨ρ, F, pn, p, dr, fk, o⟩ => o.here fk (.fn k)
    · cases h
  | .bin op a b, sc, sc0, E, X, C, e, h => by
    simp only [mE] at h
    split at h
    · simp only [Bool.and_eq_true, decide_eq_true_eq] at h
      obtain ⟨⟨rfl, h2⟩, h3⟩ := h
      refine peI (pe_op (opR_bin (G := G) (E := E) op) (soundE a C _ h2) (soundE b C _ h3)) ?_
      intro σ H Q t
      exact bin_read (by simpa only [evE] using t)
    · cases h
  | .neg a, sc, sc0, E, X, C, e, h => by
    simp only [mE] at h
    split at h
    · refine peI (pe_un un_neg (soundE a C _ h)) ?_
      rintro σ H Q ⟨ρ, F, pn, p, dr, fk, o⟩
      refine ⟨ρ, F, pn, p, dr, fk, (Out.bind (rep := rD G pn) (by simpa only [evE] using o)).imp ?_⟩
      rintro x H1 ⟨F1, p1, d, e1, s1, r1, o1⟩
      obtain ⟨w, ew, o2⟩ := o1.ofH
      cases d <;> simp only [asInt, Option.map_some, Option.map_none] at ew <;> cases ew
      cases r1
      exact ⟨_, rfl, o2.here s1.ok (.int _)⟩
    · cases h
  | .not a, sc, sc0, E, X, C, e, h => by
    simp only [mE] at h
    split at h
    · refine peI (pe_notT (soundE a C _ h)) ?_
      rintro σ H Q ⟨ρ, F, pn, p, dr, fk, o⟩
      refine ⟨ρ, F, pn, p, dr, fk, (Out.bind (rep := rD G pn) (by simpa only [evE] using o)).imp ?_⟩
      rintro x H1 ⟨F1, p1, d, e1, s1, r1, o1⟩
      obtain ⟨w, ew, o2⟩ := o1.ofH
      simp only [Option.map_eq_some_iff] at ew
      obtain ⟨k, ek, rfl⟩ := ew
      exact ⟨k, r1.tru s1.ok.sub ek, o2.here s1.ok (.bl _)⟩
    · cases h
  | .cmp op a b, sc, sc0, E, X, C, e, h => by
    simp only [mE] at h
    split at h
    · simp only [Bool.and_eq_true, decide_eq_true_eq] at h
      obtain ⟨⟨rfl, h2⟩, h3⟩ := h
      refine peI (pe_cmpR (opR_cmp (G := G) (E := E) C.units op) (soundE a C _ h2) (soundE b C _ h3) (nomark _ (by cases op <;> decide) (by cases op <;> decide))) ?_
      intro σ H Q t
      exact bin_read (by simpa only [evE] using t)
    · cases h
  | .chain op op' a b c, sc, sc0, E, X, C, e, h => by
    simp only [mE] at h
    split at h
    · simp only [Bool.and_eq_true, decide_eq_true_eq] at h
      obtain ⟨⟨⟨⟨rfl, rfl⟩, h2⟩, h3⟩, h4⟩ := h
      refine peI (pe_chain (opR_cmp (G := G) (E := E) C.units op) (opR_cmp (G := G) (E := E) C.units op') (soundE a C _ h2) (soundE b C _ h3) (soundE c C _ h4) (nomark _ (by cases op' <;> decide) (by cases op' <;> decide))) ?_
      intro σ H Q t
      have t2 : tT G E (fun ρ p => (evE S a ρ p).bind fun x p => (evE S b ρ p).bind fun y p => (R.of (cmpV op x y) p).bind fun k p => if k = true then (evE S c ρ p).bind fun z p => R.of (cmpV op' y z) p else .ok false p) σ H (fun k H' => Q (.bl k) H') := by
        refine bl_read ?_
        obtain ⟨ρ, F, pn, p, dr, fk, o⟩ := t
        refine ⟨ρ, F, pn, p, dr, fk, ?_⟩
        have ee : evE S (.chain op op' a b c) ρ p = ((evE S a ρ p).bind fun x p => (evE S b ρ p).bind fun y p => (R.of (cmpV op x y) p).bind fun k p => if k = true then (evE S c ρ p).bind fun z p => R.of (cmpV op' y z) p else .ok false p).bind fun k p => .ok (.bl k) p := by
          simp only [evE]
          cases evE S a ρ p with
          | ok x p1 =>
            simp only [R.bind_ok]
            cases evE S b ρ p1 with
            | ok y p2 =>
              simp only [R.bind_ok]
              cases cmpV op x y with
              | none => rfl
              | some k =>
                cases k with
                | false => rfl
                | true =>
                  simp only [R.of_some, R.bind_ok, if_true]
                  cases evE S c ρ p2 with
                  | ok z p3 => simp only [R.bind_ok]; cases cmpV op' y z <;> rfl
                  | err _ _ _ => rfl
                  | stuck => rfl
            | err _ _ _ => rfl
            | stuck => rfl
          | err _ _ _ => rfl
          | stuck => rfl
        rw [ee] at o
        exact o
      have t3 := chain_read t2
      -- the same with the value itself
      refine tChain_imp t3 ?_
      rintro x H' ⟨k, rfl, q⟩
      exact q
    · cases h
  | .and xs, sc, sc0, E, X, C, e, h => by
    simp only [mE] at h
    split at h
    · exact soundAnd xs C _ _ h
    · cases h
  | .or xs, sc, sc0, E, X, C, e, h => by
    simp only [mE] at h
    split at h
    · exact soundOr xs C _ _ h
    · cases h
  | .ite c a b, sc, sc0, E, X, C, e, h => by
    simp only [mE] at h
    split at h
    · simp only [Bool.and_eq_true] at h
      refine peI (pe_ifExp (soundT c C _ h.1.1) (soundE a C _ h.1.2) (soundE b C _ h.2)) ?_
      rintro σ H Q ⟨ρ, F, pn, p, dr, fk, o⟩
      refine ⟨ρ, F, pn, p, dr, fk, (Out.bind (rep := rB) (by simpa only [evE] using o)).imp ?_⟩
      rintro k H1 ⟨F1, p1, k', e1, s1, rfl, o1⟩
      cases k with
      | true => exact ⟨ρ, F1, pn, p1, dr.mono s1.same, s1.ok, o1⟩
      | false => exact ⟨ρ, F1, pn, p1, dr.mono s1.same, s1.ok, o1⟩
    · cases h
  | .tup xs, sc, sc0, E, X, C, e, h => by
    simp only [mE] at h
    split at h
    · refine peI (pe_tup (soundEs xs C _ h)) ?_
      rintro σ H Q ⟨ρ, F, pn, p, dr, fk, o⟩
      refine ⟨ρ, F, pn, p, dr, fk, (Out.bind (rep := rDs G pn) (by simpa only [evE] using o)).imp ?_⟩
      rintro vs H1 ⟨F1, p1, ds, e1, s1, r1, o1⟩
      obtain ⟨w, ew, o2⟩ := o1.ofH
      split at ew
      · rename_i hz
        cases ew
        refine ⟨by rw [r1.length]; exact hz, fun q hq => ?_⟩
        exact o2.new s1.ok hq (.tup upd_same (r1.mono (same_upd (s1.ok.sub.free hq))))
      · cases ew
    · cases h
  | .lst xs, sc, sc0, E, X, C, e, h => by
    simp only [mE] at h
    split at h
    · refine peI (pe_lst (soundEs xs C _ h)) ?_
      rintro σ H Q ⟨ρ, F, pn, p, dr, fk, o⟩
      refine ⟨ρ, F, pn, p, dr, fk, (Out.bind (rep := rDs G pn) (by simpa only [evE] using o)).imp ?_⟩
      rintro vs H1 ⟨F1, p1, ds, e1, s1, r1, o1⟩
      obtain ⟨w, ew, o2⟩ := o1.ofH
      split at ew
      · rename_i hz
        cases ew
        refine ⟨by rw [r1.length]; exact hz, fun q hq => ?_⟩
        exact o2.new s1.ok hq (.lst upd_same (r1.mono (same_upd (s1.ok.sub.free hq))))
      · cases ew
    · cases h
  | .ix a b, sc, sc0, E, X, C, e, h => by
    simp only [mE] at h
    split at h
    · simp only [Bool.and_eq_true] at h
      refine peI (pe_ix (ixR (G := G) (E := E)) (soundE a C _ h.1.2) (soundE b C _ h.2) (plain_ix h.1.1)) ?_
      intro σ H Q t
      exact bin_read (by simpa only [evE] using t)
    · cases h
  | .sl a lo hi, sc, sc0, E, X, C, e, h => by
    simp only [mE] at h
    split at h
    · simp only [Bool.and_eq_true] at h
      refine peI (pe_slice (slR (G := G) (E := E)) (soundE a C _ h.1.1) (soundO lo C _ h.1.2) (soundO hi C _ h.2)) ?_
      rintro σ H Q ⟨ρ, F, pn, p, dr, fk, o⟩
      refine ⟨ρ, F, pn, p, dr, fk, (Out.bind (rep := rD G pn) (by simpa only [evE] using o)).imp ?_⟩
      rintro x H1 ⟨F1, p1, d, e1, s1, r1, o1⟩
      refine ⟨ρ, F1, pn, p1, dr.mono s1.same, s1.ok, (o1.bind (rep := rO)).imp ?_⟩
      rintro l H2 ⟨F2, p2, l', e2, s2, rfl, o2⟩
      refine ⟨ρ, F2, pn, p2, dr.mono (s1.same.trans s2.same), s2.ok, (o2.bind (rep := rO)).imp ?_⟩
      rintro u H3 ⟨F3, p3, u', e3, s3, rfl, o3⟩
      exact ⟨F3, pn, p3, d, s3.ok, r1.mono (s2.same.trans s3.same), o3⟩
    · cases h
  | .fld a f, sc, sc0, E, X, C, e, h => by
    simp only [mE] at h
    split at h
    · simp only [Bool.and_eq_true, decide_eq_true_eq] at h
      obtain ⟨⟨rfl, h2⟩, h3⟩ := h
      refine peI (pe_fld (soundE a C _ h3) (attr_base h2 _ _ _)) ?_
      rintro σ H Q ⟨ρ, F, pn, p, dr, fk, o⟩
      refine ⟨ρ, F, pn, p, dr, fk, (Out.bind (rep := rD G pn) (by simpa only [evE] using o)).imp ?_⟩
      rintro x H1 ⟨F1, p1, d, e1, s1, r1, o1⟩
      obtain ⟨w, ew, o2⟩ := o1.ofH
      cases d with
      | obj c ds =>
        cases r1 with
        | obj hc e' l r =>
          rw [C.att] at ew
          obtain ⟨v, hv, rv, hf⟩ := zip_lookup r ew
          exact ⟨_, _, _, _, v, rfl, s1.ok.sub _ _ e', C.clsF.cl _ hc, C.clsF.noat _ hc _ hf, hv, o2.here s1.ok rv⟩
      | _ => cases ew
    · cases h
  | .call k xs, sc, sc0, E, X, C, e, h => by
    simp only [mE] at h
    split at h
    · simp only [Bool.and_eq_true, decide_eq_true_eq] at h
      obtain ⟨⟨⟨⟨h1, h2⟩, h3⟩, h4⟩, h5⟩ := h
      exact s_call C h1 h2 h3 h4 h5 (soundEs xs C _ h5)
    · cases h
  | .mk c xs, sc, sc0, E, X, C, e, h => by
    simp only [mE] at h
    split at h
    · simp only [Bool.and_eq_true, decide_eq_true_eq] at h
      obtain ⟨⟨⟨⟨h1, h2⟩, h3⟩, h4⟩, h5⟩ := h
      exact s_mk C h1 h2 h3 h4 h5 (soundEs xs C _ h5)
    · cases h
  | .blt f xs, sc, sc0, E, X, C, e, h => by
    simp only [mE] at h
    split at h
    · simp only [Bool.and_eq_true, decide_eq_true_eq] at h
      obtain ⟨⟨⟨h1, h2⟩, h3⟩, h4⟩ := h
      exact s_blt C h1 h2 h3 h4 (soundEs xs C _ h4)
    · cases h
  | .isi a t, sc, sc0, E, X, C, e, h => by
    simp only [mE] at h
    split at h
    · simp only [Bool.and_eq_true, decide_eq_true_eq] at h
      obtain ⟨⟨⟨⟨⟨⟨h1, h2⟩, h3⟩, h4⟩, h5⟩, h6⟩, h7⟩ := h
      exact s_isi C h1 h2 h3 h4 h5 (soundE a C _ h6) h7
    · cases h
  | .isis a ts, sc, sc0, E, X, C, e, h => by
    simp only [mE] at h
    split at h
    · simp only [Bool.and_eq_true, decide_eq_true_eq] at h
      obtain ⟨⟨⟨⟨⟨⟨h1, h2⟩, h3⟩, h4⟩, h5⟩, h6⟩, h7⟩ := h
      exact s_isis C h1 h2 h3 h4 (soundE a C _ h5) h6 h7
    · cases h
  | .comp elt tg it ifs own, sc, sc0, E, X, C, e, h => by
    simp only [mE] at h
    split at h
    · simp only [Bool.and_eq_true, decide_eq_true_eq] at h
      obtain ⟨⟨⟨⟨⟨⟨⟨⟨h1, h2⟩, h3⟩, h4⟩, h5⟩, h6⟩, h7⟩, h8⟩, h9⟩ := h
      subst h1
      exact peI (s_comp C h2 h3 h5 h6 (soundI it C _ _ h4) (fun s H Cc cl fp => soundTs ifs (C.blk s H _ Cc cl fp) _ h7 h8) (fun s H Cc cl fp => soundE elt (C.blk s H _ Cc cl fp) _ h9)).1 fun σ H Q t => tE_tF t
    · cases h
  | .pget a f, sc, sc0, E, X, C, e, h => by
    simp only [mE] at h
    split at h
    · simp only [Bool.and_eq_true, decide_eq_true_eq] at h
      obtain ⟨rfl, h2⟩ := h
      refine peI (pe_dget C.hu1 (soundE a C _ h2) pe_str (fun _ _ => rfl)) ?_
      rintro σ H Q ⟨ρ, F, pn, p, dr, fk, o⟩
      refine ⟨ρ, F, pn, p, dr, fk, (Out.bind (rep := rD G pn) (by simpa only [evE] using o)).imp ?_⟩
      rintro x H1 ⟨F1, p1, d, e1, s1, r1, o1⟩
      cases d with
      | pen =>
        cases p1 with
        | none => exact o1.elim
        | some st =>
          obtain ⟨w, ew, o2⟩ := o1.ofH
          cases r1 with
          | pen epn =>
            subst epn
            have z := s1.ok.pen
            obtain ⟨z1, z2, z3⟩ := z
            obtain ⟨v, hv, rv⟩ := penGet_rep z3 ew
            refine ⟨_, v, rfl, ?_, o2.here s1.ok rv⟩
            have g := DGet.k (k := (Sum.inr f : Key)) z2
            rw [hv] at g
            exact g
      | _ => cases p1 <;> exact o1.elim
    · cases h
  | .eqo ne c k a b, sc, sc0, E, X, C, e, h => by
    simp only [mE] at h
    split at h
    · simp only [Bool.and_eq_true, decide_eq_true_eq] at h
      obtain ⟨⟨⟨⟨rfl, h2⟩, h3⟩, h4⟩, h5⟩ := h
      refine peI (pe_cmpR (s_eqo C (a := a) (b := b) h2 h3) (soundE a C _ h4) (soundE b C _ h5) eqo_mark) ?_
      rintro σ H Q ⟨ρ, F, pn, p, dr, fk, o⟩
      refine ⟨ρ, F, pn, p, dr, fk, (Out.bind (rep := rD G pn) (by simpa only [evE] using o)).imp ?_⟩
      rintro x H1 ⟨F1, p1, d, e1, s1, r1, o1⟩
      refine ⟨ρ, F1, pn, p1, dr.mono s1.same, s1.ok, (o1.bind (rep := rD G pn)).imp ?_⟩
      rintro y H2 ⟨F2, p2, d', e2, s2, q2, o2⟩
      exact ⟨F2, pn, p2, d, d', s2.ok, r1.mono s2.same, q2, o2⟩
    · cases h
theorem soundT : ∀ (ir : IE) {sc sc0 : Scope} {E : XK} {X : Cx} (C : Ctx T S G lv n nc N sc sc0 E X) (e : Expr), mT T n nc N sc ir e = true → PT X e (tT G E (evT S ir))
  | .not a, sc, sc0, E, X, C, e, h => by
    simp only [mT] at h
    split at h
    · refine ptI (pt_not (soundT a C _ h)) ?_
      rintro σ H Q ⟨ρ, F, pn, p, dr, fk, o⟩
      refine ⟨ρ, F, pn, p, dr, fk, (Out.bind (rep := rB) (by simpa only [evT] using o)).imp ?_⟩
      rintro k H1 ⟨F1, p1, k', e1, s1, rfl, o1⟩
      exact o1.here s1.ok rfl
    · cases h
  | .and xs, sc, sc0, E, X, C, e, h => by
    simp only [mT] at h
    split at h
    · simp only [Bool.and_eq_true] at h
      exact (soundAndT xs C _ _ h.1 (by simpa using h.2)).pt
    · cases h
  | .or xs, sc, sc0, E, X, C, e, h => by
    simp only [mT] at h
    split at h
    · simp only [Bool.and_eq_true] at h
      exact (soundOrT xs C _ _ h.1 (by simpa using h.2)).pt
    · cases h
  | .cmp op a b, sc, sc0, E, X, C, e, h => by
    simp only [mT] at h
    split at h
    · simp only [Bool.and_eq_true, decide_eq_true_eq] at h
      obtain ⟨⟨rfl, h2⟩, h3⟩ := h
      refine ptI (pt_cmpR (opR_cmp (G := G) (E := E) C.units op) (soundE a C _ h2) (soundE b C _ h3) (nomark _ (by cases op <;> decide) (by cases op <;> decide))) ?_
      intro σ H Q t
      have t2 := bin_read (rep := fun _ => rB) (by simpa only [evT] using t)
      obtain ⟨ρ, F, pn, p, dr, fk, o⟩ := t2
      refine ⟨ρ, F, pn, p, dr, fk, o.imp ?_⟩
      rintro x H1 ⟨ρ', F1, pn', p1, dr1, fk1, o1⟩
      refine ⟨ρ', F1, pn', p1, dr1, fk1, o1.imp ?_⟩
      rintro y H2 ⟨F2, pn2, p2, d, e, fk2, r1, r2', o2⟩
      refine ⟨F2, pn2, p2, d, e, fk2, r1, r2', ?_⟩
      cases q : cmpV op d e with
      | none => rw [q] at o2; exact o2.elim
      | some k =>
        rw [q] at o2
        show Out G (rD G pn2) E pn2 F2 H2 (R.of ((cmpV op d e).map D.bl) p2) _
        rw [q]
        show Out G (rD G pn2) E pn2 F2 H2 (.ok (.bl k) p2) _
        intro b F3 H3 s3 rb
        have rb := rb.bl_inv
        subst rb
        exact ⟨k, rfl, o2 k F3 H3 s3 rfl⟩
    · cases h
  | .chain op op' a b c, sc, sc0, E, X, C, e, h => by
    simp only [mT] at h
    split at h
    · simp only [Bool.and_eq_true, decide_eq_true_eq] at h
      obtain ⟨⟨⟨⟨rfl, rfl⟩, h2⟩, h3⟩, h4⟩ := h
      refine ptI (pt_chain (opR_cmp (G := G) (E := E) C.units op) (opR_cmp (G := G) (E := E) C.units op') (soundE a C _ h2) (soundE b C _ h3) (soundE c C _ h4) (nomark _ (by cases op' <;> decide) (by cases op' <;> decide))) ?_
      intro σ H Q t
      exact chain_read (by simpa only [evT] using t)
    · cases h
  | .var i, sc, sc0, E, X, C, e, h => by
    have h0 : mE T n nc N sc (.var i) e = true := h
    simp only [mT] at h
    split at h
    · refine ptI (pt_truth (soundE (.var i) C _ h0) (fun _ => rfl)) ?_
      intro σ H Q t
      exact tru_read (by simpa only [evT, evE] using t)
    · cases h
  | .call k xs, sc, sc0, E, X, C, e, h => by
    simp only [mT] at h
    split at h
    · simp only [Bool.and_eq_true, decide_eq_true_eq] at h
      obtain ⟨⟨⟨⟨h1, h2⟩, h3⟩, h4⟩, h5⟩ := h
      refine ptI (pt_truth (s_call C h1 h2 h3 h4 h5 (soundEs xs C _ h5)) (fun _ => rfl)) ?_
      intro σ H Q t
      exact tru_read (by rw [← evT_tru_call]; exact t)
    · cases h
  | .eqo ne c k a b, sc, sc0, E, X, C, e, h => by
    simp only [mT] at h
    split at h
    · simp only [Bool.and_eq_true, decide_eq_true_eq] at h
      obtain ⟨⟨⟨⟨rfl, h2⟩, h3⟩, h4⟩, h5⟩ := h
      refine ptI (pt_cmpR (s_eqo C (a := a) (b := b) h2 h3) (soundE a C _ h4) (soundE b C _ h5) eqo_mark) ?_
      rintro σ H Q ⟨ρ, F, pn, p, dr, fk, o⟩
      refine ⟨ρ, F, pn, p, dr, fk, (Out.bind (rep := rD G pn) (by simpa only [evT] using o)).imp ?_⟩
      rintro x H1 ⟨F1, p1, d, e1, s1, r1, o1⟩
      refine ⟨ρ, F1, pn, p1, dr.mono s1.same, s1.ok, (o1.bind (rep := rD G pn)).imp ?_⟩
      rintro y H2 ⟨F2, p2, d', e2, s2, q2, o2⟩
      exact ⟨F2, pn, p2, d, d', s2.ok, r1.mono s2.same, q2, eqo_test o2⟩
    · cases h
  | .blt f xs, sc, sc0, E, X, C, e, h => by
    simp only [mT] at h
    split at h
    · simp only [Bool.and_eq_true, decide_eq_true_eq] at h
      obtain ⟨⟨⟨h1, h2⟩, h3⟩, h4⟩ := h
      refine ptI (pt_truth (s_blt C h1 h2 h3 h4 (soundEs xs C _ h4)) (fun _ => rfl)) ?_
      intro σ H Q t
      exact tru_read (by rw [← evT_tru_blt]; exact t)
    · cases h
  | .isi a ty, sc, sc0, E, X, C, e, h => by
    simp only [mT] at h
    split at h
    · simp only [Bool.and_eq_true, decide_eq_true_eq] at h
      obtain ⟨⟨⟨⟨⟨⟨h1, h2⟩, h3⟩, h4⟩, h5⟩, h6⟩, h7⟩ := h
      refine ptI (pt_truth (s_isi C h1 h2 h3 h4 h5 (soundE a C _ h6) h7) (fun _ => rfl)) ?_
      intro σ H Q t
      exact tru_read (by rw [← evT_tru_isi]; exact t)
    · cases h
  | .isis a ts, sc, sc0, E, X, C, e, h => by
    simp only [mT] at h
    split at h
    · simp only [Bool.and_eq_true, decide_eq_true_eq] at h
      obtain ⟨⟨⟨⟨⟨⟨h1, h2⟩, h3⟩, h4⟩, h5⟩, h6⟩, h7⟩ := h
      refine ptI (pt_truth (s_isis C h1 h2 h3 h4 (soundE a C _ h5) h6 h7) (fun _ => rfl)) ?_
      intro σ H Q t
      exact tru_read (by rw [← evT_tru_isis]; exact t)
    · cases h
  | .fld a f, sc, sc0, E, X, C, e, h => by
    have h0 : mE T n nc N sc (.fld a f) e = true := h
    have sf := soundE (.fld a f) C e h0
    simp only [mT] at h
    split at h
    · refine ptI (pt_truth sf (fun _ => rfl)) ?_
      intro σ H Q t
      exact tru_read (by rw [← evT_tru_fld]; exact t)
    · cases h
  | .bl b, sc, sc0, E, X, C, e, h => by
    simp only [mT] at h
    split at h
    · cases of_decide_eq_true h
      refine ptI (pt_val pe_bl (fun _ => rfl)) ?_
      rintro σ H Q ⟨ρ, F, pn, p, dr, fk, o⟩
      exact ⟨b, rfl, o.here fk rfl⟩
    · cases h
  | .int _, _, _, _, _, _, _, h => by cases h
  | .non, _, _, _, _, _, _, h => by cases h
  | .str _, _, _, _, _, _, _, h => by cases h
  | .con _, _, _, _, _, _, _, h => by cases h
  | .fnv _, _, _, _, _, _, _, h => by cases h
  | .bin _ _ _, _, _, _, _, _, _, h => by cases h
  | .neg _, _, _, _, _, _, _, h => by cases h
  | .ite _ _ _, _, _, _, _, _, _, h => by cases h
  | .tup _, _, _, _, _, _, _, h => by cases h
  | .lst _, _, _, _, _, _, _, h => by cases h
  | .ix _ _, _, _, _, _, _, _, h => by cases h
  | .sl _ _ _, _, _, _, _, _, _, h => by cases h
  | .mk _ _, _, _, _, _, _, _, h => by cases h
  | .comp _ _ _ _ _, _, _, _, _, _, _, h => by cases h
  | .pget _ _, _, _, _, _, _, _, h => by cases h
theorem soundEs : ∀ (xs : IEs) {sc sc0 : Scope} {E : XK} {X : Cx} (C : Ctx T S G lv n nc N sc sc0 E X) (es : List Expr), mEs T n nc N sc xs es = true → PA X es (tEs G E (evEs S xs))
  | .nil, sc, sc0, E, X, C, es, h => by
    simp only [mEs] at h
    split at h
    · exact paI pa_nil fun σ H Q ⟨ρ, F, pn, p, dr, fk, o⟩ => o.here fk .nil
    · cases h
  | .cons a r, sc, sc0, E, X, C, es, h => by
    simp only [mEs] at h
    split at h
    · simp only [Bool.and_eq_true] at h
      refine paI (pa_cons (soundE a C _ h.1.2) (soundEs r C _ h.2) (star_cons h.1.1 _)) ?_
      rintro σ H Q ⟨ρ, F, pn, p, dr, fk, o⟩
      refine ⟨ρ, F, pn, p, dr, fk, (Out.bind (rep := rD G pn) (by simpa only [evEs] using o)).imp ?_⟩
      rintro x H1 ⟨F1, p1, d, e1, s1, r1, o1⟩
      refine ⟨ρ, F1, pn, p1, dr.mono s1.same, s1.ok, (o1.bind (rep := rDs G pn)).imp ?_⟩
      rintro xs' H2 ⟨F2, p2, ds, e2, s2, r2', o2⟩
      exact o2.here s2.ok (.cons (r1.mono s2.same) r2')
    · cases h
theorem soundAnd : ∀ (xs : IEs) {sc sc0 : Scope} {E : XK} {X : Cx} (C : Ctx T S G lv n nc N sc sc0 E X) (es : List Expr) (pos : Pos), mEs T n nc N sc xs es = true → PE X (.BoolOp .And es pos) (tE G E (evAnd S xs))
  | .nil, sc, sc0, E, X, C, es, pos, h => ⟨fun pins s σ H Q I t => (tG_nil (fun _ _ => by simp only [evAnd]) t).elim⟩
  | .cons a .nil, sc, sc0, E, X, C, es, pos, h => by
    simp only [mEs] at h
    split at h
    · simp only [Bool.and_eq_true] at h
      have h2 := h.2
      split at h2
      · exact peI (pe_one (soundE a C _ h.1.2)) fun σ H Q t => by simpa only [evAnd] using t
      · cases h2
    · cases h
  | .cons a (.cons b r), sc, sc0, E, X, C, es, pos, h => by
    cases es with
    | nil => simp [mEs] at h
    | cons e1 es1 =>
      rw [mEs] at h
      simp only [Bool.and_eq_true] at h
      have ih := soundAnd (.cons b r) C es1 pos h.2
      have h2 := h.2
      simp only [mEs] at h2
      split at h2
      · refine peI (pe_andT (soundE a C _ h.1.2) ih) ?_
        rintro σ H Q ⟨ρ, F, pn, p, dr, fk, o⟩
        refine ⟨ρ, F, pn, p, dr, fk, (Out.bind (rep := rD G pn) (by simpa only [evAnd] using o)).imp ?_⟩
        rintro x H1 ⟨F1, p1, d, e1, s1, r1, o1⟩
        cases q : truth d with
        | none => rw [q] at o1; exact o1.elim
        | some k =>
          rw [q] at o1
          simp only [R.of_some, R.bind_ok] at o1
          refine ⟨k, r1.tru s1.ok.sub q, ?_⟩
          cases k with
          | true => exact ⟨ρ, F1, pn, p1, dr.mono s1.same, s1.ok, o1⟩
          | false => exact Out.here s1.ok o1 r1
      · cases h2
theorem soundOr : ∀ (xs : IEs) {sc sc0 : Scope} {E : XK} {X : Cx} (C : Ctx T S G lv n nc N sc sc0 E X) (es : List Expr) (pos : Pos), mEs T n nc N sc xs es = true → PE X (.BoolOp .Or es pos) (tE G E (evOr S xs))
  | .nil, sc, sc0, E, X, C, es, pos, h => ⟨fun pins s σ H Q I t => (tG_nil (fun _ _ => by simp only [evOr]) t).elim⟩
  | .cons a .nil, sc, sc0, E, X, C, es, pos, h => by
    simp only [mEs] at h
    split at h
    · simp only [Bool.and_eq_true] at h
      have h2 := h.2
      split at h2
      · exact peI (pe_one (soundE a C _ h.1.2)) fun σ H Q t => by simpa only [evOr] using t
      · cases h2
    · cases h
  | .cons a (.cons b r), sc, sc0, E, X, C, es, pos, h => by
    cases es with
    | nil => simp [mEs] at h
    | cons e1 es1 =>
      rw [mEs] at h
      simp only [Bool.and_eq_true] at h
      have ih := soundOr (.cons b r) C es1 pos h.2
      have h2 := h.2
      simp only [mEs] at h2
      split at h2
      · refine peI (pe_orT (soundE a C _ h.1.2) ih) ?_
        rintro σ H Q ⟨ρ, F, pn, p, dr, fk, o⟩
        refine ⟨ρ, F, pn, p, dr, fk, (Out.bind (rep := rD G pn) (by simpa only [evOr] using o)).imp ?_⟩
        rintro x H1 ⟨F1, p1, d, e1, s1, r1, o1⟩
        cases q : truth d with
        | none => rw [q] at o1; exact o1.elim
        | some k =>
          rw [q] at o1
          simp only [R.of_some, R.bind_ok] at o1
          refine ⟨k, r1.tru s1.ok.sub q, ?_⟩
          cases k with
          | true => exact Out.here s1.ok o1 r1
          | false => exact ⟨ρ, F1, pn, p1, dr.mono s1.same, s1.ok, o1⟩
      · cases h2
theorem soundAndT : ∀ (xs : IEs) {sc sc0 : Scope} {E : XK} {X : Cx} (C : Ctx T S G lv n nc N sc sc0 E X) (es : List Expr) (pos : Pos), mTs T n nc N sc xs es = true → es ≠ [] → PW X (.BoolOp .And es pos) (tT G E (evAndT S xs))
  | .nil, sc, sc0, E, X, C, es, pos, h, hne => by
    cases es with
    | nil => exact absurd rfl hne
    | cons e1 es1 => simp [mTs] at h
  | .cons a r, sc, sc0, E, X, C, es, pos, h, hne => by
    simp only [mTs] at h
    split at h
    · rename_i e1 es1
      simp only [Bool.and_eq_true] at h
      have sa := soundT a C _ h.1
      cases es1 with
      | nil =>
        have er : r = .nil := by
          cases r with
          | nil => rfl
          | cons _ _ => have := h.2; simp [mTs] at this
        subst er
        refine pwI (pw_and1 sa) ?_
        rintro σ H Q ⟨ρ, F, pn, p, dr, fk, o⟩
        refine ⟨ρ, F, pn, p, dr, fk, (Out.bind (rep := rB) (by simpa only [evAndT] using o)).imp ?_⟩
        rintro k H1 ⟨F1, p1, k', e1, s1, rfl, o1⟩
        cases k with
        | true => exact Out.here s1.ok o1 rfl
        | false => exact Out.here s1.ok o1 rfl
      | cons e2 es2 =>
        have ih := soundAndT r C (e2 :: es2) pos h.2 (by simp)
        refine pwI (pw_and sa ih) ?_
        rintro σ H Q ⟨ρ, F, pn, p, dr, fk, o⟩
        refine ⟨ρ, F, pn, p, dr, fk, (Out.bind (rep := rB) (by simpa only [evAndT] using o)).imp ?_⟩
        rintro k H1 ⟨F1, p1, k', e1, s1, rfl, o1⟩
        cases k with
        | true => exact ⟨ρ, F1, pn, p1, dr.mono s1.same, s1.ok, o1⟩
        | false => exact Out.here s1.ok o1 rfl
    · cases h
theorem soundOrT : ∀ (xs : IEs) {sc sc0 : Scope} {E : XK} {X : Cx} (C : Ctx T S G lv n nc N sc sc0 E X) (es : List Expr) (pos : Pos), mTs T n nc N sc xs es = true → es ≠ [] → PW X (.BoolOp .Or es pos) (tT G E (evOrT S xs))
  | .nil, sc, sc0, E, X, C, es, pos, h, hne => by
    cases es with
    | nil => exact absurd rfl hne
    | cons e1 es1 => simp [mTs] at h
  | .cons a r, sc, sc0, E, X, C, es, pos, h, hne => by
    simp only [mTs] at h
    split at h
    · rename_i e1 es1
      simp only [Bool.and_eq_true] at h
      have sa := soundT a C _ h.1
      cases es1 with
      | nil =>
        have er : r = .nil := by
          cases r with
          | nil => rfl
          | cons _ _ => have := h.2; simp [mTs] at this
        subst er
        refine pwI (pw_or1 sa) ?_
        rintro σ H Q ⟨ρ, F, pn, p, dr, fk, o⟩
        refine ⟨ρ, F, pn, p, dr, fk, (Out.bind (rep := rB) (by simpa only [evOrT] using o)).imp ?_⟩
        rintro k H1 ⟨F1, p1, k', e1, s1, rfl, o1⟩
        cases k with
        | true => exact Out.here s1.ok o1 rfl
        | false => exact Out.here s1.ok o1 rfl
      | cons e2 es2 =>
        have ih := soundOrT r C (e2 :: es2) pos h.2 (by simp)
        refine pwI (pw_or sa ih) ?_
        rintro σ H Q ⟨ρ, F, pn, p, dr, fk, o⟩
        refine ⟨ρ, F, pn, p, dr, fk, (Out.bind (rep := rB) (by simpa only [evOrT] using o)).imp ?_⟩
        rintro k H1 ⟨F1, p1, k', e1, s1, rfl, o1⟩
        cases k with
        | true => exact Out.here s1.ok o1 rfl
        | false => exact ⟨ρ, F1, pn, p1, dr.mono s1.same, s1.ok, o1⟩
    · cases h
theorem soundTs : ∀ (xs : IEs) {sc sc0 : Scope} {E : XK} {X : Cx} (C : Ctx T S G lv n nc N sc sc0 E X) (es : List Expr), mTs T n nc N sc xs es = true → es.length ≤ 1 → PTs X es (tT G E (evAndT S xs))
  | .nil, sc, sc0, E, X, C, es, h, hl => by
    simp only [mTs] at h
    split at h
    · refine ⟨fun pins s σ H Q I ⟨ρ, F, pn, p, dr, fk, o⟩ => (pts_nil (X := X)).run pins s σ H Q I ?_⟩
      exact Out.here fk (by simpa only [evAndT] using o) rfl
    · cases h
  | .cons a r, sc, sc0, E, X, C, es, h, hl => by
    simp only [mTs] at h
    split at h
    · rename_i e1 es1
      simp only [Bool.and_eq_true] at h
      have sa := soundT a C _ h.1
      cases es1 with
      | nil =>
        have er : r = .nil := by
          cases r with
          | nil => rfl
          | cons _ _ => have := h.2; simp [mTs] at this
        subst er
        have z := pts_one sa
        refine ⟨fun pins s σ H Q I ⟨ρ, F, pn, p, dr, fk, o⟩ => z.run pins s σ H Q I ?_⟩
        refine ⟨ρ, F, pn, p, dr, fk, (Out.bind (rep := rB) (by simpa only [evAndT] using o)).imp ?_⟩
        rintro k H1 ⟨F1, p1, k', e1, s1, rfl, o1⟩
        cases k with
        | true => exact Out.here s1.ok o1 rfl
        | false => exact Out.here s1.ok o1 rfl
      | cons e2 es2 => simp at hl
    · cases h
theorem soundO : ∀ (x : IO) {sc sc0 : Scope} {E : XK} {X : Cx} (C : Ctx T S G lv n nc N sc sc0 E X) (o : Option Expr), mO T n nc N sc x o = true → PO X o (tO G E (evO S x))
  | .no, sc, sc0, E, X, C, o, h => by
    simp only [mO] at h
    split at h
    · exact poI po_none fun σ H Q ⟨ρ, F, pn, p, dr, fk, o⟩ => Out.here fk (by simpa only [evO] using o) rfl
    · cases h
  | .so a, sc, sc0, E, X, C, o, h => by
    simp only [mO] at h
    split at h
    · refine poI (po_some (soundE a C _ h)) ?_
      rintro σ H Q ⟨ρ, F, pn, p, dr, fk, o⟩
      refine ⟨ρ, F, pn, p, dr, fk, (Out.bind (rep := rD G pn) (by simpa only [evO] using o)).imp ?_⟩
      rintro x H1 ⟨F1, p1, d, e1, s1, r1, o1⟩
      obtain ⟨w, ew, o2⟩ := o1.ofH
      cases d <;> simp only [asInt, Option.map_some, Option.map_none] at ew <;> cases ew
      cases r1
      exact ⟨_, rfl, o2.here s1.ok rfl⟩
    · cases h
theorem soundI : ∀ (x : II) {sc sc0 : Scope} {E : XK} {X : Cx} (C : Ctx T S G lv n nc N sc sc0 E X) (t e : Expr), mI T n nc N sc x t e = true → PI X t e (tI G E (evI S x))
  | .seq a, sc, sc0, E, X, C, t, e, h => by
    have sa := soundE a C e h
    exact s_seq C sa
  | .rng1 a, sc, sc0, E, X, C, t, e, h => by
    simp only [mI] at h
    split at h
    · simp only [Bool.and_eq_true, decide_eq_true_eq] at h
      obtain ⟨⟨⟨⟨h1, h2⟩, rfl⟩, h4⟩, h5⟩ := h
      exact s_rng1 C h1 h4 (soundE a C _ h5)
    · cases h
  | .rng2 a b, sc, sc0, E, X, C, t, e, h => by
    simp only [mI] at h
    split at h
    · simp only [Bool.and_eq_true, decide_eq_true_eq] at h
      obtain ⟨⟨⟨⟨⟨⟨h1, h2⟩, rfl⟩, h4⟩, h5⟩, h6⟩, h7⟩ := h
      exact s_rng2 C h1 h4 h5 (soundE a C _ h6) (soundE b C _ h7)
    · cases h
  | .zip a b, sc, sc0, E, X, C, t, e, h => by
    simp only [mI] at h
    split at h
    · simp only [Bool.and_eq_true, decide_eq_true_eq] at h
      obtain ⟨⟨⟨⟨⟨⟨⟨h0, h1⟩, h2⟩, rfl⟩, h4⟩, h5⟩, h6⟩, h7⟩ := h
      exact s_zip C h0 h1 h4 h5 (soundE a C _ h6) (soundE b C _ h7)
    · cases h
  | .enum a, sc, sc0, E, X, C, t, e, h => by
    simp only [mI] at h
    split at h
    · simp only [Bool.and_eq_true, decide_eq_true_eq] at h
      obtain ⟨⟨⟨⟨⟨h0, h1⟩, h2⟩, rfl⟩, h4⟩, h5⟩ := h
      exact s_enum C h0 h1 h4 (soundE a C _ h5)
    · cases h
end
end
end Mi

set_option Elab.async false
set_option linter.all false
set_option maxRecDepth 100000
set_option maxHeartbeats 4000000
namespace Mi
open PySem PySem.Spec PyProof.Rows L2
/-! ### statements against the text -/
def ncomp : Expr → Bool
  | .ListComp _ _ _ _ => false
  | .SetComp _ _ _ _ => false
  | .DictComp _ _ _ _ _ => false
  | _ => true
/-- a comprehension that is stored as it is made -/
def compSw (sc : Scope) (x : Str) (p' : Pos) : Expr → Bool
  | .ListComp _ _ scope pos => decide (sc.names.lookup x = some .local) && decide (p'.line = pos.line) && !(scope.names.any fun (n, k) => n == x && (k == .local || k == .cell))
  | _ => false
/-- one that is not -/
def compNo (sc : Scope) (x : Str) : Expr → Bool
  | .ListComp _ _ _ _ => decide (sc.names.lookup x = some .cell)
  | e => ncomp e
def nTup : Expr → Bool
  | .Tuple _ _ _ => false
  | .List _ _ => false
  | _ => true
def foldT : Expr → Bool
  | .Tuple es _ _ => es.all (foldedForSure 8)
  | _ => false
/-- some name is not a plain local -/
def cellT (sc : Scope) (es : List Expr) : Bool := es.any fun
  | .Name x _ => !decide (sc.names.lookup x = some .local)
  | _ => true
/-- forms that make a new list -/
def frsh : IE → Bool
  | .lst _ => true
  | .blt .list _ => true
  | .comp _ _ _ _ _ => true
  | _ => false
/-- a, b = x, y that is no unpacking -/
def swp2 (sc : Scope) (p1 p2 : Pos) (x y : Str) (a b : Expr) : Bool :=
  decide (sc.names.lookup x = some .local) && decide (sc.names.lookup y = some .local) && decide (p1.line = p2.line) && decide (x ≠ y) && nst a && nst b && !([a, b].all (foldedForSure 8)) && !([a, b].all (constantsAlone 8))
section
variable (T : Tab) (n nc : Nat → Bool) (N : List Str)
mutual
def mS (sc : Scope) : IS → Stmt → Bool
  | .asg i e, st => match st with
    | .Assign [.Name x p'] v _ => decide (N[i]? = some x) && locB sc x && okN x && mE T n nc N sc e v && (compNo sc x v || compSw sc x p' v)
    | _ => false
  | .asgB i e, st => match st with
    | .Assign [.Name x _] v _ => decide (N[i]? = some x) && locB sc x && okN x && mE T n nc N sc e v && compNo sc x v
    | _ => false
  | .own i e, st => match st with
    | .Assign [.Name x p'] v _ => frsh e && decide (N[i]? = some x) && locB sc x && okN x && mE T n nc N sc e v && (compNo sc x v || compSw sc x p' v)
    | _ => false
  | .par i j a b, st => match st with
    | .Assign [.Tuple [.Name x p1, .Name y p2] _ _] (.Tuple [v, u] _ _) _ => decide (N[i]? = some x) && decide (N[j]? = some y) && decide (i ≠ j) && mE T n nc N sc a v && mE T n nc N sc b u && swp2 sc p1 p2 x y v u
    | _ => false
  | .unp is e, st => match st with
    | .Assign [.Tuple es k p'] v _ => mNms N sc is es && mE T n nc N sc e v && (nTup v || foldT v || cellT sc es)
    | _ => false
  | .app i e, st => match st with
    | .Expr (.Call (.Attribute (.Name x _) f ap) [v] [] cp) _ => decide (N[i]? = some x) && visB sc x && okN x && decide (f = ("append" : Str)) && nst v && (ap.endLine == cp.line) && mE T n nc N sc e v
    | _ => false
  | .appB i e, st => match st with
    | .Expr (.Call (.Attribute (.Name x _) f ap) [v] [] cp) _ => decide (N[i]? = some x) && visB sc x && okN x && decide (f = ("append" : Str)) && nst v && (ap.endLine == cp.line) && mE T n nc N sc e v
    | _ => false
  | .setf i f e, st => match st with
    | .Assign [.Attribute (.Name x _) g _] v _ => decide (N[i]? = some x) && visB sc x && okN x && decide (f = g) && mE T n nc N sc e v
    | _ => false
  | .pset f e a, st => match st with
    | .Assign [.Subscript y (.Constant (.str g) _ _) _] v _ => decide (f = g) && mE T n nc N sc e v && mE T n nc N sc a y
    | _ => false
  | .drop e, st => match st with
    | .Expr v _ => ncomp v && mE T n nc N sc e v
    | _ => false
  | .iff c a b, st => match st with
    | .If t x y _ => mT T n nc N sc c t && mSs sc a x && mSs sc b y
    | _ => false
  | .whl c b, st => match st with
    | .While t x [] _ => mT T n nc N sc c t && mSs sc b x
    | _ => false
  | .for_ tg it b, st => match st with
    | .For t i x [] _ => nset i && mTg N sc tg t && mI T n nc N sc it t i && mSs sc b x
    | _ => false
  | .ret e, st => match st with
    | .Return (some v) _ => mE T n nc N sc e v
    | _ => false
  | .retN, st => match st with
    | .Return none _ => true
    | _ => false
  | .brk, st => match st with
    | .Break _ => true
    | _ => false
  | .cnt, st => match st with
    | .Continue _ => true
    | _ => false
  | .pas, st => match st with
    | .Pass _ => true
    | _ => false
  | .nvr, _ => true
def mSs (sc : Scope) : ISs → List Stmt → Bool
  | .nil, sts => match sts with
    | [] => true
    | _ => false
  | .cons a r, sts => match sts with
    | st :: sts => mS sc a st && mSs sc r sts
    | _ => false
  | .frz _ r, sts => mSs sc r sts
end
end

/-! ### where a body stands -/
structure Since (M : Addr → Prop) (F0 H0 F H : Hp) : Prop where
  keep : ∀ a o, ¬ M a → H0 a = some o → H a = some o
  there : ∀ a, H a = none → H0 a = none
  same : Same F0 F
  new : ∀ a, F a ≠ none → F0 a ≠ none ∨ H0 a = none
structure SR (G : Ad) (M : Addr → Prop) (F0 H0 : Hp) (pn : PN) (σ : L2.St) (H : Hp) (ρ : SEnv) (F : Hp) (p : PenS) : Prop where
  len : σ.length = ρ.length
  dat : ∀ (i : Nat) d, ρ[i]? = some (.d d) → ∃ v, σ[i]? = some (some v) ∧ Rep G pn F v d
  own : ∀ (i : Nat) xs, ρ[i]? = some (.o xs) → ∃ a vs, σ[i]? = some (some (.ref a)) ∧ H a = some (.lst vs) ∧ Reps G pn F vs xs ∧ F a = none ∧ H0 a = none
  inj : ∀ (i j : Nat) xs ys a, ρ[i]? = some (.o xs) → ρ[j]? = some (.o ys) → σ[i]? = some (some (.ref a)) → σ[j]? = some (some (.ref a)) → i = j
  mak : ∀ (i : Nat) c fs, ρ[i]? = some (.w c fs) → ∃ a dx vs, σ[i]? = some (some (.ref a)) ∧ H a = some (.ins (G.cls c) dx (((G.att c).take fs.length).zip vs)) ∧ vs.length = fs.length ∧ fs.length ≤ (G.att c).length ∧ Reps G pn F vs fs ∧ F a = none ∧ M a ∧ c < G.nc
  one : ∀ (i j : Nat) c fs c' fs', ρ[i]? = some (.w c fs) → ρ[j]? = some (.w c' fs') → i = j
  since : Since M F0 H0 F H
  ok : FOk F H pn p
  mp : ∀ a, IsPen pn a → M a
section
variable {G : Ad} {M : Addr → Prop} {F0 H0 F H F' H' : Hp} {pn : PN} {σ : L2.St} {ρ : SEnv} {p p' : PenS}
theorem FOk.penK (h : FOk F H pn p) {a : Addr} (q : IsPen pn a) : ∃ kvs, H a = some (.dK kvs) := by
  obtain ⟨ca, rfl⟩ := q
  have z := h.pen
  cases p with
  | none => exact z.elim
  | some st => exact ⟨_, z.2.1⟩
theorem SR.lst_np (s : SR G M F0 H0 pn σ H ρ F p) {a : Addr} {vs : List V} (h : H a = some (.lst vs)) : ¬ IsPen pn a := fun q => by
  obtain ⟨kvs, e⟩ := s.ok.penK q
  rw [h] at e; cases e
theorem SR.ins_np (s : SR G M F0 H0 pn σ H ρ F p) {a C dx : Addr} {fs : List (Str × V)} (h : H a = some (.ins C dx fs)) : ¬ IsPen pn a := fun q => by
  obtain ⟨kvs, e⟩ := s.ok.penK q
  rw [h] at e; cases e
theorem Since.step (s : Since M F0 H0 F H) (mp : ∀ a, IsPen pn a → M a) (t : Step pn p' F H F' H') : Since M F0 H0 F' H' where
  keep := fun a o n e => t.keep a o (fun q => n (mp a q)) (s.keep a o n e)
  there := fun a e => s.there a (t.there a e)
  same := s.same.trans t.same
  new := fun a e => by
    rcases t.new a e with z | z
    · exact s.new a z
    · exact .inr (s.there a z)
theorem Step.still (t : Step pn p' F H F' H') {a : Addr} (hF : F a = none) (hH : H a ≠ none) : F' a = none := by
  cases q : F' a with
  | none => rfl
  | some z =>
    rcases t.new a (by rw [q]; simp) with w | w
    · exact absurd hF w
    · exact absurd w hH
theorem SR.step (s : SR G M F0 H0 pn σ H ρ F p) (t : Step pn p' F H F' H') : SR G M F0 H0 pn σ H' ρ F' p' where
  len := s.len
  dat := fun i d e => let ⟨v, h1, h2⟩ := s.dat i d e; ⟨v, h1, h2.mono t.same⟩
  own := fun i xs e => by
    obtain ⟨a, vs, h1, h2, h3, h4, h5⟩ := s.own i xs e
    exact ⟨a, vs, h1, t.keep _ _ (s.lst_np h2) h2, h3.mono t.same, t.still h4 (by rw [h2]; simp), h5⟩
  inj := s.inj
  mak := fun i c fs e => by
    obtain ⟨a, dx, vs, h1, h2, h3, h4, h5, h6, h7, h8⟩ := s.mak i c fs e
    exact ⟨a, dx, vs, h1, t.keep _ _ (s.ins_np h2) h2, h3, h4, h5.mono t.same, t.still h6 (by rw [h2]; simp), h7, h8⟩
  one := s.one
  since := s.since.step s.mp t
  ok := t.ok
  mp := s.mp
theorem SR.dr (s : SR G M F0 H0 pn σ H ρ F p) : DR G pn σ (see ρ) F := by
  refine ⟨by rw [List.length_map]; exact s.len, fun i d e => ?_⟩
  rw [List.getElem?_map] at e
  cases q : ρ[i]? with
  | none => rw [q] at e; cases e
  | some z =>
    rw [q] at e
    cases z with
    | d x => cases e; exact s.dat i d q
    | _ => cases e
/-- data in a slot -/
theorem SR.set (s : SR G M F0 H0 pn σ H ρ F p) {v : V} {d : D} (r : Rep G pn F v d) (i : Nat) : SR G M F0 H0 pn (σ.set i (some v)) H (ρ.set i (.d d)) F p where
  len := by rw [List.length_set, List.length_set]; exact s.len
  dat := fun j e q => by
    by_cases hj : i = j
    · subst hj
      by_cases hl : i < ρ.length
      · rw [List.getElem?_set_self hl] at q
        cases q
        exact ⟨v, List.getElem?_set_self (by rw [s.len]; exact hl), r⟩
      · rw [List.getElem?_eq_none (by simpa using hl)] at q; cases q
    · rw [List.getElem?_set_ne hj] at q ⊢
      exact s.dat j e q
  own := fun j xs q => by
    by_cases hj : i = j
    · subst hj
      by_cases hl : i < ρ.length
      · rw [List.getElem?_set_self hl] at q; cases q
      · rw [List.getElem?_eq_none (by simpa using hl)] at q; cases q
    · rw [List.getElem?_set_ne hj] at q ⊢
      exact s.own j xs q
  inj := fun j k xs ys a h1 h2 h3 h4 => by
    by_cases hj : i = j
    · subst hj
      by_cases hl : i < ρ.length
      · rw [List.getElem?_set_self hl] at h1; cases h1
      · rw [List.getElem?_eq_none (by simpa using hl)] at h1; cases h1
    · by_cases hk : i = k
      · subst hk
        by_cases hl : i < ρ.length
        · rw [List.getElem?_set_self hl] at h2; cases h2
        · rw [List.getElem?_eq_none (by simpa using hl)] at h2; cases h2
      · rw [List.getElem?_set_ne hj] at h1 h3
        rw [List.getElem?_set_ne hk] at h2 h4
        exact s.inj j k xs ys a h1 h2 h3 h4
  mak := fun j c fs q => by
    by_cases hj : i = j
    · subst hj
      by_cases hl : i < ρ.length
      · rw [List.getElem?_set_self hl] at q; cases q
      · rw [List.getElem?_eq_none (by simpa using hl)] at q; cases q
    · rw [List.getElem?_set_ne hj] at q ⊢
      exact s.mak j c fs q
  one := fun j k c fs c' fs' h1 h2 => by
    by_cases hj : i = j
    · subst hj
      by_cases hl : i < ρ.length
      · rw [List.getElem?_set_self hl] at h1; cases h1
      · rw [List.getElem?_eq_none (by simpa using hl)] at h1; cases h1
    · by_cases hk : i = k
      · subst hk
        by_cases hl : i < ρ.length
        · rw [List.getElem?_set_self hl] at h2; cases h2
        · rw [List.getElem?_eq_none (by simpa using hl)] at h2; cases h2
      · rw [List.getElem?_set_ne hj] at h1
        rw [List.getElem?_set_ne hk] at h2
        exact s.one j k c fs c' fs' h1 h2
  since := s.since
  ok := s.ok
  mp := s.mp
/-- a list of one's own in a slot: new, or changed at its place -/
theorem SR.setO (s : SR G M F0 H0 pn σ H ρ F p) {a : Addr} {vs : List V} {xs : List D} (i : Nat) (hr : Reps G pn F vs xs) (hF : F a = none) (h0 : H0 a = none) (hp : ¬ IsPen pn a)
    (hne : ∀ (j : Nat) ys, j ≠ i → ρ[j]? = some (.o ys) → σ[j]? ≠ some (some (.ref a))) (hmk : ∀ (j : Nat) c fs, ρ[j]? = some (.w c fs) → σ[j]? ≠ some (some (.ref a))) :
    SR G M F0 H0 pn (σ.set i (some (.ref a))) (upd H a (.lst vs)) (ρ.set i (.o xs)) F p where
  len := by rw [List.length_set, List.length_set]; exact s.len
  dat := fun j e q => by
    by_cases hj : i = j
    · subst hj
      by_cases hl : i < ρ.length
      · rw [List.getElem?_set_self hl] at q; cases q
      · rw [List.getElem?_eq_none (by simpa using hl)] at q; cases q
    · rw [List.getElem?_set_ne hj] at q ⊢
      exact s.dat j e q
  own := fun j ys q => by
    by_cases hj : i = j
    · subst hj
      by_cases hl : i < ρ.length
      · rw [List.getElem?_set_self hl] at q
        cases q
        exact ⟨a, vs, List.getElem?_set_self (by rw [s.len]; exact hl), upd_same, hr, hF, h0⟩
      · rw [List.getElem?_eq_none (by simpa using hl)] at q; cases q
    · rw [List.getElem?_set_ne hj] at q ⊢
      obtain ⟨b, ws, h1, h2, h3, h4, h5⟩ := s.own j ys q
      have hb : b ≠ a := fun e => hne j ys (Ne.symm hj) q (by rw [h1, e])
      exact ⟨b, ws, h1, by rw [upd_ne hb]; exact h2, h3, h4, h5⟩
  inj := fun j k ys zs b h1 h2 h3 h4 => by
    by_cases hj : i = j
    · by_cases hk : i = k
      · exact hj.symm.trans hk
      · subst hj
        by_cases hl : i < ρ.length
        · rw [List.getElem?_set_self (by rw [s.len]; exact hl)] at h3
          cases h3
          rw [List.getElem?_set_ne hk] at h2 h4
          exact absurd h4 (hne k zs (Ne.symm hk) h2)
        · rw [List.getElem?_eq_none (by simpa using hl)] at h1; cases h1
    · by_cases hk : i = k
      · subst hk
        by_cases hl : i < ρ.length
        · rw [List.getElem?_set_self (by rw [s.len]; exact hl)] at h4
          cases h4
          rw [List.getElem?_set_ne hj] at h1 h3
          exact absurd h3 (hne j ys (Ne.symm hj) h1)
        · rw [List.getElem?_eq_none (by simpa using hl)] at h2; cases h2
      · rw [List.getElem?_set_ne hj] at h1 h3
        rw [List.getElem?_set_ne hk] at h2 h4
        exact s.inj j k ys zs b h1 h2 h3 h4
  mak := fun j c fs q => by
    by_cases hj : i = j
    · subst hj
      by_cases hl : i < ρ.length
      · rw [List.getElem?_set_self hl] at q; cases q
      · rw [List.getElem?_eq_none (by simpa using hl)] at q; cases q
    · rw [List.getElem?_set_ne hj] at q ⊢
      obtain ⟨b, dx, ws, h1, h2, h3⟩ := s.mak j c fs q
      have hb : b ≠ a := fun e => hmk j c fs q (by rw [h1, e])
      exact ⟨b, dx, ws, h1, by rw [upd_ne hb]; exact h2, h3⟩
  one := fun j k c fs c' fs' h1 h2 => by
    by_cases hj : i = j
    · subst hj
      by_cases hl : i < ρ.length
      · rw [List.getElem?_set_self hl] at h1; cases h1
      · rw [List.getElem?_eq_none (by simpa using hl)] at h1; cases h1
    · by_cases hk : i = k
      · subst hk
        by_cases hl : i < ρ.length
        · rw [List.getElem?_set_self hl] at h2; cases h2
        · rw [List.getElem?_eq_none (by simpa using hl)] at h2; cases h2
      · rw [List.getElem?_set_ne hj] at h1
        rw [List.getElem?_set_ne hk] at h2
        exact s.one j k c fs c' fs' h1 h2
  since := ⟨fun b o n e => by rw [upd_ne (ne_of_none e h0)]; exact s.since.keep b o n e, fun b e => by
    by_cases hb : b = a
    · subst hb; exact h0
    · rw [upd_ne hb] at e; exact s.since.there b e, s.since.same, s.since.new⟩
  ok := s.ok.other hF hp
  mp := s.mp
/-- a field more -/
theorem SR.setW (s : SR G M F0 H0 pn σ H ρ F p) {i c : Nat} {fs : List D} {a dx : Addr} {vs : List V} {v : V} {d : D} (hi : ρ[i]? = some (.w c fs)) (hσ : σ[i]? = some (some (.ref a))) (hr : Rep G pn F v d) (hrs : Reps G pn F vs fs)
    (hl : fs.length + 1 ≤ (G.att c).length) (hF : F a = none) (hm : M a) (hp : ¬ IsPen pn a) (hH : ∃ fl, H a = some (.ins (G.cls c) dx fl)) (hc : c < G.nc) :
    SR G M F0 H0 pn σ (upd H a (.ins (G.cls c) dx (((G.att c).take (fs ++ [d]).length).zip (vs ++ [v])))) (ρ.set i (.w c (fs ++ [d]))) F p := by
  obtain ⟨fl, hH⟩ := hH
  have hil : i < ρ.length := (List.getElem?_eq_some_iff.mp hi).1
  exact {
    len := by rw [List.length_set]; exact s.len
    dat := fun j e q => by
      by_cases hj : i = j
      · subst hj; rw [List.getElem?_set_self hil] at q; cases q
      · rw [List.getElem?_set_ne hj] at q; exact s.dat j e q
    own := fun j ys q => by
      by_cases hj : i = j
      · subst hj; rw [List.getElem?_set_self hil] at q; cases q
      · rw [List.getElem?_set_ne hj] at q
        obtain ⟨b, ws, h1, h2, h3⟩ := s.own j ys q
        have hb : b ≠ a := fun e => by rw [e, hH] at h2; cases h2
        exact ⟨b, ws, h1, by rw [upd_ne hb]; exact h2, h3⟩
    inj := fun j k ys zs b h1 h2 h3 h4 => by
      by_cases hj : i = j
      · subst hj; rw [List.getElem?_set_self hil] at h1; cases h1
      · by_cases hk : i = k
        · subst hk; rw [List.getElem?_set_self hil] at h2; cases h2
        · rw [List.getElem?_set_ne hj] at h1
          rw [List.getElem?_set_ne hk] at h2
          exact s.inj j k ys zs b h1 h2 h3 h4
    mak := fun j c' fs' q => by
      by_cases hj : i = j
      · subst hj
        rw [List.getElem?_set_self hil] at q
        cases q
        exact ⟨a, dx, vs ++ [v], hσ, upd_same, by rw [List.length_append, List.length_append, hrs.length]; rfl, by rw [List.length_append]; exact hl, hrs.append (.cons hr .nil), hF, hm, hc⟩
      · rw [List.getElem?_set_ne hj] at q
        exact absurd (s.one i j _ _ _ _ hi q) hj
    one := fun j k c1 f1 c2 f2 h1 h2 => by
      by_cases hj : i = j
      · by_cases hk : i = k
        · exact hj.symm.trans hk
        · rw [List.getElem?_set_ne hk] at h2
          exact absurd (s.one i k _ _ _ _ hi h2) hk
      · rw [List.getElem?_set_ne hj] at h1
        exact absurd (s.one i j _ _ _ _ hi h1) hj
    since := ⟨fun b o n e => by rw [upd_ne (fun z => n (by rw [z]; exact hm))]; exact s.since.keep b o n e, fun b e => by
      by_cases hb : b = a
      · subst hb; rw [upd_same] at e; cases e
      · rw [upd_ne hb] at e; exact s.since.there b e, s.since.same, s.since.new⟩
    ok := s.ok.other hF hp
    mp := s.mp }
/-- one's own list is let go: data from now on -/
theorem SR.frz (s : SR G M F0 H0 pn σ H ρ F p) {i : Nat} {xs : List D} (hi : ρ[i]? = some (.o xs)) : ∃ F', SR G M F0 H0 pn σ H (ρ.set i (.d (.lst xs))) F' p := by
  obtain ⟨a, vs, h1, h2, h3, h4, h5⟩ := s.own i xs hi
  have hp := s.lst_np h2
  have hil : i < ρ.length := (List.getElem?_eq_some_iff.mp hi).1
  have sm : Same F (upd F a (.lst vs)) := same_upd h4
  refine ⟨upd F a (.lst vs), ?_⟩
  exact {
    len := by rw [List.length_set]; exact s.len
    dat := fun j e q => by
      by_cases hj : i = j
      · subst hj
        rw [List.getElem?_set_self hil] at q
        cases q
        exact ⟨.ref a, h1, .lst upd_same (h3.mono sm)⟩
      · rw [List.getElem?_set_ne hj] at q
        obtain ⟨v, q1, q2⟩ := s.dat j e q
        exact ⟨v, q1, q2.mono sm⟩
    own := fun j ys q => by
      by_cases hj : i = j
      · subst hj; rw [List.getElem?_set_self hil] at q; cases q
      · rw [List.getElem?_set_ne hj] at q
        obtain ⟨b, ws, q1, q2, q3, q4, q5⟩ := s.own j ys q
        have hb : b ≠ a := fun e => hj (s.inj i j xs ys a hi q h1 (by rw [q1, e]))
        exact ⟨b, ws, q1, q2, q3.mono sm, by rw [upd_ne hb]; exact q4, q5⟩
    inj := fun j k ys zs b q1 q2 q3 q4 => by
      by_cases hj : i = j
      · subst hj; rw [List.getElem?_set_self hil] at q1; cases q1
      · by_cases hk : i = k
        · subst hk; rw [List.getElem?_set_self hil] at q2; cases q2
        · rw [List.getElem?_set_ne hj] at q1
          rw [List.getElem?_set_ne hk] at q2
          exact s.inj j k ys zs b q1 q2 q3 q4
    mak := fun j c fs q => by
      by_cases hj : i = j
      · subst hj; rw [List.getElem?_set_self hil] at q; cases q
      · rw [List.getElem?_set_ne hj] at q
        obtain ⟨b, dx, ws, q1, q2, q3, q4, q5, q6, q7⟩ := s.mak j c fs q
        have hb : b ≠ a := fun e => by rw [e, h2] at q2; cases q2
        exact ⟨b, dx, ws, q1, q2, q3, q4, q5.mono sm, by rw [upd_ne hb]; exact q6, q7⟩
    one := fun j k c1 f1 c2 f2 q1 q2 => by
      by_cases hj : i = j
      · subst hj; rw [List.getElem?_set_self hil] at q1; cases q1
      · by_cases hk : i = k
        · subst hk; rw [List.getElem?_set_self hil] at q2; cases q2
        · rw [List.getElem?_set_ne hj] at q1
          rw [List.getElem?_set_ne hk] at q2
          exact s.one j k c1 f1 c2 f2 q1 q2
    since := ⟨s.since.keep, s.since.there, s.since.same.trans sm, fun b e => by
      by_cases hb : b = a
      · subst hb; exact .inr h5
      · rw [upd_ne hb] at e; exact s.since.new b e⟩
    ok := Step.more s.ok h4 h2 hp
    mp := s.mp }

/-! ### one's own lists lent -/
open Classical in
/-- the data's heap and one's own lists -/
noncomputable def lend (σ : L2.St) (ρ : SEnv) (F H : Hp) : Hp := fun a => if ∃ (i : Nat) (xs : List D), ρ[i]? = some (Sl.o xs) ∧ σ[i]? = some (some (V.ref a)) then H a else F a
open Classical in
/-- without one's own -/
noncomputable def back (σ : L2.St) (ρ : SEnv) (F : Hp) : Hp := fun a => if ∃ (i : Nat) (xs : List D), ρ[i]? = some (Sl.o xs) ∧ σ[i]? = some (some (V.ref a)) then none else F a
theorem lend_same (s : SR G M F0 H0 pn σ H ρ F p) : Same F (lend σ ρ F H) := fun a o e => by
  unfold lend
  split
  · rename_i q
    obtain ⟨i, xs, q1, q2⟩ := q
    obtain ⟨b, vs, h1, h2, h3, h4, h5⟩ := s.own i xs q1
    rw [q2] at h1; cases h1
    rw [e] at h4; cases h4
  · exact e
theorem lend_ok (s : SR G M F0 H0 pn σ H ρ F p) : FOk (lend σ ρ F H) H pn p := by
  refine ⟨fun a o e => ?_, ?_⟩
  · unfold lend at e
    split at e
    · exact e
    · exact s.ok.sub a o e
  · have z := s.ok.pen
    cases pn with
    | none => cases p with | none => trivial | some _ => exact z.elim
    | some q =>
      obtain ⟨pa, ca⟩ := q
      cases p with
      | none => exact z.elim
      | some st =>
        obtain ⟨z1, z2, z3⟩ := z
        refine ⟨?_, z2, lend_same s _ _ z3⟩
        unfold lend
        split
        · rename_i q
          obtain ⟨i, xs, q1, q2⟩ := q
          obtain ⟨b, vs, h1, h2, h3, h4, h5⟩ := s.own i xs q1
          rw [q2] at h1; cases h1
          rw [z2] at h2; cases h2
        · exact z1
theorem SR.drB (s : SR G M F0 H0 pn σ H ρ F p) : DR G pn σ (seeB ρ) (lend σ ρ F H) := by
  refine ⟨by rw [List.length_map]; exact s.len, fun i d e => ?_⟩
  rw [List.getElem?_map] at e
  cases q : ρ[i]? with
  | none => rw [q] at e; cases e
  | some z =>
    rw [q] at e
    cases z with
    | d x =>
      cases e
      obtain ⟨v, h1, h2⟩ := s.dat i d q
      exact ⟨v, h1, h2.mono (lend_same s)⟩
    | o xs =>
      cases e
      obtain ⟨a, vs, h1, h2, h3, h4, h5⟩ := s.own i xs q
      refine ⟨.ref a, h1, .lst ?_ (h3.mono (lend_same s))⟩
      unfold lend
      rw [if_pos ⟨i, xs, q, h1⟩]
      exact h2
    | _ => cases e
/-- behind a piece that was lent them -/
theorem SR.stepB (s : SR G M F0 H0 pn σ H ρ F p) (t : Step pn p' (lend σ ρ F H) H F' H') : SR G M F0 H0 pn σ H' ρ (back σ ρ F') p' ∧ Since M F0 H0 F' H' := by
  have ownF : ∀ {a : Addr}, (∃ (i : Nat) (xs : List D), ρ[i]? = some (Sl.o xs) ∧ σ[i]? = some (some (V.ref a))) → F a = none ∧ H0 a = none ∧ ∃ vs, H a = some (.lst vs) := fun {a} q => by
    obtain ⟨i, xs, q1, q2⟩ := q
    obtain ⟨b, vs, h1, h2, h3, h4, h5⟩ := s.own i xs q1
    rw [q2] at h1; cases h1
    exact ⟨h4, h5, vs, h2⟩
  have sm : Same F (back σ ρ F') := fun a o e => by
    unfold back
    rw [if_neg (fun q => by rw [(ownF q).1] at e; cases e)]
    exact t.same a o (lend_same s a o e)
  have t2 : Step pn p' F H (back σ ρ F') H' := by
    refine ⟨t.keep, t.there, sm, fun a e => ?_, ?_⟩
    · unfold back at e
      split at e
      · exact absurd rfl e
      · rename_i q
        rcases t.new a e with z | z
        · unfold lend at z
          rw [if_neg q] at z
          exact .inl z
        · exact .inr z
    · refine ⟨fun a o e => ?_, ?_⟩
      · unfold back at e
        split at e
        · cases e
        · exact t.ok.sub a o e
      · have z := t.ok.pen
        cases pn with
        | none => cases p' with | none => trivial | some _ => exact z.elim
        | some q =>
          obtain ⟨pa, ca⟩ := q
          cases p' with
          | none => exact z.elim
          | some st' =>
            obtain ⟨z1, z2, z3⟩ := z
            have y := s.ok.pen
            cases p with
            | none => exact y.elim
            | some st =>
              obtain ⟨y1, y2, y3⟩ := y
              have hca := sm ca _ y3
              refine ⟨?_, z2, ?_⟩
              · unfold back; split
                · rfl
                · exact z1
              · have y4 := t.same ca _ (lend_same s ca _ y3)
                rw [z3] at y4
                rw [← y4] at hca
                exact hca
  refine ⟨s.step t2, s.since.keep |> fun k => ⟨fun a o n e => t.keep a o (fun q => n (s.mp a q)) (k a o n e), fun a e => s.since.there a (t.there a e), (s.since.same.trans (lend_same s)).trans t.same, fun a e => ?_⟩⟩
  rcases t.new a e with z | z
  · unfold lend at z
    split at z
    · rename_i q; exact .inr (ownF q).2.1
    · exact s.since.new a z
  · exact .inr (s.since.there a z)
mutual
theorem noLst_back {Fb : Hp} (hb : ∀ a o, F' a = some o → (∀ xs, o ≠ .lst xs) → Fb a = some o) : ∀ {v : V} {d : D}, Rep G pn F' v d → noLst d = true → Rep G pn Fb v d
  | _, _, .non, _ => .non
  | _, _, .bl b, _ => .bl b
  | _, _, .int i, _ => .int i
  | _, _, .str x, _ => .str x
  | _, _, .tup e r, h => .tup (hb _ _ e (fun xs z => by cases z)) (noLsts_back hb r (by simpa [noLst] using h))
  | _, _, .lst e r, h => by simp [noLst] at h
  | _, _, .obj c e l r, h => .obj c (hb _ _ e (fun xs z => by cases z)) l (noLsts_back hb r (by simpa [noLst] using h))
  | _, _, .fn k, _ => .fn k
  | _, _, .pen e, _ => .pen e
theorem noLsts_back {Fb : Hp} (hb : ∀ a o, F' a = some o → (∀ xs, o ≠ .lst xs) → Fb a = some o) : ∀ {vs : List V} {ds : List D}, Reps G pn F' vs ds → noLsts ds = true → Reps G pn Fb vs ds
  | _, _, .nil, _ => .nil
  | _, _, .cons r t, h => by
    simp only [noLsts, Bool.and_eq_true] at h
    exact .cons (noLst_back hb r h.1) (noLsts_back hb t h.2)
end
theorem SR.backRep (s : SR G M F0 H0 pn σ H ρ F p) (t : Step pn p' (lend σ ρ F H) H F' H') {v : V} {d : D} (r : Rep G pn F' v d) (h : noLst d = true) : Rep G pn (back σ ρ F') v d := by
  refine noLst_back (fun a o e hne => ?_) r h
  unfold back
  rw [if_neg]
  · exact e
  · rintro ⟨i, xs, q1, q2⟩
    obtain ⟨b, vs, h1, h2, h3, h4, h5⟩ := s.own i xs q1
    rw [q2] at h1; cases h1
    have z : lend σ ρ F H a = some (.lst vs) := by
      unfold lend
      rw [if_pos ⟨i, xs, q1, q2⟩]
      exact h2
    have y := t.same a _ z
    rw [e] at y
    cases y
    exact hne vs rfl
end
end Mi

set_option Elab.async false
set_option linter.all false
set_option maxRecDepth 100000
set_option maxHeartbeats 4000000
namespace Mi
open PySem PySem.Spec PyProof.Rows L2
/-! ### what is wanted behind a statement -/
def OutS (G : Ad) (E : XK) (M : Addr → Prop) (F0 H0 : Hp) (pn : PN) (Dn : Ends) (r : R (Fl × SEnv)) : Prop := match r with
  | .stuck => False
  | .err c fs p' => ∀ F' H' dx, Since M F0 H0 F' H' → FOk F' H' pn p' → XAt G pn F' H' c fs dx → E (.ref (G.cls c)) (some dx) H'
  | .ok (.nx, ρ) p' => ∀ σ' H' F', SR G M F0 H0 pn σ' H' ρ F' p' → Dn.nx σ' H'
  | .ok (.bk, ρ) p' => ∀ σ' H' F', SR G M F0 H0 pn σ' H' ρ F' p' → Dn.bk σ' H'
  | .ok (.ct, ρ) p' => ∀ σ' H' F', SR G M F0 H0 pn σ' H' ρ F' p' → Dn.ct σ' H'
  | .ok (.rt d, _) p' => ∀ v H' F', Since M F0 H0 F' H' → FOk F' H' pn p' → Rep G pn F' v d → Dn.rt v H'
def tSt (G : Ad) (E : XK) (ev : SEnv → PenS → R (Fl × SEnv)) : TS := fun Dn σ H => ∃ M F0 H0 pn ρ F p, SR G M F0 H0 pn σ H ρ F p ∧ OutS G E M F0 H0 pn Dn (ev ρ p)
section
variable {G : Ad} {E : XK} {M : Addr → Prop} {F0 H0 F H : Hp} {pn : PN} {σ : L2.St} {ρ : SEnv} {p : PenS} {Dn : Ends}
theorem OutS.of {α β : Type} {rep : Hp → β → α → Prop} {r : R α} {k : α → PenS → R (Fl × SEnv)} (s : SR G M F0 H0 pn σ H ρ F p) (h : OutS G E M F0 H0 pn Dn (r.bind k)) :
    Out G rep E pn F H r (fun b H1 => ∃ F1 p1 a, r = .ok a p1 ∧ Step pn p1 F H F1 H1 ∧ rep F1 b a ∧ OutS G E M F0 H0 pn Dn (k a p1)) := by
  cases r with
  | stuck => exact h
  | err c fs p1 => exact fun F' H' dx t x => h F' H' dx (s.since.step s.mp t) t.ok x
  | ok a p1 => exact fun b F1 H1 t rb => ⟨F1, p1, a, rfl, t, rb, h⟩
theorem OutS.ofB {α β : Type} {rep : Hp → β → α → Prop} {r : R α} {k : α → PenS → R (Fl × SEnv)} (s : SR G M F0 H0 pn σ H ρ F p) (h : OutS G E M F0 H0 pn Dn (r.bind k)) :
    Out G rep E pn (lend σ ρ F H) H r (fun b H1 => ∃ F1 p1 a, r = .ok a p1 ∧ Step pn p1 (lend σ ρ F H) H F1 H1 ∧ rep F1 b a ∧ OutS G E M F0 H0 pn Dn (k a p1)) := by
  cases r with
  | stuck => exact h
  | err c fs p1 => exact fun F' H' dx t x => h F' H' dx (s.stepB t).2 t.ok x
  | ok a p1 => exact fun b F1 H1 t rb => ⟨F1, p1, a, rfl, t, rb, h⟩
theorem OutS.ofH {α : Type} {o : Option α} {k : α → PenS → R (Fl × SEnv)} (h : OutS G E M F0 H0 pn Dn ((R.of o p).bind k)) : ∃ a, o = some a ∧ OutS G E M F0 H0 pn Dn (k a p) := by
  cases o with
  | none => exact h.elim
  | some a => exact ⟨a, rfl, h⟩
/-- what comes behind -/
theorem OutS.seq {r : R (Fl × SEnv)} {k : SEnv → PenS → R (Fl × SEnv)} (h : OutS G E M F0 H0 pn Dn (r.bind fun (fl, ρ) p => match fl with
    | .nx => k ρ p
    | fl => .ok (fl, ρ) p)) : OutS G E M F0 H0 pn { Dn with nx := tSt G E k Dn } r := by
  cases r with
  | stuck => exact h
  | err c fs p1 => exact h
  | ok a p1 =>
    obtain ⟨fl, ρ1⟩ := a
    cases fl with
    | nx => exact fun σ' H' F' s => ⟨M, F0, H0, pn, ρ1, F', p1, s, h⟩
    | bk => exact h
    | ct => exact h
    | rt d => exact h
/-- a loop's body: round again at its end -/
theorem OutS.turn {r : R (Fl × SEnv)} {k : SEnv → PenS → R (Fl × SEnv)} (h : OutS G E M F0 H0 pn Dn (r.bind fun (fl, ρ) p => match fl with
    | .nx => k ρ p
    | .ct => k ρ p
    | .bk => .ok (.nx, ρ) p
    | .rt v => .ok (.rt v, ρ) p)) (Nx : L2.St → Hp → Prop) (hn : ∀ σ' H' ρ' F' p', SR G M F0 H0 pn σ' H' ρ' F' p' → OutS G E M F0 H0 pn Dn (k ρ' p') → Nx σ' H') :
    OutS G E M F0 H0 pn { Dn with nx := Nx, ct := Nx, bk := Dn.nx } r := by
  cases r with
  | stuck => exact h
  | err c fs p1 => exact h
  | ok a p1 =>
    obtain ⟨fl, ρ1⟩ := a
    cases fl with
    | nx => exact fun σ' H' F' s => hn σ' H' ρ1 F' p1 s h
    | bk => exact h
    | ct => exact fun σ' H' F' s => hn σ' H' ρ1 F' p1 s h
    | rt d => exact h
/-! the point that one looks back at may be moved ahead -/
theorem Since.rebase (s : Since M F0 H0 F H) : Since M F H0 F H := ⟨s.keep, s.there, Same.refl F, fun a e => .inl e⟩
theorem Since.unbase {F1 H1 : Hp} (s0 : Since M F0 H0 F H) (s : Since M F H0 F1 H1) : Since M F0 H0 F1 H1 :=
  ⟨s.keep, s.there, s0.same.trans s.same, fun a e => (s.new a e).elim (fun z => s0.new a z) .inr⟩
theorem SR.rebase (s : SR G M F0 H0 pn σ H ρ F p) : SR G M F H0 pn σ H ρ F p := { s with since := s.since.rebase }
theorem SR.unbase {F1 H1 : Hp} {σ1 : L2.St} {ρ1 : SEnv} {p1 : PenS} (s0 : Since M F0 H0 F H) (s : SR G M F H0 pn σ1 H1 ρ1 F1 p1) : SR G M F0 H0 pn σ1 H1 ρ1 F1 p1 := { s with since := s0.unbase s.since }
theorem OutS.rebase {r : R (Fl × SEnv)} (s0 : Since M F0 H0 F H) (h : OutS G E M F0 H0 pn Dn r) : OutS G E M F H0 pn Dn r := by
  cases r with
  | stuck => exact h
  | err c fs p1 => exact fun F' H' dx t => h F' H' dx (s0.unbase t)
  | ok a p1 =>
    obtain ⟨fl, ρ1⟩ := a
    cases fl with
    | nx => exact fun σ' H' F' t => h σ' H' F' (t.unbase s0)
    | bk => exact fun σ' H' F' t => h σ' H' F' (t.unbase s0)
    | ct => exact fun σ' H' F' t => h σ' H' F' (t.unbase s0)
    | rt d => exact fun v H' F' t => h v H' F' (s0.unbase t)
/-! ### targets of statements -/
def gS (G : Ad) (tg : Tg) : TG := fun v σ H Q => ∃ M F0 H0 pn ρ F p d ρ', SR G M F0 H0 pn σ H ρ F p ∧ Rep G pn F v d ∧ tgSl ρ tg d = some ρ' ∧ ∀ σ', SR G M F0 H0 pn σ' H ρ' F p → Q σ' H
def gSs (G : Ad) (is : List Nat) : TGs := fun xs σ H Q => ∃ M F0 H0 pn ρ F p ds ρ', SR G M F0 H0 pn σ H ρ F p ∧ Reps G pn F xs ds ∧ setSl ρ is ds = some ρ' ∧ ∀ σ', SR G M F0 H0 pn σ' H ρ' F p → Q σ' H
end
section
variable {G : Ad} {X : Cx} {N : List Str} {sc0 : Scope}
variable (hN : X.N = N) (nd : N.Nodup) (loc : ∀ x, locB sc0 x = true → Loc X.env.scope x ∧ (X.fn x = true ∨ X.env.scope.names.lookup x = some .local)) (calm : X.calm = true)
include hN nd loc
theorem pgS_nm {i : Nat} {e : Expr} (h : mNm N sc0 i e = true) : PG X e (gS G (.nm i)) := by
  unfold mNm at h
  split at h
  · rename_i x pos
    simp only [Bool.and_eq_true, decide_eq_true_eq] at h
    obtain ⟨⟨h1, h2⟩, h3⟩ := h
    obtain ⟨l1, l2⟩ := loc x h2
    have pg : PG X (.Name x pos) (gName i) := pg_name (by rw [hN]; exact nd) (by rw [hN]; exact h1) l1 l2
    refine ⟨fun pins s σ H v u Q I r ⟨M, F0, H0, pn, ρ, F, p, d, ρ', dr, rv, ha, q⟩ => pg.run pins s σ H v u Q I r ?_⟩
    cases ha
    exact q _ (dr.set rv i)
  · cases h
theorem pgsS_nms : ∀ {is : List Nat} {es : List Expr}, mNms N sc0 is es = true → PGs X es (gSs G is)
  | [], [], _ => by
    refine ⟨fun pins s σ H xs us Q I r ⟨M, F0, H0, pn, ρ, F, p, ds, ρ', dr, rs, ha, q⟩ => ?_⟩
    cases ds with
    | nil =>
      cases rs
      cases ha
      exact (pgs_nil (X := X)).run pins s σ H [] us Q I r ⟨rfl, q _ dr⟩
    | cons _ _ => cases ha
  | [], _ :: _, h => by cases h
  | _ :: _, [], h => by cases h
  | i :: is, e :: es, h => by
    simp only [mNms, Bool.and_eq_true] at h
    have pg := pgS_nm (G := G) hN nd loc h.1.2
    have pgs := pgsS_nms (is := is) (es := es) h.2
    have z := pgs_cons pg pgs (by rw [nst_asg h.1.1]; rfl)
    refine ⟨fun pins s σ H xs us Q I r ⟨M, F0, H0, pn, ρ, F, p, ds, ρ', dr, rs, ha, q⟩ => z.run pins s σ H xs us Q I r ?_⟩
    cases ds with
    | nil => cases ha
    | cons d ds =>
      cases rs with
      | cons r1 r2 =>
        exact ⟨_, _, rfl, M, F0, H0, pn, ρ, F, p, d, _, dr, r1, rfl, fun σ' dr' => ⟨M, F0, H0, pn, _, F, p, ds, ρ', dr', r2, ha, q⟩⟩
include calm
theorem pgS_tg {tg : Tg} {e : Expr} (h : mTg N sc0 tg e = true) : PG X e (gS G tg) := by
  cases tg with
  | nm i => exact pgS_nm hN nd loc h
  | tp is =>
    simp only [mTg] at h
    split at h
    · rename_i es k pos
      obtain ⟨q1, q2⟩ := mNms_nst h
      obtain ⟨q3, q4⟩ := asg_len q1 X.env
      have pgs := pgsS_nms (G := G) hN nd loc h
      have z := pg_tup (k := k) (pos := pos) calm pgs q3 q4
      refine ⟨fun pins s σ H v u Q I r ⟨M, F0, H0, pn, ρ, F, p, d, ρ', dr, rv, ha, q⟩ => z.run pins s σ H v u Q I r ?_⟩
      cases d with
      | tup ds =>
        obtain ⟨a, ws, rfl, e1, r1⟩ := rv.tup_inv
        have hl : ∀ {is : List Nat} {ds : List D} {ρ : SEnv}, setSl ρ is ds = some ρ' → is.length = ds.length := by
          intro is
          induction is with
          | nil => intro ds ρ h; cases ds <;> simp [setSl] at h ⊢
          | cons i is ih =>
            intro ds ρ h
            cases ds with
            | nil => simp [setSl] at h
            | cons d ds => simp only [setSl] at h; simp [ih h]
        exact ⟨a, ws, rfl, .inl (.inl (dr.ok.sub _ _ e1)), by rw [r1.length, ← hl ha, q2], M, F0, H0, pn, ρ, F, p, ds, ρ', dr, r1, ha, q⟩
      | _ => cases ha
    · cases h
end
section
/-! ### the model's questions about a statement's form -/
theorem swp_not {v : Expr} {t : Option Expr} {l : Nat} {env : Env} (h : ncomp v = true) : swapsWith v t l env = pure false := by
  cases v <;> first | rfl | cases h
theorem swp_cell {sc : Scope} {v : Expr} {x : Str} {p : Pos} {l : Nat} {env : Env} (hs : env.scope = sc) (h : compNo sc x v = true) : swapsWith v (some (.Name x p)) l env = pure false := by
  cases v <;> first | rfl | (exact swp_not h) | skip
  rename_i elt gs scope pos
  have h : decide (sc.names.lookup x = some .cell) = true := h
  have h := of_decide_eq_true h
  have k : env.kindOf x = some .cell := by unfold Env.kindOf; rw [hs]; exact h
  unfold swapsWith
  simp only [k]
  have z : ((some NameKind.cell : Option NameKind) == some NameKind.local) = false := by decide
  rw [z, Bool.and_false, Bool.false_and, Bool.false_and]
theorem swp_sub {v o i : Expr} {p : Pos} {l : Nat} {env : Env} : swapsWith v (some (.Subscript o i p)) l env = pure false := by
  cases v <;> rfl
theorem swp_att {v o : Expr} {f : Str} {p : Pos} {l : Nat} {env : Env} : swapsWith v (some (.Attribute o f p)) l env = pure false := by
  cases v <;> rfl
theorem swp_tup {v : Expr} {es : List Expr} {k : Nat} {p : Pos} {l : Nat} {env : Env} : swapsWith v (some (.Tuple es k p)) l env = pure false := by
  cases v <;> rfl
theorem blk_fn {env : Env} (hk : env.scope.kind = .function) : env.blockKind = .function := by unfold Env.blockKind; rw [hk]; rfl
theorem sws_no {sc : Scope} {p1 p2 pt pt2 : Pos} {kt k2 : Nat} {x y : Str} {a b : Expr} {env : Env} (hs : env.scope = sc) (hk : env.scope.kind = .function) (h : swp2 sc p1 p2 x y a b = true) :
    swappedStores [.Tuple [.Name x p1, .Name y p2] kt pt] (.Tuple [a, b] k2 pt2) env = pure (some [x, y]) := by
  unfold swp2 at h
  simp only [Bool.and_eq_true, decide_eq_true_eq, Bool.not_eq_true'] at h
  obtain ⟨⟨⟨⟨⟨⟨⟨h1, h2⟩, h3⟩, h4⟩, h5⟩, h6⟩, h7⟩, h8⟩ := h
  have k1 : env.kindOf x = some .local := by unfold Env.kindOf; rw [hs]; exact h1
  have k2' : env.kindOf y = some .local := by unfold Env.kindOf; rw [hs]; exact h2
  have hb := blk_fn hk
  have st : ([a, b].any fun | .Starred .. => true | _ => false) = false := by
    cases a <;> first | (cases h5; done) | (cases b <;> first | rfl | cases h6)
  have ln : ((p2.line == p1.line) : Bool) = true := by rw [h3]; exact beq_self_eq_true _
  have ln1 : ((p1.line == p1.line) : Bool) = true := beq_self_eq_true _
  have kk : ((some NameKind.local : Option NameKind) == some NameKind.local) = true := by decide
  have bk : ((ScopeKind.function : ScopeKind) != ScopeKind.function) = false := by decide
  unfold swappedStores
  simp only [List.length_cons, List.length_nil, hb, st, List.head?_cons, Option.map_some, Option.getD_some, Expr.pos, List.filterMap_cons, k1, k2', kk, ln, ln1, h7, h8, bk, Bool.and_self, if_true, List.filterMap_nil]
  have ed : ([x, y] : List Str).eraseDups = [x, y] := by
    have hxy : (y == x) = false := by simpa using Ne.symm h4
    simp [List.eraseDups, List.eraseDupsBy, List.eraseDupsBy.loop, hxy]
  simp [ed]
  intro h
  rcases h with h | h
  · cases a <;> first | (cases h; done) | (cases h5; done)
  · cases b <;> first | (cases h; done) | (cases h6; done)
theorem sws_nTup {es : List Expr} {k : Nat} {p : Pos} {v : Expr} {env : Env} (h : nTup v = true) : swappedStores [.Tuple es k p] v env = pure none := by
  cases v <;> first | rfl | cases h
theorem sws_fold {es : List Expr} {k : Nat} {p : Pos} {v : Expr} {env : Env} (h : foldT v = true) : swappedStores [.Tuple es k p] v env = pure none := by
  cases v <;> first | (cases h; done) | skip
  rename_i vs k2 p2
  have h : vs.all (foldedForSure 8) = true := h
  unfold swappedStores
  simp only [h, if_true]
  split
  · rfl
  · split
    · rfl
    · split
      · rfl
      · rfl
end
section
variable {T : Tab} {S : Sem0} {G : Ad} {lv : Nat → Nat} {n nc : Nat → Bool} {N : List Str}
variable {sc sc0 : Scope} {E : XK} {X : Cx}
theorem filterMap_lt {α β : Type} {f : α → Option β} : ∀ {l : List α}, (∃ x ∈ l, f x = none) → (l.filterMap f).length < l.length
  | [], ⟨x, h, _⟩ => by simp at h
  | a :: l, ⟨x, h, e⟩ => by
    rw [List.filterMap_cons]
    cases q : f a with
    | none => exact Nat.lt_succ_of_le (List.length_filterMap_le f l)
    | some b =>
      rcases List.mem_cons.mp h with rfl | h
      · rw [e] at q; cases q
      · exact Nat.succ_lt_succ (filterMap_lt ⟨x, h, e⟩)
theorem sws_cell {sc : Scope} {es : List Expr} {k : Nat} {p : Pos} {v : Expr} {env : Env} (hs : env.scope = sc) (h : cellT sc es = true) : swappedStores [.Tuple es k p] v env = pure none := by
  by_cases hv : nTup v = true
  · exact sws_nTup hv
  · cases v with
    | Tuple vs k2 p2 =>
      unfold swappedStores
      dsimp only
      split
      · rfl
      · split
        · rfl
        · have hlt := filterMap_lt (l := es) (f := fun
            | .Name id pos => if env.kindOf id == some .local && pos.line == ((es.head?.map (·.pos.line)).getD 0) then some id else none
            | _ => none) (by
              unfold cellT at h
              obtain ⟨x, hx, hx2⟩ := List.any_eq_true.mp h
              refine ⟨x, hx, ?_⟩
              cases x with
              | Name y py =>
                simp only [Bool.not_eq_true', decide_eq_false_iff_not] at hx2
                have hk : (env.kindOf y == some .local) = false := by
                  unfold Env.kindOf; rw [hs]
                  simpa using hx2
                simp only [hk, Bool.false_and, Bool.false_eq_true, if_false]
              | _ => rfl)
          rw [if_pos]
          simp only [Bool.or_eq_true, bne_iff_ne]
          exact .inl (Nat.ne_of_lt hlt)
    | List vs p2 => rfl
    | _ => exact absurd rfl hv
theorem asEx {α : Type} {o : Option α} (h : o.isSome = true) : ∃ a, o = some a := Option.isSome_iff_exists.mp h
/-- new lists -/
theorem soundF (C : Ctx T S G lv n nc N sc sc0 E X) {ir : IE} {e : Expr} (hf : frsh ir = true) (h : mE T n nc N sc ir e = true) : PE X e (tF G E (evE S ir)) := by
  cases ir with
  | lst xs =>
    simp only [mE] at h
    split at h
    · refine peI (pe_lst (soundEs xs C _ h)) ?_
      rintro σ H Q ⟨ρ, F, pn, p, dr, fk, o⟩
      refine ⟨ρ, F, pn, p, dr, fk, ?_⟩
      simp only [evE] at o
      cases e1 : evEs S xs ρ p with
      | stuck => rw [e1] at o; exact o.elim
      | err c fs p1 => rw [e1] at o; exact o
      | ok ds p1 =>
        rw [e1] at o
        simp only [R.bind_ok] at o
        intro vs F1 H1 s1 r1
        by_cases hz : ds.length ≤ sizeLine
        · rw [if_pos hz] at o
          refine ⟨by rw [r1.length]; exact hz, fun q hq => ?_⟩
          obtain ⟨hF, hp⟩ := s1.ok.fresh hq
          exact o ds rfl q vs F1 _ (s1.ownW (s1.there _ hq) hF hp) (s1.there _ hq) hF upd_same r1
        · rw [if_neg hz] at o; exact o.elim
    · cases h
  | blt f xs =>
    cases f with
    | list =>
      simp only [mE] at h
      split at h
      · rename_i x pp e0 es pp2
        simp only [Bool.and_eq_true, decide_eq_true_eq] at h
        obtain ⟨⟨⟨h1, h2⟩, h3⟩, h4⟩ := h
        subst h3
        have hn := mEs_nst h4
        refine peI (pe_callTy call_list_of (glo_of C.hsc h1) (C.free _ (bf_free .list)) (boot_bf .list) (soundEs xs C _ h4) (bf_main .list) (okN1 h2) (star_cons (hn e0 (by simp)) X.env) (star_plain (fun e he => hn e (by simp [he])) pp2 X.env)) ?_
        rintro σ H Q ⟨ρ, F, pn, p, dr, fk, o⟩
        refine ⟨ρ, F, pn, p, dr, fk, ?_⟩
        simp only [evE] at o
        cases e1 : evEs S xs ρ p with
        | stuck => rw [e1] at o; exact o.elim
        | err c fs p1 => rw [e1] at o; exact o
        | ok ds p1 =>
          rw [e1] at o
          simp only [R.bind_ok] at o
          intro vs F1 H1 s1 r1
          have key : ∀ (a : Addr) (ws : List V) (ys : List D), F1 a = some (.lst ws) ∨ F1 a = some (.tup ws) → Reps G pn F1 ws ys → R.of (bfn .list ds) p1 = .ok (.lst ys) p1 → (SqL X.K H1 a ws ∨ SqT X.K H1 a ws) ∧ ∀ l, H1 l = none → Q (.ref l) (upd H1 l (.lst ws)) := by
            intro a ws ys hF rs eo
            rw [eo] at o
            refine ⟨?_, fun l hl => ?_⟩
            · rcases hF with hF | hF
              · exact .inl (SqL.of (s1.ok.sub _ _ hF))
              · exact .inr (SqT.of (s1.ok.sub _ _ hF))
            · obtain ⟨hFl, hp⟩ := s1.ok.fresh hl
              exact o ys rfl l ws F1 _ (s1.ownW (s1.there _ hl) hFl hp) (s1.there _ hl) hFl upd_same rs
          rcases ds with _ | ⟨d, _ | ⟨d2, ds⟩⟩
          · exact o.elim
          · obtain ⟨v, rfl, r⟩ := r1.one
            cases d with
            | tup ys =>
              obtain ⟨a, ws, rfl, e2, r2'⟩ := r.tup_inv
              obtain ⟨k1, k2⟩ := key a ws ys (.inr e2) r2' rfl
              exact ⟨a, ws, rfl, k1, k2⟩
            | lst ys =>
              obtain ⟨a, ws, rfl, e2, r2'⟩ := r.lst_inv
              obtain ⟨k1, k2⟩ := key a ws ys (.inl e2) r2' rfl
              exact ⟨a, ws, rfl, k1, k2⟩
            | _ => exact o.elim
          · cases d <;> exact o.elim
      · cases h
    | _ => cases hf
  | comp elt tg it ifs own =>
    simp only [mE] at h
    split at h
    · simp only [Bool.and_eq_true, decide_eq_true_eq] at h
      obtain ⟨⟨⟨⟨⟨⟨⟨⟨h1, h2⟩, h3⟩, h4⟩, h5⟩, h6⟩, h7⟩, h8⟩, h9⟩ := h
      subst h1
      exact (s_comp C h2 h3 h5 h6 (soundI it C _ _ h4) (fun s H Cc cl fp => soundTs ifs (C.blk s H _ Cc cl fp) _ h7 h8) (fun s H Cc cl fp => soundE elt (C.blk s H _ Cc cl fp) _ h9)).1
    · cases h
  | _ => cases hf
/-- name = [..] on one line -/
theorem s_setSw (C : Ctx T S G lv n nc N sc sc0 E X) {i : Nat} {x : Str} {ir : IE} {v : Expr} {p' pos : Pos} (hi : N[i]? = some x) (h : mE T n nc N sc ir v = true) (hsw : compSw sc x p' v = true) :
    PS X (.Assign [.Name x p'] v pos) (tAsg (tF G E (evE S ir)) (gName i)) := by
  cases v with
  | ListComp elt0 gs scope cp =>
    cases ir with
    | comp elt tg it ifs own =>
      simp only [mE] at h
      split at h
      · rename_i ee x0 t0 i0 fs0 k0 sc2 cp2 he
        cases he
        simp only [Bool.and_eq_true, decide_eq_true_eq] at h
        obtain ⟨⟨⟨⟨⟨⟨⟨⟨h1, h2⟩, h3⟩, h4⟩, h5⟩, h6⟩, h7⟩, h8⟩, h9⟩ := h
        subst h1
        simp only [compSw, Bool.and_eq_true, decide_eq_true_eq, Bool.not_eq_true'] at hsw
        obtain ⟨⟨w1, w2⟩, w3⟩ := hsw
        have key := (s_comp C h2 h3 h5 h6 (soundI it C _ _ h4) (fun s H Cc cl fp => soundTs ifs (C.blk s H _ Cc cl fp) _ h7 h8) (fun s H Cc cl fp => soundE elt (C.blk s H _ Cc cl fp) _ h9) (pos := cp)).2
        have hl : X.env.scope.names.lookup x = some .local := by rw [C.hsc]; exact w1
        refine ⟨fun pins s σ H D I hw => ?_⟩
        have hk : tAsg (tLc (tI G E (evI S it)) (gT G (own.map (·.2)) tg) (tT G E0 (evAndT S ifs)) (tE G E0 (evE S elt)) (own.map (·.2))) (gName i) D σ H := key σ H _ hw
        refine (ps_setLc (i := i) C.calm (by rw [C.hN]; exact C.nd) (by rw [C.hN]; exact hi) hl (sw_true I.ok.kind hl (by rw [w2]; exact beq_self_eq_true _) w3) (soundI it C _ _ h4) (blkOk_by (own := own) (by rw [C.hN, C.hsc]; exact h2)) (g := gT G (own.map (·.2)) tg) (fun s H Cc cl fp => ?_)
          (fun s H Cc cl fp => soundTs ifs (C.blk s H _ Cc cl fp) _ h7 h8) (fun s H Cc cl fp => soundE elt (C.blk s H _ Cc cl fp) _ h9) (fun z => fold_set h3 _ z)).run pins s σ H D I hk
        have C' := C.blk s H scope Cc cl fp
        exact pg_tg C'.hN C'.nd C'.loc C'.calm _ h5 h6
      · cases h
    | _ => simp [mE] at h
  | _ => cases hsw
end
end Mi

set_option Elab.async false
set_option linter.all false
set_option maxRecDepth 100000
set_option maxHeartbeats 4000000
namespace Mi
open PySem PySem.Spec PyProof.Rows L2
theorem upd_id {H : Hp} {a : Addr} {o : HO} (e : H a = some o) : upd H a o = H := by
  funext b
  by_cases h : b = a
  · subst h; rw [upd_same]; exact e.symm
  · rw [upd_ne h]
theorem putF_snoc {f : Str} {v : V} : ∀ {at_ : List Str} {vs : List V}, at_.Nodup → vs.length < at_.length → at_[vs.length]? = some f → putF f v ((at_.take vs.length).zip vs) = (at_.take (vs.length + 1)).zip (vs ++ [v])
  | [], vs, _, h, _ => absurd h (Nat.not_lt_zero _)
  | a :: at_, [], nd, h, e => by
    simp at e
    subst e
    simp [putF]
  | a :: at_, v0 :: vs, nd, h, e => by
    simp only [List.length_cons, List.getElem?_cons_succ] at e
    have nd' := List.nodup_cons.mp nd
    have hne : a ≠ f := fun z => nd'.1 (by rw [z]; exact List.mem_of_getElem? e)
    have ih := putF_snoc (f := f) (v := v) nd'.2 (by simpa using h) e
    simp only [List.length_cons, List.take_succ_cons, List.zip_cons_cons, List.cons_append, putF]
    rw [if_neg hne, ih]
theorem penSet_keys {f : Str} {i : Int} {st st' : Pen} {ca : Addr} (h : penSet f i st = some st') : putK (penK ca st) (Sum.inr f : Key) (.int i) = penK ca st' ∧ st'.cells = st.cells := by
  unfold penSet at h
  split at h
  · rename_i e; subst e; cases h; exact ⟨rfl, rfl⟩
  split at h
  · rename_i e; subst e; cases h; exact ⟨rfl, rfl⟩
  split at h
  · rename_i e; subst e; cases h; exact ⟨rfl, rfl⟩
  split at h
  · rename_i e; subst e; cases h; exact ⟨rfl, rfl⟩
  · cases h
section
variable {G : Ad} {M : Addr → Prop} {F0 H0 F H : Hp} {pn : PN} {σ : L2.St} {ρ : SEnv} {p : PenS}
/-- the pen's field is set -/
theorem SR.pen {pa ca : Addr} {st st' : Pen} (s : SR G M F0 H0 (some (pa, ca)) σ H ρ F (some st)) {f : Str} {i : Int} (h : penSet f i st = some st') :
    SR G M F0 H0 (some (pa, ca)) σ (upd H pa (.dK (penK ca st'))) ρ F (some st') := by
  obtain ⟨z1, z2, z3⟩ := s.ok.pen
  have hc := (penSet_keys (ca := ca) h).2
  have ip : IsPen (some (pa, ca)) pa := ⟨ca, rfl⟩
  exact {
    len := s.len
    dat := s.dat
    own := fun j ys q => by
      obtain ⟨b, ws, h1, h2, h3⟩ := s.own j ys q
      have hb : b ≠ pa := fun e => by rw [e, z2] at h2; cases h2
      exact ⟨b, ws, h1, by rw [upd_ne hb]; exact h2, h3⟩
    inj := s.inj
    mak := fun j c fs q => by
      obtain ⟨b, dx, ws, h1, h2, h3⟩ := s.mak j c fs q
      have hb : b ≠ pa := fun e => by rw [e, z2] at h2; cases h2
      exact ⟨b, dx, ws, h1, by rw [upd_ne hb]; exact h2, h3⟩
    one := s.one
    since := ⟨fun b o n e => by rw [upd_ne (fun z => n (by rw [z]; exact s.mp _ ip))]; exact s.since.keep b o n e, fun b e => by
      by_cases hb : b = pa
      · subst hb; rw [upd_same] at e; cases e
      · rw [upd_ne hb] at e; exact s.since.there b e, s.since.same, s.since.new⟩
    ok := ⟨fun b u e => by
      have hb : b ≠ pa := fun z => by rw [z, z1] at e; cases e
      rw [upd_ne hb]; exact s.ok.sub b u e, z1, upd_same, by rw [hc]; exact z3⟩
    mp := s.mp }
end
section
variable {T : Tab} {S : Sem0} {G : Ad} {lv : Nat → Nat} {n nc : Nat → Bool} {N : List Str}
variable {sc : Scope} {E : XK} {X : Cx}
theorem whW_some {c : SEnv → PenS → R Bool} {f : SEnv → PenS → R (Fl × SEnv)} {ρ : SEnv} {p : PenS} (h : whW c f ρ p ≠ .stuck) : ∃ m, whW c f ρ p = whN c f m ρ p := by
  unfold whW at h ⊢
  split at h
  · rename_i q; rw [dif_pos q]; exact ⟨_, rfl⟩
  · exact absurd rfl h
theorem OutS.ne {G : Ad} {E : XK} {M : Addr → Prop} {F0 H0 : Hp} {pn : PN} {Dn : Ends} {r : R (Fl × SEnv)} (h : OutS G E M F0 H0 pn Dn r) : r ≠ .stuck := fun e => by rw [e] at h; exact h
theorem s_whl {c : IE} {b : ISs} {t : Expr} {x : List Stmt} {pos : Pos} (C : Ctx T S G lv n nc N sc sc E X) (hp : PassesOwn (model X.prog X.w) X.A X.env X.xe) (hc : PT X t (tT G E (evT S c))) (hb : PSs X x (tSt G E (evSs S b))) :
    PS X (.While t x [] pos) (tSt G E (evS S (.whl c b))) := by
  refine psI (ps_while hp hc hb) ?_
  rintro Dn σ H ⟨M, F0, H0, pn, ρ, F, p, s, o⟩
  simp only [evS] at o
  obtain ⟨m, em⟩ := whW_some o.ne
  rw [em] at o
  refine ⟨fun m σ H => ∃ ρ F p, SR G M F0 H0 pn σ H ρ F p ∧ OutS G E M F0 H0 pn Dn (whN (fun ρ p => evT S c (seeB ρ) p) (fun ρ p => evSs S b ρ p) m ρ p), ⟨m, ρ, F, p, s, o⟩, ?_⟩
  clear s o em
  rintro m σ H ⟨ρ, F, p, s, o⟩
  cases m with
  | zero => exact o.elim
  | succ m =>
    simp only [whN] at o
    refine ⟨seeB ρ, lend σ ρ F H, pn, p, s.drB, lend_ok s, (OutS.ofB (rep := rB) s o).imp ?_⟩
    rintro k H1 ⟨F1, p1, k', e1, t, rfl, o1⟩
    have s1 := (s.stepB t).1
    cases k with
    | false =>
      rw [if_neg Bool.false_ne_true] at o1 ⊢
      exact o1 _ _ _ s1
    | true =>
      rw [if_pos rfl] at o1 ⊢
      refine ⟨fun σ' H' => ∃ ρ F p, SR G M F0 H0 pn σ' H' ρ F p ∧ OutS G E M F0 H0 pn Dn (whN (fun ρ p => evT S c (seeB ρ) p) (fun ρ p => evSs S b ρ p) m ρ p), fun σ' H' q => ⟨m, Nat.lt_succ_self m, q⟩, M, F0, H0, pn, ρ, _, p1, s1, ?_⟩
      exact OutS.turn (k := fun ρ p => whN (fun ρ p => evT S c (seeB ρ) p) (fun ρ p => evSs S b ρ p) m ρ p) o1 _ fun σ' H' ρ' F' p' s' o' => ⟨ρ', F', p', s', o'⟩
theorem s_for {tg : Tg} {it : II} {b : ISs} {t i : Expr} {x : List Stmt} {pos : Pos} (C : Ctx T S G lv n nc N sc sc E X) (hp : PassesOwn (model X.prog X.w) X.A X.env X.xe) (hni : nset i = true) (htg : mTg N sc tg t = true) (hi : PI X t i (tI G E (evI S it)))
    (hb : PSs X x (tSt G E (evSs S b))) : PS X (.For t i x [] pos) (tSt G E (evS S (.for_ tg it b))) := by
  refine psI (ps_for hp C.calm hi (pgS_tg (G := G) C.hN C.nd C.loc C.calm htg) hb (fun z => fold_set hni _ z)) ?_
  rintro Dn σ H ⟨M, F0, H0, pn, ρ, F, p, s, o⟩
  simp only [evS] at o
  refine ⟨see ρ, F, pn, p, s.dr, s.ok, (OutS.of (rep := rJ G pn) s o).imp ?_⟩
  rintro J H1 ⟨F1, p1, ds, e1, t1, jk, o1⟩
  have s1 := s.step t1
  have sn := s1.since
  have o1 := o1.rebase sn
  have s1 := s1.rebase
  clear o e1 t1 s
  generalize hf : (fun d ρ p => (R.of (tgSl ρ tg d) p).bind fun ρ p => evSs S b ρ p) = f at o1
  refine ⟨fun i m σ H => m = ds.length - i ∧ i ≤ ds.length ∧ ∃ ρ F p, SR G M F1 H0 pn σ H ρ F p ∧ OutS G E M F1 H0 pn Dn (forLoop f (ds.drop i) ρ p), ⟨ds.length, rfl, Nat.zero_le _, ρ, F1, p1, s1, o1⟩, ?_⟩
  clear s1 o1
  rintro i m σ H ⟨rfl, hi2, ρ, F2, p, s, o⟩
  have sm : Same F1 F2 := s.since.same
  by_cases hlt : i < ds.length
  · refine .inr ⟨jk.go i H (sm.trans s.ok.sub) hlt, fun σ' H' => i + 1 ≤ ds.length ∧ ∃ ρ F p, SR G M F1 H0 pn σ' H' ρ F p ∧ OutS G E M F1 H0 pn Dn (forLoop f (ds.drop (i + 1)) ρ p), fun σ' H' q => ⟨_, by omega, rfl, q⟩, ?_⟩
    intro xv H3 hy
    obtain ⟨d, F3, hd, s3, rx⟩ := jk.yld i H xv H3 F2 p sm s.ok hy hlt
    have hdr : ds.drop i = d :: ds.drop (i + 1) := by
      rw [List.getElem?_eq_getElem hlt, Option.some.injEq] at hd
      rw [← hd]
      exact (List.getElem_cons_drop (h := hlt)).symm
    rw [hdr] at o
    simp only [forLoop] at o
    rw [← hf] at o
    have st := s.step s3
    cases et : tgSl ρ tg d with
    | none => simp only [et] at o; exact o.elim
    | some ρ' =>
      simp only [et, R.of_some, R.bind_ok] at o
      refine ⟨M, F1, H0, pn, ρ, F3, p, d, ρ', st, rx, et, fun σ' sr => ⟨M, F1, H0, pn, ρ', F3, p, sr, ?_⟩⟩
      rw [hf] at o
      exact OutS.turn (k := fun ρ p => forLoop f (ds.drop (i + 1)) ρ p) o _ fun σ' H' ρ' F' p' s' o' => ⟨hlt, ρ', F', p', s', o'⟩
  · have e : i = ds.length := by omega
    subst e
    rw [List.drop_length] at o
    exact .inl ⟨jk.stop _ H (sm.trans s.ok.sub) (Nat.le_refl _), o _ _ _ s⟩
end
end Mi

set_option Elab.async false
set_option linter.all false
set_option maxRecDepth 100000
set_option maxHeartbeats 4000000
namespace Mi
open PySem PySem.Spec PyProof.Rows L2
theorem set_id {α : Type} {l : List α} {i : Nat} {x : α} (h : l[i]? = some x) : l.set i x = l := by
  apply List.ext_getElem?
  intro j
  by_cases hj : i = j
  · subst hj
    rw [h, List.getElem?_set_self (List.getElem?_eq_some_iff.mp h).1]
  · rw [List.getElem?_set_ne hj]
section
variable {G : Ad} {M : Addr → Prop} {F0 H0 F H F' H' : Hp} {pn : PN} {σ : L2.St} {ρ : SEnv} {p p' : PenS}
/-- a new list, one's own -/
theorem SR.newO (s : SR G M F0 H0 pn σ H ρ F p) (t : Step pn p' F H F' H') {a : Addr} {vs : List V} {xs : List D} (i : Nat) (hn : H a = none) (hF : F' a = none) (hH : H' a = some (.lst vs)) (hr : Reps G pn F' vs xs) :
    SR G M F0 H0 pn (σ.set i (some (.ref a))) H' (ρ.set i (.o xs)) F' p' := by
  have z := (s.step t).setO (a := a) (vs := vs) (xs := xs) i hr hF (s.since.there a hn) (s.ok.fresh hn).2 (fun j ys hj q e => by
    obtain ⟨b, ws, h1, h2, _⟩ := s.own j ys q
    rw [e] at h1; cases h1; rw [hn] at h2; cases h2) (fun j c fs q e => by
    obtain ⟨b, dx, ws, h1, h2, _⟩ := s.mak j c fs q
    rw [e] at h1; cases h1; rw [hn] at h2; cases h2)
  rw [upd_id hH] at z
  exact z
/-- one's own list is changed -/
theorem SR.chgO (s : SR G M F0 H0 pn σ H ρ F p) {a : Addr} {vs ws : List V} {xs ys : List D} {i : Nat} (hi : ρ[i]? = some (.o xs)) (hσ : σ[i]? = some (some (.ref a))) (hH : H a = some (.lst vs)) (hr : Reps G pn F ws ys) :
    SR G M F0 H0 pn σ (upd H a (.lst ws)) (ρ.set i (.o ys)) F p := by
  obtain ⟨b, us, h1, h2, h3, h4, h5⟩ := s.own i xs hi
  rw [hσ] at h1; cases h1
  have z := s.setO (a := a) (vs := ws) (xs := ys) i hr h4 h5 (s.lst_np hH) (fun j zs hj q e => hj (s.inj j i zs xs a q hi e hσ)) (fun j c fs q e => by
    obtain ⟨b, dx, ws, h1, h2, _⟩ := s.mak j c fs q
    rw [e] at h1; cases h1; rw [hH] at h2; cases h2)
  rw [set_id hσ] at z
  exact z
end
section
variable {T : Tab} {S : Sem0} {G : Ad} {lv : Nat → Nat} {n nc : Nat → Bool} {N : List Str}
variable {sc : Scope} {E : XK} {X : Cx}
/-- x.append(v) -/
theorem s_app (C : Ctx T S G lv n nc N sc sc E X) {i : Nat} {e : IE} {x f : Str} {v : Expr} {p0 ap cp pos : Pos} (h1 : N[i]? = some x) (h2 : visB sc x = true) (h3 : okN x = true) (h4 : f = ("append" : Str)) (h5 : nst v = true) (h6 : (ap.endLine == cp.line) = true)
    (h7 : mE T n nc N sc e v = true) : PS X (.Expr (.Call (.Attribute (.Name x p0) f ap) [v] [] cp) pos) (tDrop (tBM X.K "list" rAppend (tVar i) fun σ H Q => tE G E (evE S e) σ H fun y H1 => Q [y] H1)) := by
  subst h4
  have ho : PE X (.Name x p0) (tVar i) := pe_var (by rw [C.hN]; exact h1) (by rw [C.hsc]; exact vis_of h2) (okN1 h3) (okN2 h3)
  have ha : PA X [v] (fun σ H Q => tE G E (evE S e) σ H fun y H1 => Q [y] H1) := paI (pa_cons (soundE e C v h7) pa_nil (star_cons h5 _)) fun σ H Q q => q
  exact ps_expr (pe_bm PySem.F.plainAttrs_list PySem.F.slot_list_append PySem.F.type_list_append mt_append ho ha rfl (by rw [star_cons h5]; rfl) h6 (star_cons h5 _) rfl)
mutual
theorem soundS : ∀ (ir : IS) (C : Ctx T S G lv n nc N sc sc E X) (hp : PassesOwn (model X.prog X.w) X.A X.env X.xe) (st : Stmt), mS T n nc N sc ir st = true → PS X st (tSt G E (evS S ir))
  | .asg i e, C, hp, st, h => by
    simp only [mS] at h
    split at h
    · rename_i x p' v pos
      simp only [Bool.and_eq_true, Bool.or_eq_true, decide_eq_true_eq] at h
      obtain ⟨⟨⟨⟨h1, h2⟩, h3⟩, h4⟩, h5⟩ := h
      obtain ⟨l1, l2⟩ := C.loc x h2
      have key : ∀ Dn σ H, tSt G E (evS S (.asg i e)) Dn σ H → tAsg (tE G E (evE S e)) (gName i) Dn σ H := by
        rintro Dn σ H ⟨M, F0, H0, pn, ρ, F, p, s, o⟩
        refine ⟨see ρ, F, pn, p, s.dr, s.ok, (OutS.of (rep := rD G pn) s (by simpa only [evS] using o)).imp ?_⟩
        rintro v H1 ⟨F1, p1, d, e1, t, rv, o1⟩
        exact o1 _ _ _ ((s.step t).set rv i)
      rcases h5 with h5 | h5
      · exact psI (ps_set (i := i) (by rw [C.hN]; exact C.nd) (by rw [C.hN]; exact h1) l1 (soundE e C v h4) (swp_cell C.hsc h5) l2) key
      · exact psI (s_setSw C h1 h4 h5) fun Dn σ H q => tE_tF (key Dn σ H q)
    · cases h
  | .asgB i e, C, hp, st, h => by
    simp only [mS] at h
    split at h
    · rename_i x p' v pos
      simp only [Bool.and_eq_true, decide_eq_true_eq] at h
      obtain ⟨⟨⟨⟨h1, h2⟩, h3⟩, h4⟩, h5⟩ := h
      obtain ⟨l1, l2⟩ := C.loc x h2
      refine psI (ps_set (i := i) (by rw [C.hN]; exact C.nd) (by rw [C.hN]; exact h1) l1 (soundE e C v h4) (swp_cell C.hsc h5) l2) ?_
      rintro Dn σ H ⟨M, F0, H0, pn, ρ, F, p, s, o⟩
      refine ⟨seeB ρ, lend σ ρ F H, pn, p, s.drB, lend_ok s, (OutS.ofB (rep := rD G pn) s (by simpa only [evS] using o)).imp ?_⟩
      rintro v H1 ⟨F1, p1, d, e1, t, rv, o1⟩
      by_cases hz : noLst d = true
      · rw [if_pos hz] at o1
        exact o1 _ _ _ ((s.stepB t).1.set (s.backRep t rv hz) i)
      · rw [if_neg hz] at o1; exact o1.elim
    · cases h
  | .own i e, C, hp, st, h => by
    simp only [mS] at h
    split at h
    · rename_i x p' v pos
      simp only [Bool.and_eq_true, Bool.or_eq_true, decide_eq_true_eq] at h
      obtain ⟨⟨⟨⟨⟨h0, h1⟩, h2⟩, h3⟩, h4⟩, h5⟩ := h
      obtain ⟨l1, l2⟩ := C.loc x h2
      have key : ∀ Dn σ H, tSt G E (evS S (.own i e)) Dn σ H → tAsg (tF G E (evE S e)) (gName i) Dn σ H := by
        rintro Dn σ H ⟨M, F0, H0, pn, ρ, F, p, s, o⟩
        refine ⟨see ρ, F, pn, p, s.dr, s.ok, ?_⟩
        simp only [evS, evOwn] at o
        cases ev : evE S e (see ρ) p with
        | stuck => rw [ev] at o; exact o.elim
        | err c fs p1 => rw [ev] at o; exact fun F' H' dx t x => o F' H' dx (s.since.step s.mp t) t.ok x
        | ok d p1 =>
          rw [ev] at o
          rintro xs rfl a vs F' H' t hn hF hH rs
          exact o _ _ _ (s.newO t i hn hF hH rs)
      rcases h5 with h5 | h5
      · exact psI (ps_set (i := i) (by rw [C.hN]; exact C.nd) (by rw [C.hN]; exact h1) l1 (soundF C h0 h4) (swp_cell C.hsc h5) l2) key
      · exact psI (s_setSw C h1 h4 h5) key
    · cases h
  | .par i j a b, C, hp, st, h => by
    simp only [mS] at h
    split at h
    · rename_i x p1 y p2 kt pt v u k2 pt2 pos
      simp only [Bool.and_eq_true, decide_eq_true_eq] at h
      obtain ⟨⟨⟨⟨⟨h1, h2⟩, h3⟩, h4⟩, h5⟩, h6⟩ := h
      have h6' := h6
      unfold swp2 at h6'
      simp only [Bool.and_eq_true, decide_eq_true_eq] at h6'
      obtain ⟨⟨⟨⟨⟨⟨⟨w1, w2⟩, w3⟩, w4⟩, w5⟩, w6⟩, w7⟩, w8⟩ := h6'
      have ha : PA X [v, u] (fun σ H Q => tE G E (evE S a) σ H fun x H1 => tE G E (evE S b) σ H1 fun y H2 => Q [x, y] H2) :=
        paI (pa_cons (soundE a C v h4) (pa_cons (soundE b C u h5) pa_nil (star_cons w6 _)) (star_cons w5 _)) fun σ H Q q => q
      refine ⟨fun pins s σ H D I hw => (ps_par (i := i) (j := j) C.calm (by rw [C.hN]; exact C.nd) (by rw [C.hN]; exact h1) (by rw [C.hN]; exact h2) h3 (by rw [C.hsc]; exact w1) (by rw [C.hsc]; exact w2) ha (sws_no C.hsc I.ok.kind h6)).run pins s σ H D I ?_⟩
      clear I pins
      obtain ⟨M, F0, H0, pn, ρ, F, p, s, o⟩ := hw
      refine ⟨see ρ, F, pn, p, s.dr, s.ok, (OutS.of (rep := rD G pn) s (by simpa only [evS] using o)).imp ?_⟩
      rintro v H1 ⟨F1, p1, d, e1, t, rv, o1⟩
      have s1 := s.step t
      refine ⟨see ρ, F1, pn, p1, s1.dr, s1.ok, (OutS.of (rep := rD G pn) s1 o1).imp ?_⟩
      rintro w H2 ⟨F2, p2, d2, e2, t2, rw2, o2⟩
      exact ⟨v, w, rfl, o2 _ _ _ (((s1.step t2).set (rv.mono t2.same) i).set rw2 j)⟩
    · cases h
  | .unp is e, C, hp, st, h => by
    simp only [mS] at h
    split at h
    · rename_i es k p' v pos
      simp only [Bool.and_eq_true, Bool.or_eq_true] at h
      obtain ⟨⟨h1, h2⟩, h3⟩ := h
      refine psI (ps_asg (soundE e C v h2) (pgS_tg (G := G) (tg := .tp is) C.hN C.nd C.loc C.calm h1) (show swapsWithSole [.Tuple es k p'] v pos.line X.env = pure false from swp_tup (v := v) (es := es) (k := k) (p := p') (l := pos.line) (env := X.env)) (h3.elim (fun z => z.elim sws_nTup sws_fold) (sws_cell C.hsc)) rfl) ?_
      rintro Dn σ H ⟨M, F0, H0, pn, ρ, F, p, s, o⟩
      refine ⟨see ρ, F, pn, p, s.dr, s.ok, (OutS.of (rep := rD G pn) s (by simpa only [evS] using o)).imp ?_⟩
      rintro v H1 ⟨F1, p1, d, e1, t, rv, o1⟩
      obtain ⟨ρ', eρ, o2⟩ := o1.ofH
      exact ⟨M, F0, H0, pn, ρ, F1, p1, d, ρ', s.step t, rv, eρ, fun σ' sr => o2 _ _ _ sr⟩
    · cases h
  | .app i e, C, hp, st, h => by
    simp only [mS] at h
    split at h
    · rename_i x p0 f ap v cp pos
      simp only [Bool.and_eq_true, decide_eq_true_eq] at h
      obtain ⟨⟨⟨⟨⟨⟨h1, h2⟩, h3⟩, h4⟩, h5⟩, h6⟩, h7⟩ := h
      refine psI (s_app (i := i) C h1 h2 h3 h4 h5 h6 h7) ?_
      rintro Dn σ H ⟨M, F0, H0, pn, ρ, F, p, s, o⟩
      simp only [evS] at o
      cases q : ρ[i]? with
      | none => rw [q] at o; exact o.elim
      | some z =>
        cases z with
        | o xs =>
          rw [q] at o
          obtain ⟨a, vs, q1, q2, q3, q4, q5⟩ := s.own i xs q
          refine ⟨.ref a, q1, .inl ⟨rfl, vs, SqL.of q2⟩, see ρ, F, pn, p, s.dr, s.ok, (OutS.of (rep := rD G pn) s o).imp ?_⟩
          rintro v H1 ⟨F1, p1, d, e1, t, rv, o1⟩
          by_cases hz : xs.length < sizeLine
          · rw [if_pos hz] at o1
            have h2 := t.keep _ _ (s.lst_np q2) q2
            refine ⟨a, vs, v, rfl, rfl, h2, by rw [q3.length]; exact hz, o1 _ _ _ ((s.step t).chgO q q1 h2 ((q3.mono t.same).append (.cons rv .nil)))⟩
          · rw [if_neg hz] at o1; exact o1.elim
        | _ => rw [q] at o; exact o.elim
    · cases h
  | .appB i e, C, hp, st, h => by
    simp only [mS] at h
    split at h
    · rename_i x p0 f ap v cp pos
      simp only [Bool.and_eq_true, decide_eq_true_eq] at h
      obtain ⟨⟨⟨⟨⟨⟨h1, h2⟩, h3⟩, h4⟩, h5⟩, h6⟩, h7⟩ := h
      refine psI (s_app (i := i) C h1 h2 h3 h4 h5 h6 h7) ?_
      rintro Dn σ H ⟨M, F0, H0, pn, ρ, F, p, s, o⟩
      simp only [evS] at o
      cases q : ρ[i]? with
      | none => rw [q] at o; exact o.elim
      | some z =>
        cases z with
        | o xs =>
          rw [q] at o
          obtain ⟨a, vs, q1, q2, q3, q4, q5⟩ := s.own i xs q
          refine ⟨.ref a, q1, .inl ⟨rfl, vs, SqL.of q2⟩, seeB ρ, lend σ ρ F H, pn, p, s.drB, lend_ok s, (OutS.ofB (rep := rD G pn) s o).imp ?_⟩
          rintro v H1 ⟨F1, p1, d, e1, t, rv, o1⟩
          by_cases hz : xs.length < sizeLine ∧ noLst d = true
          · rw [if_pos hz] at o1
            have h2 := t.keep _ _ (s.lst_np q2) q2
            have s1 := (s.stepB t).1
            obtain ⟨a', vs', w1, w2, w3, _⟩ := s1.own i xs q
            rw [q1] at w1; cases w1
            rw [h2] at w2; cases w2
            refine ⟨a, vs, v, rfl, rfl, h2, by rw [q3.length]; exact hz.1, o1 _ _ _ (s1.chgO q q1 h2 (w3.append (.cons (s.backRep t rv hz.2) .nil)))⟩
          · rw [if_neg hz] at o1; exact o1.elim
        | _ => rw [q] at o; exact o.elim
    · cases h
  | .setf i f e, C, hp, st, h => by
    simp only [mS] at h
    split at h
    · rename_i x p0 g p' v pos
      simp only [Bool.and_eq_true, decide_eq_true_eq] at h
      obtain ⟨⟨⟨⟨h1, h2⟩, h3⟩, rfl⟩, h5⟩ := h
      have ho : PE X (.Name x p0) (tVar i) := pe_var (by rw [C.hN]; exact h1) (by rw [C.hsc]; exact vis_of h2) (okN1 h3) (okN2 h3)
      refine psI (ps_fld ho (soundE e C v h5) swp_att) ?_
      rintro Dn σ H ⟨M, F0, H0, pn, ρ, F, p, s, o⟩
      refine ⟨see ρ, F, pn, p, s.dr, s.ok, (OutS.of (rep := rD G pn) s (by simpa only [evS] using o)).imp ?_⟩
      rintro v H1 ⟨F1, p1, d, e1, t, rv, o1⟩
      have s1 := s.step t
      cases q : ρ[i]? with
      | none => rw [q] at o1; exact o1.elim
      | some z =>
        cases z with
        | w c fs =>
          rw [q] at o1
          simp only at o1
          split at o1
          · rename_i hat
            obtain ⟨a, dx, vs, w1, w2, w3, w4, w5, w6, w7, w8⟩ := s1.mak i c fs q
            have hnd := C.clsF.nd c w8
            rw [C.att] at hat
            have hlt : fs.length < (G.att c).length := (List.getElem?_eq_some_iff.mp hat).1
            refine ⟨.ref a, w1, a, G.cls c, dx, _, rfl, w2, C.clsF.cl c w8, C.clsF.noat c w8 _ (List.mem_of_getElem? hat), ?_, ?_⟩
            · rw [List.length_zip, List.length_take]; have := hnd.2; omega
            · have e2 := putF_snoc (f := f) (v := v) (vs := vs) hnd.1 (by rw [w3]; exact hlt) (by rw [w3]; exact hat)
              rw [w3] at e2
              rw [e2]
              have z := s1.setW q w1 rv w5 hlt w6 w7 (s1.ins_np w2) ⟨_, w2⟩ w8
              rw [List.length_append] at z
              exact o1 _ _ _ z
          · exact o1.elim
        | _ => rw [q] at o1; exact o1.elim
    · cases h
  | .pset f e a, C, hp, st, h => by
    simp only [mS] at h
    split at h
    · rename_i y g k0 p0 p' v pos
      simp only [Bool.and_eq_true, decide_eq_true_eq] at h
      obtain ⟨⟨rfl, h2⟩, h3⟩ := h
      refine psI (ps_dput C.hu1 (soundE a C y h3) pe_str (soundE e C v h2) swp_sub) ?_
      rintro Dn σ H ⟨M, F0, H0, pn, ρ, F, p, s, o⟩
      refine ⟨see ρ, F, pn, p, s.dr, s.ok, (OutS.of (rep := rD G pn) s (by simpa only [evS] using o)).imp ?_⟩
      rintro v H1 ⟨F1, p1, d, e1, t, rv, o1⟩
      have s1 := s.step t
      refine ⟨see ρ, F1, pn, p1, s1.dr, s1.ok, (OutS.of (rep := rD G pn) s1 o1).imp ?_⟩
      rintro w H2 ⟨F2, p2, d2, e2, t2, rw2, o2⟩
      have s2 := s1.step t2
      cases d2 with
      | pen =>
        cases d with
        | int i =>
          cases p2 with
          | none => exact o2.elim
          | some st =>
            simp only at o2
            split at o2
            · rename_i st' hst
              cases rw2 with
              | pen epn =>
                subst epn
                cases rv
                obtain ⟨z1, z2, z3⟩ := s2.ok.pen
                refine ⟨_, _, rfl, DPut.k (k := (Sum.inr f : Key)) (v := .int i) z2 (Nat.lt_of_lt_of_le (show (penK _ st).length < 10 by simp [penK]) (by rw [sizeLine_eq]; decide)), ?_⟩
                rw [(penSet_keys hst).1]
                exact o2 _ _ _ (s2.pen hst)
            · exact o2.elim
        | _ => exact o2.elim
      | _ => exact o2.elim
    · cases h
  | .drop e, C, hp, st, h => by
    simp only [mS] at h
    split at h
    · rename_i v pos
      simp only [Bool.and_eq_true] at h
      refine psI (ps_expr (soundE e C v h.2) (swp_not h.1)) ?_
      rintro Dn σ H ⟨M, F0, H0, pn, ρ, F, p, s, o⟩
      refine ⟨seeB ρ, lend σ ρ F H, pn, p, s.drB, lend_ok s, (OutS.ofB (rep := rD G pn) s (by simpa only [evS] using o)).imp ?_⟩
      rintro v H1 ⟨F1, p1, d, e1, t, rv, o1⟩
      exact o1 _ _ _ (s.stepB t).1
    · cases h
  | .iff c a b, C, hp, st, h => by
    simp only [mS] at h
    split at h
    · rename_i t x y pos
      simp only [Bool.and_eq_true] at h
      refine psI (ps_if (soundT c C t h.1.1) (soundSs a C hp x h.1.2) (soundSs b C hp y h.2)) ?_
      rintro Dn σ H ⟨M, F0, H0, pn, ρ, F, p, s, o⟩
      refine ⟨seeB ρ, lend σ ρ F H, pn, p, s.drB, lend_ok s, (OutS.ofB (rep := rB) s (by simpa only [evS] using o)).imp ?_⟩
      rintro k H1 ⟨F1, p1, k', e1, t, rfl, o1⟩
      have s1 := (s.stepB t).1
      cases k with
      | true => exact ⟨M, F0, H0, pn, ρ, _, p1, s1, o1⟩
      | false => exact ⟨M, F0, H0, pn, ρ, _, p1, s1, o1⟩
    · cases h
  | .whl c b, C, hp, st, h => by
    simp only [mS] at h
    split at h
    · simp only [Bool.and_eq_true] at h
      exact s_whl C hp (soundT c C _ h.1) (soundSs b C hp _ h.2)
    · cases h
  | .for_ tg it b, C, hp, st, h => by
    simp only [mS] at h
    split at h
    · simp only [Bool.and_eq_true] at h
      exact s_for C hp h.1.1.1 h.1.1.2 (soundI it C _ _ h.1.2) (soundSs b C hp _ h.2)
    · cases h
  | .ret e, C, hp, st, h => by
    simp only [mS] at h
    split at h
    · rename_i v pos
      refine psI (ps_ret (soundE e C v h)) ?_
      rintro Dn σ H ⟨M, F0, H0, pn, ρ, F, p, s, o⟩
      refine ⟨seeB ρ, lend σ ρ F H, pn, p, s.drB, lend_ok s, (OutS.ofB (rep := rD G pn) s (by simpa only [evS] using o)).imp ?_⟩
      rintro v H1 ⟨F1, p1, d, e1, t, rv, o1⟩
      exact o1 v H1 F1 (s.stepB t).2 t.ok rv
    · cases h
  | .retN, C, hp, st, h => by
    simp only [mS] at h
    split at h
    · refine psI ps_retN ?_
      rintro Dn σ H ⟨M, F0, H0, pn, ρ, F, p, s, o⟩
      simp only [evS] at o
      exact o .non H F s.since s.ok .non
    · cases h
  | .brk, C, hp, st, h => by
    simp only [mS] at h
    split at h
    · refine psI ps_break ?_
      rintro Dn σ H ⟨M, F0, H0, pn, ρ, F, p, s, o⟩
      simp only [evS] at o
      exact o _ _ _ s
    · cases h
  | .cnt, C, hp, st, h => by
    simp only [mS] at h
    split at h
    · refine psI ps_continue ?_
      rintro Dn σ H ⟨M, F0, H0, pn, ρ, F, p, s, o⟩
      simp only [evS] at o
      exact o _ _ _ s
    · cases h
  | .pas, C, hp, st, h => by
    simp only [mS] at h
    split at h
    · refine psI ps_pass ?_
      rintro Dn σ H ⟨M, F0, H0, pn, ρ, F, p, s, o⟩
      simp only [evS] at o
      exact o _ _ _ s
    · cases h
  | .nvr, C, hp, st, h => by
    refine psI ps_never ?_
    rintro Dn σ H ⟨M, F0, H0, pn, ρ, F, p, s, o⟩
    simp only [evS] at o
    exact o
theorem soundSs : ∀ (ir : ISs) (C : Ctx T S G lv n nc N sc sc E X) (hp : PassesOwn (model X.prog X.w) X.A X.env X.xe) (sts : List Stmt), mSs T n nc N sc ir sts = true → PSs X sts (tSt G E (evSs S ir))
  | .nil, C, hp, sts, h => by
    simp only [mSs] at h
    split at h
    · refine pssI pss_nil ?_
      rintro Dn σ H ⟨M, F0, H0, pn, ρ, F, p, s, o⟩
      simp only [evSs] at o
      exact o _ _ _ s
    · cases h
  | .cons a r, C, hp, sts, h => by
    simp only [mSs] at h
    split at h
    · simp only [Bool.and_eq_true] at h
      refine pssI (pss_cons (soundS a C hp _ h.1) (soundSs r C hp _ h.2)) ?_
      rintro Dn σ H ⟨M, F0, H0, pn, ρ, F, p, s, o⟩
      simp only [evSs] at o
      exact ⟨M, F0, H0, pn, ρ, F, p, s, OutS.seq o⟩
    · cases h
  | .frz i r, C, hp, sts, h => by
    simp only [mSs] at h
    refine pssI (soundSs r C hp sts h) ?_
    rintro Dn σ H ⟨M, F0, H0, pn, ρ, F, p, s, o⟩
    simp only [evSs] at o
    cases q : ρ[i]? with
    | none => rw [q] at o; exact o.elim
    | some z =>
      cases z with
      | o xs =>
        rw [q] at o
        obtain ⟨F', s'⟩ := s.frz q
        exact ⟨M, F0, H0, pn, _, F', p, s', o⟩
      | _ => rw [q] at o; exact o.elim
end
end
end Mi

set_option Elab.async false
set_option linter.all false
set_option maxRecDepth 100000
set_option maxHeartbeats 4000000
namespace Mi
open PySem PySem.Spec PyProof.Rows L2
/-! ### defs -/
/-- what the module's names stand for -/
structure Glob (P : Program) (w : World) (K : PySem.W.Frag) (mg : Str → Option Value) (base : Heap) (T : Tab) (S : Sem0) (G : Ad) (lv : Nat → Nat) (n nc : Nat → Bool) (kk : Nat) : Prop where
  con : ∀ i x v, T.cons[i]? = some (x, v) → S.con i = some v ∧ ∃ t, mg x = some (.int v t)
  fns : ∀ i x m, n i = true → T.fns[i]? = some (x, m) → ∃ fd ps, FnOk P w K mg base (L2.CX P w) (lv i) (G.fad i) fd ps (spOf G m (S.den i)) ∧ (x ≠ ("" : Str) → mg x = some (.ref (G.fad i)) ∧ PySem.W.keepIn K (.ref (G.fad i)) = true) ∧ Binds K fd ps []
  free : ∀ x ∈ bltN, mg x = none
  hnc : G.nc = T.clss.length
  att : S.att = G.att
  clsF : ClsF K G
  clsM : ∀ c x m at_, T.clss[c]? = some (x, m, at_) → mg x = some (.ref (G.cls c))
  mks : ∀ c x m at_, nc c = true → T.clss[c]? = some (x, m, at_) → ∃ f fd ps k, FnOk P w K mg base (L2.CX P w) k f fd ps (spIni G c m (S.ini c)) ∧ Mk K (G.cls c) f ∧ Binds K fd ps [] ∧ k + 1 ≤ kk
  eqs : ∀ c k, (c, k) ∈ T.eqs → n k = true → c < G.nc ∧ ∃ f fd ps, FnOk P w K mg base (L2.CX P w) (lv k) f fd ps (spOf G 2 (S.den k)) ∧ Binds K fd ps [] ∧ lv k + 1 ≤ kk ∧
    PySem.W.findIn K (.ref (G.cls c)) "__ne__" = some (some (.builtin "object.__ne__")) ∧ PySem.W.findIn K (.ref (G.cls c)) "__eq__" = some (some (.ref f)) ∧ PySem.W.isFn K (.ref f) = true
  room : ∀ i, n i = true → lv i ≤ kk
theorem Glob.mono {P : Program} {w : World} {K : PySem.W.Frag} {mg : Str → Option Value} {base : Heap} {T : Tab} {S : Sem0} {G : Ad} {lv : Nat → Nat} {n nc : Nat → Bool} {kk k2 : Nat} (g : Glob P w K mg base T S G lv n nc kk) (h : kk ≤ k2) : Glob P w K mg base T S G lv n nc k2 :=
  { g with
    mks := fun c x m at_ h1 h2 => let ⟨f, fd, ps, k, a, b, c, d⟩ := g.mks c x m at_ h1 h2; ⟨f, fd, ps, k, a, b, c, Nat.le_trans d h⟩
    eqs := fun c k h1 h2 => let ⟨a, f, fd, ps, b, c, d, e⟩ := g.eqs c k h1 h2; ⟨a, f, fd, ps, b, c, Nat.le_trans d h, e⟩
    room := fun i hi => Nat.le_trans (g.room i hi) h }
section
variable {P : Program} {w : World} {K : PySem.W.Frag} {mg : Str → Option Value} {base : Heap} {T : Tab} {S : Sem0} {G : Ad} {lv : Nat → Nat} {n nc : Nat → Bool} {kk : Nat}
theorem Glob.ctx (g : Glob P w K mg base T S G lv n nc kk) {N : List Str} (nd : N.Nodup) {qual : Str} {scope : Scope} {f : Addr} {cd : Value} {A : Around} {outer : List Env} {s : Shared} {H : Hp} {E : XK}
    (hr : Room kk (A.deeper (envOfC qual scope s.heap.objs.size f cd))) : Ctx T S G lv n nc N scope scope E (cxOf (L2.CX P w) P w K mg base N qual scope f cd A outer s H E) where
  hN := rfl
  nd := nd
  hsc := rfl
  loc := fun x h => by
    refine ⟨?_, .inl rfl⟩
    unfold locB at h
    show L2.Loc scope x
    unfold L2.Loc
    cases q : scope.names.lookup x with
    | none => rw [q] at h; cases h
    | some k => rw [q] at h; cases k <;> first | exact .inl rfl | exact .inr rfl | cases h
  calm := rfl
  units := by have := hr.un; exact (show (A.deeper (envOfC qual scope s.heap.objs.size f cd)).units + 64 < cLine by omega)
  room := fun i hi => hr.mono (g.room i hi)
  con := g.con
  fns := g.fns
  free := g.free
  hnc := g.hnc
  att := g.att
  clsF := g.clsF
  clsM := g.clsM
  mks := fun c x m at_ h1 h2 => let ⟨f, fd, ps, k, a, b, c, d⟩ := g.mks c x m at_ h1 h2; ⟨f, fd, ps, k, a, b, c, hr.mono d⟩
  eqs := fun c k h1 h2 => let ⟨a, f, fd, ps, b, c, d, e⟩ := g.eqs c k h1 h2; ⟨a, f, fd, ps, b, c, hr.mono d, e⟩
  pass := passes_call (X := cxOf (L2.CX P w) P w K mg base N qual scope f cd A outer s H E) (takes_of rfl rfl rfl rfl) (fun _ _ _ _ h => h)
/-- the scope of a plain def -/
def scB (N : List Str) (m : Nat) (sc : Scope) : Bool := decide (sc.kind = .function) && !sc.isCoroutine && !sc.isGenerator && decide N.Nodup && decide (m ≤ N.length) && (N.take m).all (locB sc) && sc.names.all (fun y => decide (y.2 ≠ .free))
theorem scB_ok {N : List Str} {m : Nat} {sc : Scope} (h : scB N m sc = true) : FnScope N (N.take m) sc ∧ N.Nodup ∧ m ≤ N.length := by
  unfold scB at h
  simp only [Bool.and_eq_true, decide_eq_true_eq, Bool.not_eq_true', List.all_eq_true] at h
  obtain ⟨⟨⟨⟨⟨⟨h1, h2⟩, h3⟩, h4⟩, h5⟩, h6⟩, h7⟩ := h
  refine ⟨⟨h1, h2, h3, h4, ?_, fun x hx => ?_, h7⟩, h4, h5⟩
  · rw [List.length_take, Nat.min_eq_left h5]
  · have z := h6 x hx
    unfold locB at z
    cases q : sc.names.lookup x with
    | none => rw [q] at z; cases z
    | some k => rw [q] at z; cases k <;> first | exact .inl rfl | exact .inr rfl | cases z
theorem reps_get {pn : PN} {F : Hp} : ∀ {vs : List V} {ds : List D}, Reps G pn F vs ds → ∀ (i : Nat) d, ds[i]? = some d → ∃ v, vs[i]? = some v ∧ Rep G pn F v d
  | _, _, .nil, i, d, h => by simp at h
  | _, _, .cons r t, 0, d, h => by simp at h; subst h; exact ⟨_, rfl, r⟩
  | _, _, .cons r t, i + 1, d, h => by simpa using reps_get t i d (by simpa using h)
/-- the slots at the start -/
theorem start_dat {pn : PN} {F : Hp} {N : List Str} {vs : List V} {ds : List D} (r : Reps G pn F vs ds) {i : Nat} {d : D} (h : (ds.map Sl.d ++ List.replicate (N.length - ds.length) Sl.u)[i]? = some (.d d)) : ∃ v, (L2.start N vs)[i]? = some (some v) ∧ Rep G pn F v d := by
  by_cases hi : i < ds.length
  · rw [List.getElem?_append_left (by simpa using hi), List.getElem?_map] at h
    cases q : ds[i]? with
    | none => rw [q] at h; cases h
    | some e =>
      rw [q] at h
      cases h
      obtain ⟨v, hv, rv⟩ := reps_get r i _ q
      refine ⟨v, ?_, rv⟩
      unfold L2.start
      rw [List.getElem?_append_left (by rw [List.length_map]; exact (List.getElem?_eq_some_iff.mp hv).1), List.getElem?_map, hv]
      rfl
  · rw [List.getElem?_append_right (by simpa using hi), List.getElem?_replicate] at h
    split at h <;> cases h
theorem start_no {α : Type} {ds : List D} {k i : Nat} {x : Sl} (h : (ds.map Sl.d ++ List.replicate k Sl.u)[i]? = some x) : x = .u ∨ ∃ d, x = .d d := by
  have hm := List.mem_of_getElem? h
  rcases List.mem_append.mp hm with z | z
  · obtain ⟨d, _, rfl⟩ := List.mem_map.mp z; exact .inr ⟨d, rfl⟩
  · exact .inl (List.eq_of_mem_replicate z)
theorem Since.stepI {pn : PN} {p : PenS} {F H F' H' : Hp} (s : Since (IsPen pn) F H F' H') (ok : FOk F' H' pn p) : Step pn p F H F' H' := ⟨s.keep, s.there, s.same, s.new, ok⟩
/-- A DEF keeps its meaning's promise -/
theorem fn_ok (g : Glob P w K mg base T S G lv n nc kk) {x qual : Str} {params : Arguments} {body : List Stmt} {scope : Scope} {f : Addr} {fd : FuncData} (F : FunD K x qual params body scope [] [] f fd)
    {N : List Str} {m : Nat} {ir : ISs} (hs : scB N m scope = true) (hm : mSs T n nc N scope ir body = true) : FnOk P w K mg base (L2.CX P w) (kk + 1) f fd (N.take m) (spOf G m (evFn S N.length ir)) := by
  obtain ⟨S0, nd, hl⟩ := scB_ok hs
  have hlt : (N.take m).length = m := by rw [List.length_take, Nat.min_eq_left hl]
  refine F.ok S0 (fun vs H Q E h => by rw [hlt]; exact h.1) (fun cdv A outer s H vs Q E hr h => ?_)
  have C := g.ctx (E := E) nd (qual := qual) (scope := scope) (f := f) (cd := cdv) (outer := outer) (s := s) (H := H) hr
  refine ⟨_, soundSs ir C (passes_of rfl) body hm, ?_⟩
  obtain ⟨hvl, F, pn, p, ds, fk, rs, o⟩ := h
  have hdl : ds.length = m := by rw [← rs.length, hvl]
  refine ⟨IsPen pn, F, H, pn, ds.map Sl.d ++ List.replicate (N.length - ds.length) .u, F, p, ?_, ?_⟩
  · exact {
      len := by unfold L2.start; simp only [List.length_append, List.length_map, List.length_replicate]; rw [hvl, hdl]
      dat := fun i d e => start_dat rs e
      own := fun i xs e => by rcases start_no (α := Nat) e with z | ⟨d, z⟩ <;> cases z
      inj := fun i j xs ys a e => by rcases start_no (α := Nat) e with z | ⟨d, z⟩ <;> cases z
      mak := fun i c fs e => by rcases start_no (α := Nat) e with z | ⟨d, z⟩ <;> cases z
      one := fun i j c fs c' fs' e => by rcases start_no (α := Nat) e with z | ⟨d, z⟩ <;> cases z
      since := ⟨fun _ _ _ e => e, fun _ e => e, Same.refl F, fun _ e => .inl e⟩
      ok := fk
      mp := fun _ h => h }
  · unfold evFn at o
    cases q : evSs S ir (ds.map Sl.d ++ List.replicate (N.length - ds.length) .u) p with
    | stuck => rw [q] at o; exact o.elim
    | err c fs p' => rw [q] at o; exact fun F' H' dx t ok xa => o F' H' dx (t.stepI ok) xa
    | ok a p' =>
      rw [q] at o
      obtain ⟨fl, ρ'⟩ := a
      cases fl with
      | nx => exact fun σ' H' F' s => o .non F' H' (s.since.stepI s.ok) .non
      | bk => exact o.elim
      | ct => exact o.elim
      | rt d => exact fun v H' F' t ok rv => o v F' H' (t.stepI ok) rv
/-- AN __init__ keeps its promise -/
theorem ini_ok (g : Glob P w K mg base T S G lv n nc kk) {x qual : Str} {params : Arguments} {body : List Stmt} {scope : Scope} {f : Addr} {fd : FuncData} (F : FunD K x qual params body scope [] [] f fd)
    {N : List Str} {c m : Nat} {ir : ISs} (hc : c < G.nc) (hs : scB N (m + 1) scope = true) (hm : mSs T n nc N scope ir body = true) : FnOk P w K mg base (L2.CX P w) (kk + 1) f fd (N.take (m + 1)) (spIni G c m (evIni S N.length c ir)) := by
  obtain ⟨S0, nd, hl⟩ := scB_ok hs
  have hlt : (N.take (m + 1)).length = m + 1 := by rw [List.length_take, Nat.min_eq_left hl]
  refine F.ok S0 (fun vs H Q E h => by rw [hlt]; exact h.1) (fun cdv A outer s H vs Q E hr h => ?_)
  have C := g.ctx (E := E) nd (qual := qual) (scope := scope) (f := f) (cd := cdv) (outer := outer) (s := s) (H := H) hr
  refine ⟨_, soundSs ir C (passes_of rfl) body hm, ?_⟩
  obtain ⟨hvl, y, dx, args, rfl, hy, F, pn, p, ds, fk, hFy, rs, o⟩ := h
  have hal : args.length = m := by simpa using hvl
  have hdl : ds.length = m := by rw [← rs.length, hal]
  have hnp : ¬ IsPen pn y := fun q => by
    obtain ⟨kvs, e⟩ := fk.penK q
    rw [hy] at e; cases e
  have hst : ∀ i, (L2.start N (.ref y :: args))[i + 1]? = (args.map some ++ List.replicate (N.length - 1 - args.length) none)[i]? := fun i => by
    unfold L2.start
    simp only [List.map_cons, List.cons_append, List.length_cons, List.getElem?_cons_succ]
    rw [show N.length - (args.length + 1) = N.length - 1 - args.length from by omega]
  refine ⟨fun a => IsPen pn a ∨ a = y, F, H, pn, .w c [] :: (ds.map Sl.d ++ List.replicate (N.length - 1 - ds.length) .u), F, p, ?_, ?_⟩
  · exact {
      len := by unfold L2.start; simp only [List.length_append, List.length_map, List.length_replicate, List.length_cons]; omega
      dat := fun i d e => by
        cases i with
        | zero => cases e
        | succ i =>
          rw [List.getElem?_cons_succ] at e
          have z := start_dat (G := G) (N := List.replicate (N.length - 1) ("" : Str)) rs (by rw [List.length_replicate]; exact e)
          obtain ⟨v, hv, rv⟩ := z
          refine ⟨v, ?_, rv⟩
          rw [hst i]
          unfold L2.start at hv
          rw [List.length_replicate] at hv
          exact hv
      own := fun i xs e => by
        cases i with
        | zero => cases e
        | succ i => rw [List.getElem?_cons_succ] at e; rcases start_no (α := Nat) e with z | ⟨d, z⟩ <;> cases z
      inj := fun i j xs ys a e => by
        cases i with
        | zero => cases e
        | succ i => rw [List.getElem?_cons_succ] at e; rcases start_no (α := Nat) e with z | ⟨d, z⟩ <;> cases z
      mak := fun i c' fs e => by
        cases i with
        | zero =>
          cases e
          exact ⟨y, dx, [], rfl, by simpa using hy, rfl, Nat.zero_le _, .nil, hFy, .inr rfl, hc⟩
        | succ i => rw [List.getElem?_cons_succ] at e; rcases start_no (α := Nat) e with z | ⟨d, z⟩ <;> cases z
      one := fun i j c1 f1 c2 f2 e1 e2 => by
        cases i with
        | zero =>
          cases j with
          | zero => rfl
          | succ j => rw [List.getElem?_cons_succ] at e2; rcases start_no (α := Nat) e2 with z | ⟨d, z⟩ <;> cases z
        | succ i => rw [List.getElem?_cons_succ] at e1; rcases start_no (α := Nat) e1 with z | ⟨d, z⟩ <;> cases z
      since := ⟨fun _ _ _ e => e, fun _ e => e, Same.refl F, fun _ e => .inl e⟩
      ok := fk
      mp := fun _ h => .inl h }
  · unfold evIni at o
    cases q : evSs S ir (.w c [] :: (ds.map Sl.d ++ List.replicate (N.length - 1 - ds.length) .u)) p with
    | stuck => rw [q] at o; exact o.elim
    | err k fs p' =>
      rw [q] at o
      exact fun F' H' dx t ok xa => o F' H' dx (fun a u na hne e => t.keep a u (fun z => z.elim na hne) e) t.there t.same t.new ok xa
    | ok a p' =>
      rw [q] at o
      obtain ⟨fl, ρ'⟩ := a
      simp only [R.bind_ok] at o
      cases fl with
      | nx =>
        cases q2 : ρ'[0]? with
        | none => rw [q2] at o; exact o.elim
        | some z =>
          cases z with
          | w c' fs =>
            rw [q2] at o
            by_cases hcf : c' = c ∧ fs.length = (S.att c).length
            · simp only [if_pos hcf] at o
              obtain ⟨rfl, hfl⟩ := hcf
              rw [g.att] at hfl
              intro σ' H' F' s'
              obtain ⟨a, dx', vs', w1, w2, w3, w4, w5, w6, w7, w8⟩ := s'.mak 0 c' fs q2
              have hay : a = y := w7.elim (fun z => absurd z (s'.ins_np w2)) id
              subst hay
              have htk : (G.att c').take fs.length = G.att c' := by rw [hfl, List.take_length]
              rw [htk] at w2
              exact o F' H' vs' dx' (fun a u na hne e => s'.since.keep a u (fun z => z.elim na hne) e) s'.since.there s'.since.same s'.since.new s'.ok w6 w2 (by rw [w3, hfl]) w5
            · simp only [if_neg hcf] at o
          | _ => rw [q2] at o; exact o.elim
      | bk => exact o.elim
      | ct => exact o.elim
      | rt d => exact o.elim
end
end Mi

set_option Elab.async false
set_option linter.all false
set_option maxRecDepth 100000
set_option maxHeartbeats 4000000
namespace Mi
open PySem PySem.Spec PyProof.Rows L2
/-! ### the defs of a law, one after another -/
noncomputable def stuckD : Den := fun _ _ => .stuck
abbrev Ini := List D → PenS → R (List D)
noncomputable def mkS (con : List (Str × Int)) (att : Nat → List Str) (L : List Den) (I : List Ini) : Sem0 where
  con := fun k => (con[k]?).map (·.2)
  den := fun k => L.getD k stuckD
  ini := fun c => I.getD c fun _ _ => .stuck
  att := att
def nOf (lv : Nat → Nat) (m kk : Nat) : Nat → Bool := fun i => decide (i < m) && decide (lv i + 1 ≤ kk)
structure LawEnv (P : Program) (w : World) (K : PySem.W.Frag) (mg : Str → Option Value) (base : Heap) (T : Tab) (G : Ad) (lv ilv : Nat → Nat) (L : List Den) (I : List Ini) : Prop where
  con : ∀ (i : Nat) x v, T.cons[i]? = some (x, v) → ∃ t, mg x = some (.int v t)
  fns : ∀ (i : Nat) x m, i < L.length → T.fns[i]? = some (x, m) → ∃ fd ps, FnOk P w K mg base (L2.CX P w) (lv i) (G.fad i) fd ps (spOf G m (L.getD i stuckD)) ∧ (x ≠ ("" : Str) → mg x = some (.ref (G.fad i)) ∧ PySem.W.keepIn K (.ref (G.fad i)) = true) ∧ Binds K fd ps []
  free : ∀ x ∈ bltN, mg x = none
  hnc : G.nc = T.clss.length
  clsF : ClsF K G
  clsM : ∀ (c : Nat) x m at_, T.clss[c]? = some (x, m, at_) → mg x = some (.ref (G.cls c))
  mks : ∀ (c : Nat) x m at_, c < I.length → T.clss[c]? = some (x, m, at_) → ∃ f fd ps, FnOk P w K mg base (L2.CX P w) (ilv c) f fd ps (spIni G c m (I.getD c fun _ _ => .stuck)) ∧ Mk K (G.cls c) f ∧ Binds K fd ps []
  eqs : ∀ (c k : Nat), (c, k) ∈ T.eqs → c < G.nc ∧ (T.fns[k]?).map (·.2) = some 2 ∧ PySem.W.findIn K (.ref (G.cls c)) "__ne__" = some (some (.builtin "object.__ne__")) ∧ PySem.W.findIn K (.ref (G.cls c)) "__eq__" = some (some (.ref (G.fad k))) ∧ PySem.W.isFn K (.ref (G.fad k)) = true
section
variable {P : Program} {w : World} {K : PySem.W.Frag} {mg : Str → Option Value} {base : Heap} {T : Tab} {G : Ad} {lv ilv : Nat → Nat} {L : List Den} {I : List Ini}
theorem LawEnv.glob (e : LawEnv P w K mg base T G lv ilv L I) (kk : Nat) : Glob P w K mg base T (mkS T.cons G.att L I) G lv (nOf lv L.length kk) (nOf ilv I.length kk) kk where
  con := fun i x v h => ⟨by show (T.cons[i]?).map (·.2) = some v; rw [h]; rfl, e.con i x v h⟩
  fns := fun i x m hi h => e.fns i x m (by unfold nOf at hi; simp only [Bool.and_eq_true, decide_eq_true_eq] at hi; exact hi.1) h
  free := e.free
  hnc := e.hnc
  att := rfl
  clsF := e.clsF
  clsM := e.clsM
  mks := fun c x m at_ hc h => by
    unfold nOf at hc
    simp only [Bool.and_eq_true, decide_eq_true_eq] at hc
    obtain ⟨f, fd, ps, a, b, d⟩ := e.mks c x m at_ hc.1 h
    exact ⟨f, fd, ps, ilv c, a, b, d, hc.2⟩
  eqs := fun c k h hk => by
    unfold nOf at hk
    simp only [Bool.and_eq_true, decide_eq_true_eq] at hk
    obtain ⟨h1, h2, h3, h4, h5⟩ := e.eqs c k h
    cases q : T.fns[k]? with
    | none => rw [q] at h2; cases h2
    | some z =>
      obtain ⟨x, m⟩ := z
      rw [q] at h2
      cases h2
      obtain ⟨fd, ps, a, b, d⟩ := e.fns k x 2 hk.1 q
      exact ⟨h1, G.fad k, fd, ps, a, d, hk.2, h3, h4, h5⟩
  room := fun i hi => by unfold nOf at hi; simp only [Bool.and_eq_true, decide_eq_true_eq] at hi; omega
theorem getD_snoc {α : Type} {l : List α} {a d : α} {i : Nat} (h : i < (l ++ [a]).length) : (i < l.length ∧ (l ++ [a]).getD i d = l.getD i d) ∨ (i = l.length ∧ (l ++ [a]).getD i d = a) := by
  rw [List.length_append, List.length_singleton] at h
  by_cases hi : i < l.length
  · refine .inl ⟨hi, ?_⟩
    rw [List.getD_eq_getElem?_getD, List.getD_eq_getElem?_getD, List.getElem?_append_left hi]
  · have e : i = l.length := by omega
    subst e
    refine .inr ⟨rfl, ?_⟩
    rw [List.getD_eq_getElem?_getD, List.getElem?_append_right (Nat.le_refl _)]
    simp
/-- one more def that is called by its number -/
theorem LawEnv.add (e : LawEnv P w K mg base T G lv ilv L I) {x : Str} {m : Nat} {dn : Den} {fd : FuncData} {ps : List Str} (hT : T.fns[L.length]? = some (x, m))
    (F : FnOk P w K mg base (L2.CX P w) (lv L.length) (G.fad L.length) fd ps (spOf G m dn)) (hg : x ≠ ("" : Str) → mg x = some (.ref (G.fad L.length)) ∧ PySem.W.keepIn K (.ref (G.fad L.length)) = true) (hb : Binds K fd ps []) :
    LawEnv P w K mg base T G lv ilv (L ++ [dn]) I :=
  { e with
    fns := fun i x' m' hi h => by
      rcases getD_snoc (d := stuckD) hi with ⟨h1, h2⟩ | ⟨rfl, h2⟩
      · rw [h2]; exact e.fns i x' m' h1 h
      · rw [h2]
        rw [hT] at h
        cases h
        exact ⟨fd, ps, F, hg, hb⟩ }
theorem LawEnv.fn (e : LawEnv P w K mg base T G lv ilv L I) {x nm qual : Str} {params : Arguments} {body : List Stmt} {scope : Scope} {fd : FuncData} {N : List Str} {m : Nat} (ir : ISs) (kk : Nat) (F : FunD K nm qual params body scope [] [] (G.fad L.length) fd)
    (hT : T.fns[L.length]? = some (x, m)) (hlv : lv L.length = kk + 1) (hs : scB N m scope = true) (hm : mSs T (nOf lv L.length kk) (nOf ilv I.length kk) N scope ir body = true) (hg : x ≠ ("" : Str) → mg x = some (.ref (G.fad L.length))) (hb : Binds K fd (N.take m) []) :
    LawEnv P w K mg base T G lv ilv (L ++ [evFn (mkS T.cons G.att L I) N.length ir]) I :=
  e.add hT (by rw [hlv]; exact fn_ok (e.glob kk) F hs hm) (fun h => ⟨hg h, F.kp⟩) hb
/-- one that is never called so deep -/
theorem LawEnv.nev (e : LawEnv P w K mg base T G lv ilv L I) {x nm qual : Str} {params : Arguments} {body : List Stmt} {scope : Scope} {fd : FuncData} {N : List Str} {m : Nat} (F : FunD K nm qual params body scope [] [] (G.fad L.length) fd)
    (hT : T.fns[L.length]? = some (x, m)) (hl : (N.take m).length = m) (hg : x ≠ ("" : Str) → mg x = some (.ref (G.fad L.length))) (hb : Binds K fd (N.take m) []) :
    LawEnv P w K mg base T G lv ilv (L ++ [stuckD]) I :=
  e.add hT ⟨fun vs H Q E h => by rw [hl]; exact h.1, fun A outer s H args us vs Q E hr e0 hb hv h => by obtain ⟨_, F, pn, p, ds, _, _, o⟩ := h; exact o.elim⟩ (fun h => ⟨hg h, F.kp⟩) hb
theorem LawEnv.ini (e : LawEnv P w K mg base T G lv ilv L I) {nm qual : Str} {params : Arguments} {body : List Stmt} {scope : Scope} {f : Addr} {fd : FuncData} {N : List Str} {m : Nat} {x : Str} {at_ : List Str} (ir : ISs) (kk : Nat) (F : FunD K nm qual params body scope [] [] f fd)
    (hT : T.clss[I.length]? = some (x, m, at_)) (hlv : ilv I.length = kk + 1) (hs : scB N (m + 1) scope = true) (hm : mSs T (nOf lv L.length kk) (nOf ilv I.length kk) N scope ir body = true) (hM : Mk K (G.cls I.length) f) (hb : Binds K fd (N.take (m + 1)) []) :
    LawEnv P w K mg base T G lv ilv L (I ++ [evIni (mkS T.cons G.att L I) N.length I.length ir]) :=
  { e with
    mks := fun c x' m' at' hc h => by
      rcases getD_snoc (d := fun _ _ => .stuck) hc with ⟨h1, h2⟩ | ⟨rfl, h2⟩
      · rw [h2]; exact e.mks c x' m' at' h1 h
      · rw [h2]
        rw [hT] at h
        cases h
        have hcn : I.length < G.nc := by rw [e.hnc]; exact (List.getElem?_eq_some_iff.mp hT).1
        exact ⟨f, fd, N.take (m + 1), by rw [hlv]; exact ini_ok (e.glob kk) F hcn hs hm, hM, hb⟩ }
end
/-! ### the pen of a law -/
def foldOf (ns : List Int) : Int := ns.foldl (fun f c => (f * 47 + c).fmod 1000000007) 0
def pen0 (ns : List Int) : Pen := { cells := ns, at_ := 0, digits := 0, count := 0, fold := foldOf ns }
theorem foldOf_bd (ns : List Int) : 0 ≤ foldOf ns ∧ foldOf ns < 1000000007 := by
  unfold foldOf
  have h : ∀ (ns : List Int) (f : Int), 0 ≤ f → f < 1000000007 → 0 ≤ ns.foldl (fun f c => (f * 47 + c).fmod 1000000007) f ∧ ns.foldl (fun f c => (f * 47 + c).fmod 1000000007) f < 1000000007 := by
    intro ns
    induction ns with
    | nil => exact fun f h1 h2 => ⟨h1, h2⟩
    | cons c ns ih => exact fun f h1 h2 => ih _ (Int.fmod_nonneg_of_pos _ (by decide)) (Int.fmod_lt_of_pos _ (by decide))
  exact h ns 0 (by decide) (by decide)
def penE : IE := .bin .mod (.blt .int (.cons (.bin .add (.bin .mul (.var 1) (.int 47)) (.var 2)) .nil)) (.int 1000000007)
def penN : List Str := ["script", "fold", "cell"]
def isNm (x : Str) : Expr → Bool
  | .Name y _ => decide (y = x)
  | _ => false
def isI0 : Expr → Bool
  | .Constant (.int i) _ _ => decide (i = 0)
  | _ => false
def isS (x : Str) : Option Expr → Bool
  | some (.Constant (.str y) _ _) => decide (y = x)
  | _ => false
def isLs : Expr → Bool
  | .Call (.Name f _) [.Name x _] [] _ => decide (f = ("list" : Str)) && decide (x = ("script" : Str))
  | _ => false
def mPen (T : Tab) (sc : Scope) : List Stmt → Bool
  | [.Assign [.Name a1 _] c1 _, .For (.Name a2 _) (.Name a3 _) [.Assign [.Name a4 _] e _] [] _, .Return (some (.Dict [k1, k2, k3, k4, k5] [v1, v2, v3, v4, v5] _)) _] =>
    decide (a1 = ("fold" : Str)) && decide (a2 = ("cell" : Str)) && decide (a3 = ("script" : Str)) && decide (a4 = ("fold" : Str)) && isI0 c1 && mE T (fun _ => false) (fun _ => false) penN sc penE e && ncomp e
    && isS "cells" k1 && isS "at" k2 && isS "digits" k3 && isS "count" k4 && isS "fold" k5 && isLs v1 && isI0 v2 && isI0 v3 && isI0 v4 && isNm "fold" v5
    && scB penN 1 sc && locB sc "script" && locB sc "fold" && locB sc "cell" && gloB sc "list"
  | _ => false
def spPen (K : PySem.W.Frag) : Sp := fun vs H Q _ => ∃ (a : Addr) (ns : List Int), vs = [.ref a] ∧ SqL K H a (ns.map V.int) ∧ ∀ pa ca H', pa ≠ ca → H' pa = some (.dK (penK ca (pen0 ns))) → H' ca = some (.lst (ns.map V.int)) → Q (.ref pa) H'
theorem pe_i0 {X : Cx} {e : Expr} (h : isI0 e = true) : PE X e (tC (.int 0)) := by
  unfold isI0 at h
  split at h
  · cases of_decide_eq_true h; exact pe_int
  · cases h
theorem evPen {S : Sem0} {d : Option D} {f c : Int} {p : PenS} (h1 : 0 ≤ f) (h2 : f < 1000000007) : evE S penE [d, some (.int f), some (.int c)] p = .ok (.int ((f * 47 + c).fmod 1000000007)) p := by
  have hm : mulOk f 47 := by
    unfold mulOk CMul
    left
    omega
  simp [penE, evE, evEs, bin, bfn, hm]
end Mi

set_option Elab.async false
set_option linter.all false
set_option maxRecDepth 100000
set_option maxHeartbeats 4000000
namespace Mi
open PySem PySem.Spec PyProof.Rows L2
section
variable {P : Program} {w : World} {K : PySem.W.Frag} {mg : Str → Option Value} {base : Heap} {T : Tab} {G : Ad} {lv ilv : Nat → Nat} {L : List Den} {I : List Ini}
theorem foldOf_snoc (ns : List Int) (i : Nat) (c : Int) (h : ns[i]? = some c) : foldOf (ns.take (i + 1)) = (foldOf (ns.take i) * 47 + c).fmod 1000000007 := by
  have e : ns.take (i + 1) = ns.take i ++ [c] := by
    rw [List.take_add_one, h]; rfl
  rw [e]
  unfold foldOf
  rw [List.foldl_append]
  rfl
theorem pe_nm {X : Cx} {N : List Str} {sc : Scope} {e : Expr} {x : Str} {i : Nat} (hN : X.N = N) (hs : X.env.scope = sc) (h : isNm x e = true) (hi : N[i]? = some x) (hl : locB sc x = true) (ho : okN x = true) : PE X e (tVar i) := by
  unfold isNm at h
  split at h
  · cases of_decide_eq_true h
    refine pe_var (by rw [hN]; exact hi) ?_ (okN1 ho) (okN2 ho)
    rw [hs]
    unfold locB at hl
    unfold Vis
    cases q : sc.names.lookup x with
    | none => rw [q] at hl; cases hl
    | some k => rw [q] at hl; cases k <;> first | exact .inl rfl | exact .inr (.inl rfl) | cases hl
  · cases h
theorem pe_s {X : Cx} {e : Option Expr} {x : Str} (h : isS x e = true) : ∃ e', e = some e' ∧ PE X e' (tC (.str x)) := by
  unfold isS at h
  split at h
  · cases of_decide_eq_true h; exact ⟨_, rfl, pe_str⟩
  · cases h
theorem merge_pen (ca : Addr) (st : Pen) : mergeK [] (penK ca st) = penK ca st := by
  have h : ∀ (a b : Str), a ≠ b → ((Sum.inr a : Key) = Sum.inr b) = False := fun a b h => by simp [h]
  rfl
theorem pen_ok (e : LawEnv P w K mg base T G lv ilv L I) {nm qual : Str} {params : Arguments} {body : List Stmt} {scope : Scope} {f : Addr} {fd : FuncData} (F : FunD K nm qual params body scope [] [] f fd) (hck : mPen T scope body = true) :
    FnOk P w K mg base (L2.CX P w) 2 f fd ["script"] (spPen K) := by
  unfold mPen at hck
  split at hck
  · rename_i a1 pa1 c1 ps1 a2 pa2 a3 pa3 a4 pa4 ee ps4 ps5 k1 k2 k3 k4 k5 v1 v2 v3 v4 v5 pd ps6
    simp only [Bool.and_eq_true, decide_eq_true_eq] at hck
    obtain ⟨⟨⟨⟨⟨⟨⟨⟨⟨⟨⟨⟨⟨⟨⟨⟨⟨⟨⟨⟨⟨rfl, rfl⟩, rfl⟩, rfl⟩, q5⟩, q6⟩, q7⟩, q8⟩, q9⟩, q10⟩, q11⟩, q12⟩, q13⟩, q14⟩, q15⟩, q16⟩, q17⟩, q18⟩, q19⟩, q20⟩, q21⟩, q22⟩ := hck
    obtain ⟨S0, nd, hl⟩ := scB_ok q18
    have gl := (e.glob 1).mono (Nat.le_refl 1)
    refine F.ok (k := 1) S0 (fun vs H Q E h => by obtain ⟨a, ns, rfl, _⟩ := h; rfl) (fun cdv A outer s H vs Q E hr h => ?_)
    have C0 := gl.ctx (E := E) nd (qual := qual) (scope := scope) (f := f) (cd := cdv) (outer := outer) (s := s) (H := H) hr
    have C : Ctx T (mkS T.cons G.att L I) G lv (fun _ => false) (fun _ => false) penN scope scope E (cxOf (L2.CX P w) P w K mg base penN qual scope f cdv A outer s H E) :=
      { C0 with
        room := fun i hi => by cases hi
        fns := fun i x m hi => by cases hi
        mks := fun c x m at_ hi => by cases hi
        eqs := fun c k _ hi => by cases hi }
    generalize hX : cxOf (L2.CX P w) P w K mg base penN qual scope f cdv A outer s H E = X at C
    have hKX : X.K = K := by rw [← hX]; rfl
    have hp : PassesOwn (model X.prog X.w) X.A X.env X.xe := by rw [← hX]; exact passes_of rfl
    have nx : ∀ x, locB scope x = true → L2.Loc X.env.scope x ∧ (X.fn x = true ∨ X.env.scope.names.lookup x = some .local) := C.loc
    have nX : X.N.Nodup := by rw [C.hN]; exact C.nd
    have hsX : X.env.scope = scope := C.hsc
    have i0 : X.N[0]? = some ("script" : Str) := by rw [C.hN]; rfl
    have i1 : X.N[1]? = some ("fold" : Str) := by rw [C.hN]; rfl
    have i2 : X.N[2]? = some ("cell" : Str) := by rw [C.hN]; rfl
    have st1 : PS X (.Assign [.Name "fold" pa1] c1 ps1) (tAsg (tC (.int 0)) (gName 1)) := ps_set nX i1 (nx _ q20).1 (pe_i0 q5) (swp_not (by unfold isI0 at q5; split at q5; rfl; cases q5)) (nx _ q20).2
    have scr : ∀ p, PE X (.Name "script" p) (tVar 0) := fun p => pe_nm (C.hN) hsX (x := "script") (e := .Name "script" p) (by simp [isNm]) rfl q19 (by decide +kernel)
    have asg : PS X (.Assign [.Name "fold" pa4] ee ps4) (tAsg (tE G E (evE (mkS T.cons G.att L I) penE)) (gName 1)) := ps_set nX i1 (nx _ q20).1 (soundE penE C ee q6) (swp_not q7) (nx _ q20).2
    have st2 : PS X (.For (.Name "cell" pa2) (.Name "script" pa3) [.Assign [.Name "fold" pa4] ee ps4] [] ps5) (tFor (iList X.K (tVar 0)) (gName 2) (tAsg (tE G E (evE (mkS T.cons G.att L I) penE)) (gName 1))) :=
      ps_for hp C.calm (pi_list (scr pa3)) (pg_name nX i2 (nx _ q21).1 (nx _ q21).2) (pss_one asg) (fun z => rfl)
    obtain ⟨k1', rfl, pk1⟩ := pe_s (X := X) q8
    obtain ⟨k2', rfl, pk2⟩ := pe_s (X := X) q9
    obtain ⟨k3', rfl, pk3⟩ := pe_s (X := X) q10
    obtain ⟨k4', rfl, pk4⟩ := pe_s (X := X) q11
    obtain ⟨k5', rfl, pk5⟩ := pe_s (X := X) q12
    have ls : PE X v1 (tCB (fun xs H Q => ∃ p ys, xs = [.ref p] ∧ (SqL X.K H p ys ∨ SqT X.K H p ys) ∧ ∀ l, H l = none → Q (.ref l) (upd H l (.lst ys))) (fun σ H Q => tVar 0 σ H fun x H1 => Q [x] H1)) := by
      unfold isLs at q13
      split at q13
      · simp only [Bool.and_eq_true, decide_eq_true_eq] at q13
        obtain ⟨rfl, rfl⟩ := q13
        exact pe_callTy call_list_of (glo_of C.hsc q22) (C.free _ (bf_free .list)) (boot_bf .list) (paI (pa_cons (scr _) pa_nil rfl) fun σ H Q q => q) (bf_main .list) (by decide +kernel)
      · cases q13
    have d5 : PE X v5 (tVar 1) := pe_nm C.hN hsX q17 rfl q20 (by decide +kernel)
    have st3 := ps_ret (pos := ps6) (pe_disp (pos := pd) (pps_cons pk1 ls (pps_cons pk2 (pe_i0 q14) (pps_cons pk3 (pe_i0 q15) (pps_cons pk4 (pe_i0 q16) (pps_cons pk5 d5 pps_nil))))) rfl rfl (by simp) (by simp))
    refine ⟨_, pss_cons st1 (pss_cons st2 (pss_one st3)), ?_⟩
    obtain ⟨a, ns, rfl, hS, hQ⟩ := h
    have hst : (L2.start penN [V.ref a]) = [some (.ref a), none, none] := rfl
    rw [hst]
    show tFor (iList X.K (tVar 0)) (gName 2) (tAsg (tE G E (evE (mkS T.cons G.att L I) penE)) (gName 1)) _ [some (.ref a), some (.int 0), none] H
    have hS' : ∀ H', (∀ b o, H b = some o → H' b = some o) → SqL X.K H' a (ns.map V.int) := fun H' hh => by
      rw [hKX]
      rcases hS with (z | ⟨o, z⟩) | z
      · exact .inl (.inl (hh _ _ z))
      · exact .inl (.inr ⟨o, hh _ _ z⟩)
      · exact .inr z
    refine ⟨.ref a, rfl, a, rfl, ⟨_, hS' H fun _ _ z => z⟩, ?_⟩
    refine for_list (fun i σ H' => (∀ b o, H b = some o → H' b = some o) ∧ ∃ x, σ = [some (.ref a), some (.int (foldOf (ns.take i))), x]) ⟨fun _ _ z => z, none, rfl⟩ (fun i σ H' _ q => hS' H' q.1) ?_ ?_
    · rintro i x σ H' hx ⟨hh, y, rfl⟩
      rw [List.getElem?_map] at hx
      cases qx : ns[i]? with
      | none => rw [qx] at hx; cases hx
      | some c =>
        rw [qx] at hx
        cases hx
        show tE G E _ [some (.ref a), some (.int (foldOf (ns.take i))), some (.int c)] H' _
        obtain ⟨b1, b2⟩ := foldOf_bd (ns.take i)
        refine ⟨[none, some (.int (foldOf (ns.take i))), some (.int c)], fun _ => none, none, none, ⟨rfl, ?_⟩, ⟨fun _ _ z => (by cases z), trivial⟩, ?_⟩
        · intro j d ej
          match j, ej with
          | 1, ej => cases ej; exact ⟨_, rfl, .int _⟩
          | 2, ej => cases ej; exact ⟨_, rfl, .int _⟩
        · rw [evPen b1 b2]
          intro v F' H2 st rv
          cases rv
          refine ⟨fun b o z => st.keep b o (fun ⟨_, q⟩ => by cases q) (hh b o z), some (.int c), ?_⟩
          rw [foldOf_snoc ns i c qx]
          rfl
    · rintro σ H' ⟨hh, x, rfl⟩
      rw [List.length_map, List.take_length]
      intro pa hpa
      refine ⟨.ref a, rfl, a, ns.map V.int, rfl, .inl (hS' _ fun b o z => by rw [upd_ne (ne_of_none (hh b o z) hpa)]; exact hh b o z), fun l hl => ?_⟩
      have hne : pa ≠ l := fun z => by rw [z, upd_same] at hl; cases hl
      refine ⟨.int (foldOf ns), rfl, ?_, penK l (pen0 ns), rfl, (show (penK l (pen0 ns)).length ≤ 15 by simp [penK]), ?_⟩
      · rw [upd_ne hne, upd_same]
      · rw [merge_pen]
        exact hQ pa l _ hne upd_same (by rw [upd_ne (Ne.symm hne), upd_same])
  · cases hck
/-- THE LAW -/
def spLawM (K : PySem.W.Frag) (n : Nat) : Sp := fun vs H Q _ => ∃ (a : Addr) (ns : List Int), vs = [.ref a] ∧ SqL K H a (ns.map V.int) ∧ ns.length ≤ n ∧ ∀ H', Q (.bl true) H'
def mLaw1 (sc : Scope) : Stmt → Bool
  | .Assign [.Name x _] (.Call (.Name f _) [.Name y _] [] _) _ => decide (x = ("pen" : Str)) && decide (f = ("_law_pen" : Str)) && decide (y = ("script" : Str)) && locB sc "pen" && locB sc "script" && gloB sc "_law_pen"
  | _ => false
theorem law_ok (e : LawEnv P w K mg base T G lv ilv L I) {nm qual : Str} {params : Arguments} {body : List Stmt} {scope : Scope} {f fP : Addr} {fd fdP : FuncData} {nmP qP : Str} {psP : Arguments} {bP : List Stmt} {scP : Scope} {N : List Str} {ir : ISs} {s1 : Stmt} {rest : List Stmt} {kk : Nat}
    (hkk : 2 ≤ kk) (F : FunD K nm qual params body scope [] [] f fd) (FP : FunD K nmP qP psP bP scP [] [] fP fdP) (hbP : Binds K fdP ["script"] []) (hmP : mg ("_law_pen" : Str) = some (.ref fP)) (hP : mPen T scP bP = true) (hb : body = s1 :: rest) (h1 : mLaw1 scope s1 = true)
    (hN : N.take 2 = (["script", "pen"] : List Str)) (hs : scB N 1 scope = true) (hm : mSs T (nOf lv L.length kk) (nOf ilv I.length kk) N scope ir rest = true) {nmax : Nat}
    (sem : ∀ ns : List Int, ns.length ≤ nmax → ∃ ρ' p', evSs (mkS T.cons G.att L I) ir (.u :: .d .pen :: List.replicate (N.length - 2) .u) (some (pen0 ns)) = .ok (.rt (.bl true), ρ') p') :
    FnOk P w K mg base (L2.CX P w) (kk + 1) f fd ["script"] (spLawM K nmax) := by
  obtain ⟨S0, nd, hl⟩ := scB_ok hs
  have hN2 : ∃ r, N = ("script" : Str) :: ("pen" : Str) :: r := by
    match N, hN with
    | [], h => cases h
    | [_], h => cases h
    | x :: y :: r, h => cases h; exact ⟨r, rfl⟩
  obtain ⟨r, rfl⟩ := hN2
  refine F.ok S0 (fun vs H Q E h => by obtain ⟨a, ns, rfl, _⟩ := h; rfl) (fun cdv A outer s H vs Q E hr h => ?_)
  have C := (e.glob kk).ctx (E := E) nd (qual := qual) (scope := scope) (f := f) (cd := cdv) (outer := outer) (s := s) (H := H) hr
  have FnP := pen_ok e FP hP
  generalize hX : cxOf (L2.CX P w) P w K mg base (("script" : Str) :: ("pen" : Str) :: r) qual scope f cdv A outer s H E = X at C
  have hp : PassesOwn (model X.prog X.w) X.A X.env X.xe := by rw [← hX]; exact passes_of rfl
  have FnP' : FnOk X.prog X.w X.K X.mg X.base (L2.CX X.prog X.w) 2 fP fdP ["script"] (spPen X.K) := by rw [← hX]; exact FnP
  have hkX : X.K = K := by rw [← hX]; rfl
  have hmX : X.mg = mg := by rw [← hX]; rfl
  have hrX : Room kk X.A := by rw [← hX]; exact hr
  subst hb
  unfold mLaw1 at h1
  split at h1
  · rename_i x px g pg y py pc ps
    simp only [Bool.and_eq_true, decide_eq_true_eq] at h1
    obtain ⟨⟨⟨⟨⟨rfl, rfl⟩, rfl⟩, h4⟩, h5⟩, h6⟩ := h1
    have scr : PE X (.Name "script" py) (tVar 0) := pe_nm C.hN C.hsc (x := "script") (e := .Name "script" py) (by simp [isNm]) rfl h5 (by decide +kernel)
    have call := pe_call (p := pg) (pos := pc) (E := E) FnP' (hrX.mono hkk) (glo_of C.hsc h6) (by rw [hmX]; exact hmP) (by rw [hkX]; exact FP.kp) (by rw [hkX]; exact hbP) .nil C.pass (pa_cons scr pa_nil rfl) (by decide +kernel) rfl rfl
    have st1 := ps_set (i := 1) (pos := ps) (pos' := px) (by rw [C.hN]; exact C.nd) (by rw [C.hN]; rfl) (C.loc _ h4).1 call rfl (C.loc _ h4).2
    refine ⟨_, pss_cons st1 (soundSs ir C hp rest hm), ?_⟩
    obtain ⟨a, ns, rfl, hS, hlen, hQ⟩ := h
    refine ⟨.ref a, rfl, ?_⟩
    refine ⟨a, ns, rfl, by rw [hkX]; exact hS, fun pa ca H' hne h1 h2 => ?_⟩
    obtain ⟨ρ', p', es⟩ := sem ns hlen
    let F0 : Hp := upd (fun _ => none) ca (.lst (ns.map V.int))
    have fk : FOk F0 H' (some (pa, ca)) (some (pen0 ns)) := by
      refine ⟨fun b o z => ?_, ?_, h1, upd_same⟩
      · by_cases hb : b = ca
        · subst hb; rw [show F0 b = some (.lst (ns.map V.int)) from upd_same] at z; cases z; exact h2
        · rw [show F0 b = none from upd_ne hb] at z; cases z
      · exact upd_ne hne
    refine ⟨IsPen (some (pa, ca)), F0, H', some (pa, ca), .u :: .d .pen :: List.replicate ((("script" : Str) :: ("pen" : Str) :: r).length - 2) .u, F0, some (pen0 ns), ?_, ?_⟩
    · have no : ∀ {i : Nat} {x : Sl}, (Sl.u :: Sl.d .pen :: List.replicate ((("script" : Str) :: ("pen" : Str) :: r).length - 2) Sl.u)[i]? = some x → x = .u ∨ (i = 1 ∧ x = .d .pen) := fun {i x} z => by
        match i, z with
        | 0, z => cases z; exact .inl rfl
        | 1, z => cases z; exact .inr ⟨rfl, rfl⟩
        | i + 2, z =>
          rw [List.getElem?_cons_succ, List.getElem?_cons_succ] at z
          exact .inl (List.eq_of_mem_replicate (List.mem_of_getElem? z))
      exact {
        len := by unfold L2.start; simp
        dat := fun i d z => by
          rcases no z with z | ⟨rfl, z⟩
          · cases z
          · cases z; exact ⟨.ref pa, rfl, .pen rfl⟩
        own := fun i xs z => by rcases no z with z | ⟨_, z⟩ <;> cases z
        inj := fun i j xs ys a z => by rcases no z with z | ⟨_, z⟩ <;> cases z
        mak := fun i c fs z => by rcases no z with z | ⟨_, z⟩ <;> cases z
        one := fun i j c fs c' fs' z => by rcases no z with z | ⟨_, z⟩ <;> cases z
        since := ⟨fun _ _ _ z => z, fun _ z => z, Same.refl F0, fun _ z => .inl z⟩
        ok := fk
        mp := fun _ z => z }
    · rw [es]
      intro v H2 F2 _ _ rv
      cases rv
      exact hQ H2
  · cases h1
end
end Mi

set_option Elab.async false
set_option linter.all false
set_option maxRecDepth 100000
set_option maxHeartbeats 4000000
namespace Mi
open PySem PySem.Spec PyProof.Rows L2
/-! ### the head's facts -/
abbrev AtN := Str × Option Str
def clsO (K : PySem.W.Frag) (C : Addr) : Bool := He.eqO (PySem.W.findIn K (.ref C) "__class__") (some (some (.builtin "object.__class__"))) && decide (PySem.W.mroIn K C (.type "object") = some true) &&
  ("NoneType" :: tyUse).all (fun m => decide (PySem.W.kitOne K (.type m) (.ref C) = some false)) && tyUse.all (fun m => decide (PySem.W.kitOne K (.ref C) (.type m) = some false))
def clsB (K : PySem.W.Frag) (cl : List (Str × Nat × List Str)) : Bool :=
  cl.all (fun c => (He.Fa.cls c.1).ok K && c.2.2.all (fun f => (He.Fa.noat c.1 f).ok K) && clsO K (He.ga K c.1)) &&
  He.eqO (PySem.W.specialIn K (.builtin "object.__class__") "__get__") (some (some (.builtin "getset_descriptor.__get__"))) && decide (PySem.W.takesIn K (.builtin "object.__class__") = some true) &&
  (List.range cl.length).all (fun i => (List.range cl.length).all fun j => decide (PySem.W.kitOne K (.ref (He.ga K (cl.getD i ("", 0, [])).1)) (.ref (He.ga K (cl.getD j ("", 0, [])).1)) = some (decide (i = j))))
def eqsB (K : PySem.W.Frag) (cl : List (Str × Nat × List Str)) (ats : List AtN) (eqs : List (Nat × Nat)) : Bool :=
  eqs.all fun q => He.eqO (PySem.W.findIn K (.ref (He.ga K (cl.getD q.1 ("", 0, [])).1)) "__ne__") (some (some (.builtin "object.__ne__"))) &&
    He.eqO (PySem.W.findIn K (.ref (He.ga K (cl.getD q.1 ("", 0, [])).1)) "__eq__") (some (some (.ref (He.fAd K (ats.getD q.2 ("", none)))))) && PySem.W.isFn K (.ref (He.fAd K (ats.getD q.2 ("", none))))
def attOf (T : Tab) : Nat → List Str := fun c => (T.clss.getD c ("", 0, [])).2.2
def gOf (T : Tab) (ats : List AtN) (K : PySem.W.Frag) : Ad where
  nc := T.clss.length
  cls := fun c => He.ga K (T.clss.getD c ("", 0, [])).1
  fad := fun i => He.fAd K (ats.getD i ("", none))
  att := attOf T
def exB (T : Tab) (ats : List AtN) (K : PySem.W.Frag) : Bool := clsB K T.clss && eqsB K T.clss ats T.eqs
abbrev AlM : Type := He.AlD × Bool
def obsM (fa : List He.Fa) (fn : List He.DefD) (ex : PySem.W.Frag → Bool) (K : PySem.W.Frag) : AlM := (He.obsD fa fn K, ex K)
def obsMG (n : Nat) (fa : List He.Fa) (fn : List He.DefD) (ex : PySem.W.Frag → Bool) (g : Addr → Option Obj) : AlM := obsM fa fn ex (He.frG g (He.asD g n))
def hookM (n : Nat) (fa : List He.Fa) (fn : List He.DefD) (ex : PySem.W.Frag → Bool) : PySem.W.Hook where
  α := AlM
  obs := fun s => obsMG n fa fn ex s.heap.get?
  val := fun _ => (He.valD fn, true)
  says := fun _ h => ∃ K : PySem.W.Frag, K.In h ∧ He.SaysD fa fn K ∧ ex K = true
  of := fun _ _ e => ⟨_, He.frG_in, congrArg (fun z : AlM => z.1) e, congrArg (fun z : AlM => z.2) e⟩
  keeps := fun _ _ _ ⟨K, hK, c⟩ k => ⟨K, PySem.W.Frag.In.keeps hK k, c⟩
theorem obsMG_eq {n : Nat} {fa : List He.Fa} {fn : List He.DefD} {ex : PySem.W.Frag → Bool} {g : Addr → Option Obj} {s : Shared} (h : ∀ a, g a = s.heap.get? a) : obsMG n fa fn ex g = (hookM n fa fn ex).obs s := by
  have e : g = s.heap.get? := funext h
  rw [e] <;> rfl
theorem factM {fa : List He.Fa} {fn : List He.DefD} {K : PySem.W.Frag} (c : He.SaysD fa fn K) {f : He.Fa} (h : f ∈ fa) : f.ok K = true := by
  have c1 := (He.ba (show ((fa.all fun f => f.ok K) && fn.all fun d => d.ok K) = true from congrArg (fun z : He.AlD => z.1) c)).1
  exact List.all_eq_true.mp c1 f h
theorem clsF_of {T : Tab} {ats : List AtN} {K : PySem.W.Frag} (h : clsB K T.clss = true) (nd : T.clss.all (fun c => decide c.2.2.Nodup && decide (c.2.2.length ≤ 900)) = true) : ClsF K (gOf T ats K) := by
  unfold clsB at h
  simp only [Bool.and_eq_true, List.all_eq_true, decide_eq_true_eq, List.mem_range] at h nd
  obtain ⟨⟨⟨h1, h2⟩, h3⟩, h4⟩ := h
  have mem : ∀ c, c < T.clss.length → T.clss.getD c ("", 0, []) ∈ T.clss := fun c hc => by
    rw [List.getD_eq_getElem?_getD, List.getElem?_eq_getElem hc]
    exact List.getElem_mem hc
  have o : ∀ c, c < T.clss.length → clsO K (He.ga K (T.clss.getD c ("", 0, [])).1) = true := fun c hc => (h1 _ (mem c hc)).2
  have o' : ∀ c, c < T.clss.length → ((He.eqO (PySem.W.findIn K (.ref (He.ga K (T.clss.getD c ("", 0, [])).1)) "__class__") (some (some (.builtin "object.__class__"))) = true ∧ PySem.W.mroIn K (He.ga K (T.clss.getD c ("", 0, [])).1) (.type "object") = some true) ∧
      ∀ m ∈ "NoneType" :: tyUse, PySem.W.kitOne K (.type m) (.ref (He.ga K (T.clss.getD c ("", 0, [])).1)) = some false) ∧ ∀ m ∈ tyUse, PySem.W.kitOne K (.ref (He.ga K (T.clss.getD c ("", 0, [])).1)) (.type m) = some false := fun c hc => by
    have z := o c hc
    unfold clsO at z
    simp only [Bool.and_eq_true, List.all_eq_true, decide_eq_true_eq] at z
    exact z
  exact {
    cl := fun c hc => He.cls_ok (h1 _ (mem c hc)).1.1
    noat := fun c hc f hf => He.noat_ok ((h1 _ (mem c hc)).1.2 f hf)
    nd := fun c hc => nd _ (mem c hc)
    ha := fun c hc => He.eqO_ok (o' c hc).1.1.1
    hm := fun c hc => (o' c hc).1.1.2
    hn := fun _ => He.eqO_ok h2
    ht := fun _ => h3
    kcc := fun c d hc hd => h4 c hc d hd
    kbc := fun c hc m hm => (o' c hc).1.2 m hm
    kcb := fun c hc m hm => (o' c hc).2 m hm }
/-- where a law's defs begin -/
theorem env0 {P : Program} {w : World} {K : PySem.W.Frag} {mg : Str → Option Value} {base h : Heap} {T : Tab} {ats : List AtN} {lv ilv : Nat → Nat} {fa : List He.Fa} {fn : List He.DefD} (X : K.In h) (N : h.Ns mainGlobals mg) (c : He.SaysD fa fn K) (ex : exB T ats K = true)
    (nd : T.clss.all (fun c => decide c.2.2.Nodup && decide (c.2.2.length ≤ 900)) = true)
    (h1 : ∀ q ∈ T.cons, He.Fa.int q.1 q.2 ∈ fa) (h2 : ∀ x ∈ bltN, He.Fa.free x ∈ fa) (h3 : ∀ q ∈ T.clss, He.Fa.glo q.1 ∈ fa) (h4 : T.eqs.all (fun q => decide (q.1 < T.clss.length) && decide ((T.fns[q.2]?).map (·.2) = some 2)) = true) :
    LawEnv P w K mg base T (gOf T ats K) lv ilv [] [] := by
  unfold exB at ex
  simp only [Bool.and_eq_true] at ex
  have e2 := ex.2
  unfold eqsB at e2
  simp only [Bool.and_eq_true, List.all_eq_true, decide_eq_true_eq] at e2 h4
  exact {
    con := fun i x v q => He.int_ok X N (factM c (h1 (x, v) (List.mem_of_getElem? q)))
    fns := fun i x m q => absurd q (Nat.not_lt_zero _)
    free := fun x q => He.free_ok X N (factM c (h2 x q))
    hnc := rfl
    clsF := clsF_of ex.1 nd
    clsM := fun i x m at_ q => by
      have z := He.glo_ok X N (factM c (h3 _ (List.mem_of_getElem? q)))
      have e : T.clss.getD i ("", 0, []) = (x, m, at_) := by rw [List.getD_eq_getElem?_getD, q]; rfl
      show mg x = some (.ref (He.ga K (T.clss.getD i ("", 0, [])).1))
      rw [e]
      exact z
    mks := fun i x m at_ q => absurd q (Nat.not_lt_zero _)
    eqs := fun i k q => by
      obtain ⟨⟨z1, z2⟩, z3⟩ := e2 (i, k) q
      obtain ⟨w1, w2⟩ := h4 (i, k) q
      exact ⟨w1, w2, He.eqO_ok z1, He.eqO_ok z2, z3⟩ }
/-- a law: each def of the text as the head tells it -/
theorem walk_M {l : PySem.W.OpenLaw} {n k : Nat} {q : Program} {loose : List Str} {XP : (Str → Option Value) → Heap → Prop} {YP : World → Heap → Prop} {d : DefRec} {x : Str}
    (hn : l.most = some n) (hn2 : n ≤ sizeLine) (hdf : d.params.defaults = []) (hr : Room k callerA)
    (F : ∀ (w : World) (mg : Str → Option Value) (fa : Addr) (h : Heap), YP w h → h.Ns mainGlobals mg → mg d.name = some (.ref fa) →
      ∃ (K : PySem.W.Frag) (fd : FuncData), K.In h ∧ (∀ (s : Shared) (u : Value), BindsTo s fd ⟨[u], []⟩ [(x, u)]) ∧
        ∀ base : Heap, K.In base → base.Ns mainGlobals mg → FnOk l.prog w K mg base (L2.CX l.prog w) k fa fd [x] (spLawM K n)) :
    PySem.W.WalkO q loose XP YP l.row.toRowW d [] (fun f vs => PySem.call f vs) := by
  refine Att.attach_call hn hdf fun w s₀ s₁ mg mb fa o pm cd doc a vs ns G Y ho hd hcd hmg hobj hints hlen hg => ?_
  obtain ⟨K, fd, KX, hb, hF⟩ := F w mg fa _ Y G.T.g hmg
  refine law_call KX G.T.g G.T.b G.T.builtins G.T.nolimit hg hobj hints (Nat.le_trans hlen hn2) hr hF hb (fun H hO hS => ⟨a, ns, rfl, hS, hlen, fun _ => rfl⟩) fun H e s' hc => ?_
  obtain ⟨_, _, _, _, _, _, _, _, _, _, _, _, z⟩ := hc
  exact z
end Mi

set_option Elab.async false
set_option linter.all false
set_option maxRecDepth 100000
set_option maxHeartbeats 4000000
namespace Mi
open PySem PySem.Spec PyProof.Rows L2
/-! ### the evaluator's steps, for proofs about what it computes -/
theorem R.bind_congr {α β : Type} {r r' : R α} {f : α → PenS → R β} (h : r = r') : r.bind f = r'.bind f := by rw [h]
theorem R.of_congr {α : Type} {o o' : Option α} {p : PenS} (h : o = o') : R.of o p = R.of o' p := by rw [h]
theorem calm_ok' {α : Type} {a : α} {p : PenS} : (R.ok a p).calm = .ok a p := rfl
section
variable {i j : Int} {xs ys : List D} {x y : D} {b c : Bool} {s t : Str} {st : Pen}
theorem b_add : bin .add (.int i) (.int j) = some (.int (i + j)) := rfl
theorem b_addT : bin .add (.tup xs) (.tup ys) = if xs.length + ys.length ≤ sizeLine then some (.tup (xs ++ ys)) else none := rfl
theorem b_addL : bin .add (.lst xs) (.lst ys) = if xs.length + ys.length ≤ sizeLine then some (.lst (xs ++ ys)) else none := rfl
theorem b_sub : bin .sub (.int i) (.int j) = some (.int (i - j)) := rfl
theorem b_mul : bin .mul (.int i) (.int j) = if mulOk i j then some (.int (i * j)) else none := rfl
theorem b_mulT : bin .mul (.tup xs) (.int i) = if 0 ≤ i ∧ i ≤ 1000 ∧ xs.length ≤ 1000 then some (.tup (List.replicate i.toNat xs).flatten) else none := rfl
theorem b_mulL : bin .mul (.lst xs) (.int i) = if 0 ≤ i ∧ i < 2 ^ 62 ∧ xs.length * i.toNat ≤ sizeLine then some (.lst (List.replicate i.toNat xs).flatten) else none := rfl
theorem b_fdiv : bin .fdiv (.int i) (.int j) = if divOk i j then some (.int (i.fdiv j)) else none := rfl
theorem b_mod : bin .mod (.int i) (.int j) = if j ≠ 0 then some (.int (i.fmod j)) else none := rfl
theorem b_pow : bin .pow (.int i) (.int j) = if CPow i j then some (.int (i ^ j.toNat)) else none := rfl
theorem deq_ii : deq (.int i) (.int j) = some (decide (i = j)) := by
  unfold deq
  rw [if_pos (by simp [D.py, SeqAt.shaped, PyData.canLay0, PyData.depth])]
  simp [D.py, PyData.eqv]
  by_cases h : i = j <;> simp [h]
theorem deq_bb : deq (.bl b) (.bl c) = some (decide (b = c)) := by
  unfold deq
  rw [if_pos (by simp [D.py, SeqAt.shaped, PyData.canLay0, PyData.depth])]
  cases b <;> cases c <;> simp [D.py, PyData.eqv]
theorem c_eq : cmpV .eq x y = deq x y := rfl
theorem c_ne : cmpV .ne x y = (deq x y).map (!·) := rfl
theorem c_lt : cmpV .lt (.int i) (.int j) = some (decide (i < j)) := rfl
theorem c_le : cmpV .le (.int i) (.int j) = some (decide (i ≤ j)) := rfl
theorem c_gt : cmpV .gt (.int i) (.int j) = some (decide (j < i)) := rfl
theorem c_ge : cmpV .ge (.int i) (.int j) = some (decide (j ≤ i)) := rfl
theorem c_isN : cmpV .is_ x .non = some x.isNon := by cases x <;> rfl
theorem c_isnN : cmpV .isnot x .non = some (!x.isNon) := by cases x <;> rfl
theorem c_isB : cmpV .is_ x (.bl c) = isB x c := by cases x <;> rfl
theorem c_isnB : cmpV .isnot x (.bl c) = (isB x c).map (!·) := by cases x <;> rfl
theorem i_bl : isB (.bl b) c = some (decide (b = c)) := rfl
theorem i_non : isB .non c = some false := rfl
theorem i_int : isB (.int i) c = some false := rfl
theorem i_str : isB (.str s) c = some false := rfl
theorem i_tup : isB (.tup xs) c = some false := rfl
theorem i_lst : isB (.lst xs) c = some false := rfl
theorem non_non : D.isNon .non = true := rfl
theorem non_int : D.isNon (.int i) = false := rfl
theorem non_tup : D.isNon (.tup xs) = false := rfl
theorem non_bl : D.isNon (.bl b) = false := rfl
theorem t_non : truth .non = some false := rfl
theorem t_bl : truth (.bl b) = some b := rfl
theorem t_int : truth (.int i) = some (i != 0) := rfl
theorem t_tup : truth (.tup xs) = some (!xs.isEmpty) := rfl
theorem t_lst : truth (.lst xs) = some (!xs.isEmpty) := rfl
theorem ixD_tup : idx (.tup xs) (.int i) = atI xs i := rfl
theorem ixD_lst : idx (.lst xs) (.int i) = atI xs i := rfl
theorem slD_tup {lo hi : Option Int} : slc (.tup xs) lo hi = some (.tup (cutD xs lo hi)) := rfl
theorem slD_lst {lo hi : Option Int} : slc (.lst xs) lo hi = some (.lst (cutD xs lo hi)) := rfl
theorem f_lenT : bfn .len [.tup xs] = some (.int xs.length) := rfl
theorem f_lenL : bfn .len [.lst xs] = some (.int xs.length) := rfl
theorem f_tupT : bfn .tuple [.tup xs] = some (.tup xs) := rfl
theorem f_tupL : bfn .tuple [.lst xs] = some (.tup xs) := rfl
theorem f_lstT : bfn .list [.tup xs] = some (.lst xs) := rfl
theorem f_lstL : bfn .list [.lst xs] = some (.lst xs) := rfl
theorem f_int : bfn .int [.int i] = some (.int i) := rfl
theorem f_abs : bfn .abs [.int i] = some (.int (if i < 0 then -i else i)) := rfl
theorem f_max : bfn .max [.int i, .int j] = some (.int (if j > i then j else i)) := rfl
theorem f_min : bfn .min [.int i, .int j] = some (.int (if j < i then j else i)) := rfl
theorem f_all : bfn .all [.lst xs] = (bolsOf xs).map fun bs => .bl (bs.all id) := rfl
theorem f_any : bfn .any [.lst xs] = (bolsOf xs).map fun bs => .bl (bs.any id) := rfl
theorem f_sum : bfn .sum [.lst xs] = (intsOf xs).map fun ns => .int ns.sum := rfl
theorem f_sorted : bfn .sorted [.lst xs] = (intsOf xs).map fun ns => .lst ((ns.mergeSort (fun a b => decide (a ≤ b))).map D.int) := rfl
theorem y_int : tyD (.int i) = some (.b "int") := rfl
theorem y_bl : tyD (.bl b) = some (.b "bool") := rfl
theorem y_non : tyD .non = some (.b "NoneType") := rfl
theorem y_str : tyD (.str s) = some (.b "str") := rfl
theorem y_tup : tyD (.tup xs) = some (.b "tuple") := rfl
theorem y_lst : tyD (.lst xs) = some (.b "list") := rfl
theorem y_obj {k : Nat} : tyD (.obj k xs) = some (.c k) := rfl
theorem k_ii : kit (.b "int") (.b "int") = some true := by decide +kernel
theorem k_ib : kit (.b "int") (.b "bool") = some false := by decide +kernel
theorem k_it : kit (.b "int") (.b "tuple") = some false := by decide +kernel
theorem k_il : kit (.b "int") (.b "list") = some false := by decide +kernel
theorem k_is : kit (.b "int") (.b "str") = some false := by decide +kernel
theorem k_tt : kit (.b "tuple") (.b "tuple") = some true := by decide +kernel
theorem k_tl : kit (.b "tuple") (.b "list") = some false := by decide +kernel
theorem k_ti : kit (.b "tuple") (.b "int") = some false := by decide +kernel
theorem k_tb : kit (.b "tuple") (.b "bool") = some false := by decide +kernel
theorem k_ll : kit (.b "list") (.b "list") = some true := by decide +kernel
theorem k_lt : kit (.b "list") (.b "tuple") = some false := by decide +kernel
theorem k_bi : kit (.b "bool") (.b "int") = some true := by decide +kernel
theorem k_bb : kit (.b "bool") (.b "bool") = some true := by decide +kernel
theorem k_bt : kit (.b "bool") (.b "tuple") = some false := by decide +kernel
theorem k_bl : kit (.b "bool") (.b "list") = some false := by decide +kernel
theorem k_nt : kit (.b "NoneType") (.b "tuple") = some false := by decide +kernel
theorem k_ss : kit (.b "str") (.b "str") = some true := by decide +kernel
theorem k_st : kit (.b "str") (.b "tuple") = some false := by decide +kernel
theorem k_cc {k l : Nat} : kit (.c k) (.c l) = some (decide (k = l)) := rfl
theorem ks_nil {u : Ty} : kits u [] = some false := rfl
theorem ks_cons {u c : Ty} {cs : List Ty} : kits u (c :: cs) = match kit u c with
    | some true => some true
    | some false => kits u cs
    | none => none := by rw [kits] <;> rfl
theorem as_int : asInt (.int i) = some i := rfl
theorem pg_cells : penGet "cells" st = some (.lst (st.cells.map D.int)) := rfl
theorem pg_at : penGet "at" st = some (.int st.at_) := rfl
theorem pg_digits : penGet "digits" st = some (.int st.digits) := rfl
theorem pg_count : penGet "count" st = some (.int st.count) := rfl
theorem pg_fold : penGet "fold" st = some (.int st.fold) := rfl
theorem ps_at : penSet "at" i st = some { st with at_ := i } := rfl
theorem ps_digits : penSet "digits" i st = some { st with digits := i } := rfl
theorem ps_count : penSet "count" i st = some { st with count := i } := rfl
theorem ps_fold : penSet "fold" i st = some { st with fold := i } := rfl
theorem q_tup : seqOf (.tup xs) = some xs := rfl
theorem q_lst : seqOf (.lst xs) = some xs := rfl
theorem z_tt : zipOf (.tup xs) (.tup ys) = some (zipD xs ys) := rfl
theorem z_ll : zipOf (.lst xs) (.lst ys) = some (zipD xs ys) := rfl
theorem ea_obj {k : Nat} : eqArgs k (.obj k xs) (.obj k ys) = some [.obj k xs, .obj k ys] := by simp [eqArgs]
theorem er_bl {ne : Bool} {p : PenS} : eqRes ne (.bl b) p = .ok (.bl (if ne = true then !b else b)) p := rfl
theorem se_d : Sl.see (.d x) = some x := rfl
theorem se_u : Sl.see .u = none := rfl
theorem se_o : Sl.see (.o xs) = none := rfl
theorem sb_d : Sl.seeB (.d x) = some x := rfl
theorem sb_u : Sl.seeB .u = none := rfl
theorem sb_o : Sl.seeB (.o xs) = some (.lst xs) := rfl
theorem fn_nx {ρ : SEnv} {p : PenS} {n : Nat} : (match ((Fl.nx, ρ) : Fl × SEnv) with | (fl, _) => (match fl with | .rt d => R.ok d p | .nx => .ok .non p | _ => .stuck)) = .ok .non p := rfl
end
theorem atI_nn {α : Type} {xs : List α} {i : Int} (h0 : 0 ≤ i) (h : i < xs.length) : atI xs i = xs[i.toNat]? := by
  unfold atI ixN
  rw [if_pos h0, if_pos h]
  rfl
theorem atI_neg {α : Type} {xs : List α} {i : Int} (h0 : i < 0) (h : -(xs.length : Int) ≤ i) : atI xs i = xs[(i + xs.length).toNat]? := by
  unfold atI ixN
  rw [if_neg (by omega)]
  simp only [h]
  simp
theorem mulOk_r {i j : Int} (h : -(2 ^ 64) < j ∧ j < 2 ^ 64) : mulOk i j := .inl (.inr h)
theorem mulOk_l {i j : Int} (h : -(2 ^ 64) < i ∧ i < 2 ^ 64) : mulOk i j := .inl (.inl h)
end Mi

set_option Elab.async false
set_option linter.all false
set_option maxRecDepth 100000
namespace Lk07
open PySem PySem.Spec PyProof.Rows L2 Mi

def T_cons_0 : List (Str × Int) := [("MOST_FIGURE", 20), ("MOST_ITEMS", 400)]
def T_fns_0 : List (Str × Nat) := [("_law_draw", 2), ("_law_pick", 2), ("_law_drawn_items", 3), ("_law_item", 2), ("_law_beside_row", 3), ("_law_first", 2), ("_law_is", 2), ("_law_is", 2), ("_law_is", 2), ("_law_is", 2), ("_law_is", 2), ("as_tuples", 1), ("as_tuples", 1), ("as_tuples", 1), ("as_tuples", 1), ("_law_is_row", 2), ("_law_made_row", 1), ("_law_row_least", 2), ("_law_says", 2), ("_law_tail", 2), ("is_integer", 1), ("is_between", 3), ("need_figure", 1), ("are_figures", 2), ("is_row", 2)]
def T_fns_1 : List (Str × Nat) := [("need_row", 3), ("item_by", 2), ("unlike_by", 2), ("first_unlike", 3), ("rooted", 1), ("least_by", 2), ("is_least_by", 2), ("is_least", 2), ("need_index", 1), ("item_at", 3), ("joined_row", 3), ("least_form", 2), ("is_under", 2), ("row_less", 3), ("tail_by", 2), ("tail_of", 3), ("turned_by", 2), ("turned_row", 2), ("", 2), ("_law_right", 1)]
def T_clss_0 : List (Str × Nat × List Str) := [("Row", 2, ["ahead", "ring"])]
def T : Tab where
  cons := T_cons_0
  fns := T_fns_0 ++ T_fns_1
  clss := T_clss_0
  eqs := [(0, 43)]
def ats_0 : List AtN := [("_law_draw", none), ("_law_pick", none), ("_law_drawn_items", none), ("_law_item", none), ("_law_beside_row", none), ("_law_first", none), ("_law_is", none), ("_law_is", none), ("_law_is", none), ("_law_is", none), ("_law_is", none), ("as_tuples", none), ("as_tuples", none), ("as_tuples", none), ("as_tuples", none), ("_law_is_row", none), ("_law_made_row", none), ("_law_row_least", none), ("_law_says", none), ("_law_tail", none), ("is_integer", none), ("is_between", none), ("need_figure", none), ("are_figures", none), ("is_row", none)]
def ats_1 : List AtN := [("need_row", none), ("item_by", none), ("unlike_by", none), ("first_unlike", none), ("rooted", none), ("least_by", none), ("is_least_by", none), ("is_least", none), ("need_index", none), ("item_at", none), ("joined_row", none), ("least_form", none), ("is_under", none), ("row_less", none), ("tail_by", none), ("tail_of", none), ("turned_by", none), ("turned_row", none), ("Row", some "__eq__"), ("_law_right", none)]
def ats : List AtN := ats_0 ++ ats_1
noncomputable def L0 : List Den := []
noncomputable def I0 : List Ini := []
def N__law_draw : List Str := ["pen", "many", "blend", "cell", "digit"]
def ir__law_draw : ISs := .cons (.pset "count" (.bin .add (.pget (.var 0) "count") (.int 1)) (.var 0)) (.cons (.iff (.and (.cons (.cmp .eq (.pget (.var 0) "digits") (.int 0)) (.cons (.cmp .lt (.pget (.var 0) "at") (.blt .len (.cons (.pget (.var 0) "cells") (.nil)))) (.nil)))) (.cons (.asg 3 (.ix (.pget (.var 0) "cells") (.pget (.var 0) "at"))) (.cons (.pset "at" (.bin .add (.pget (.var 0) "at") (.int 1)) (.var 0)) (.cons (.iff (.cmp .ge (.var 3) (.bin .pow (.int 10) (.int 18))) (.cons (.pset "digits" (.bin .sub (.var 3) (.bin .pow (.int 10) (.int 18))) (.var 0)) (.nil)) (.cons (.pset "fold" (.bin .mod (.blt .int (.cons (.bin .add (.bin .mul (.pget (.var 0) "fold") (.int 69069)) (.var 3)) (.nil))) (.int 2147483587)) (.var 0)) (.nil))) (.nil)))) (.nil)) (.cons (.iff (.cmp .gt (.pget (.var 0) "digits") (.int 0)) (.cons (.asg 4 (.bin .mod (.blt .int (.cons (.pget (.var 0) "digits") (.nil))) (.var 1))) (.cons (.pset "digits" (.bin .fdiv (.pget (.var 0) "digits") (.var 1)) (.var 0)) (.cons (.ret (.var 4)) (.nil)))) (.nil)) (.cons (.asg 2 (.bin .mod (.blt .int (.cons (.bin .add (.bin .add (.bin .mul (.pget (.var 0) "fold") (.int 48271)) (.bin .mul (.pget (.var 0) "count") (.int 7919))) (.int 13)) (.nil))) (.int 2147483647))) (.cons (.asg 2 (.bin .mod (.blt .int (.cons (.bin .add (.bin .add (.bin .mul (.var 2) (.var 2)) (.bin .mul (.int 31) (.var 2))) (.pget (.var 0) "count")) (.nil))) (.int 2147483629))) (.cons (.pset "fold" (.bin .mod (.blt .int (.cons (.bin .add (.bin .mul (.var 2) (.int 16807)) (.int 7)) (.nil))) (.int 2147483647)) (.var 0)) (.cons (.ret (.bin .mod (.blt .int (.cons (.bin .fdiv (.var 2) (.int 64)) (.nil))) (.var 1))) (.nil)))))))
noncomputable def S__law_draw : Sem0 := mkS T.cons (attOf T) L0 I0
noncomputable def d__law_draw : Den := evFn S__law_draw 5 ir__law_draw
noncomputable def L1 : List Den := L0 ++ [d__law_draw]
def N__law_pick : List Str := ["pen", "some"]
def ir__law_pick : ISs := .cons (.ret (.ix (.var 1) (.call 0 (.cons (.var 0) (.cons (.blt .len (.cons (.var 1) (.nil))) (.nil)))))) (.nil)
noncomputable def S__law_pick : Sem0 := mkS T.cons (attOf T) L1 I0
noncomputable def d__law_pick : Den := evFn S__law_pick 2 ir__law_pick
noncomputable def L2 : List Den := L1 ++ [d__law_pick]
def N__law_drawn_items : List Str := ["pen", "m", "most", "ahead", "ring", "at"]
def ir__law_drawn_items : ISs := .cons (.asg 3 (.blt .tuple (.cons (.comp (.call 0 (.cons (.var 0) (.cons (.bin .add (.var 1) (.int 1)) (.nil)))) (.nm 5) (.rng1 (.call 0 (.cons (.var 0) (.cons (.bin .add (.var 2) (.int 1)) (.nil))))) (.nil) [("at", 5)]) (.nil)))) (.cons (.asg 4 (.blt .tuple (.cons (.comp (.call 0 (.cons (.var 0) (.cons (.bin .add (.var 1) (.int 1)) (.nil)))) (.nm 5) (.rng1 (.bin .add (.int 1) (.call 0 (.cons (.var 0) (.cons (.var 2) (.nil)))))) (.nil) [("at", 5)]) (.nil)))) (.cons (.ret (.tup (.cons (.var 3) (.cons (.bin .mul (.var 4) (.call 1 (.cons (.var 0) (.cons (.lst (.cons (.int 1) (.cons (.int 1) (.cons (.int 2) (.nil))))) (.nil))))) (.nil))))) (.nil)))
noncomputable def S__law_drawn_items : Sem0 := mkS T.cons (attOf T) L2 I0
noncomputable def d__law_drawn_items : Den := evFn S__law_drawn_items 6 ir__law_drawn_items
noncomputable def L3 : List Den := L2 ++ [d__law_drawn_items]
def N__law_item : List Str := ["row", "at", "ahead", "ring"]
def ir__law_item : ISs := .cons (.unp [2, 3] (.var 0)) (.cons (.ret (.ite (.cmp .lt (.var 1) (.blt .len (.cons (.var 2) (.nil)))) (.ix (.var 2) (.var 1)) (.ix (.var 3) (.bin .mod (.blt .int (.cons (.bin .sub (.var 1) (.blt .len (.cons (.var 2) (.nil)))) (.nil))) (.blt .len (.cons (.var 3) (.nil))))))) (.nil))
noncomputable def S__law_item : Sem0 := mkS T.cons (attOf T) L3 I0
noncomputable def d__law_item : Den := evFn S__law_item 4 ir__law_item
noncomputable def L4 : List Den := L3 ++ [d__law_item]
def N__law_beside_row : List Str := ["pen", "m", "pair", "many", "other", "at"]
def ir__law_beside_row : ISs := .cons (.asg 3 (.call 0 (.cons (.var 0) (.cons (.int 8) (.nil))))) (.cons (.asg 4 (.call 2 (.cons (.var 0) (.cons (.var 1) (.cons (.int 3) (.nil)))))) (.cons (.ret (.tup (.cons (.bin .add (.blt .tuple (.cons (.comp (.call 3 (.cons (.var 2) (.cons (.var 5) (.nil)))) (.nm 5) (.rng1 (.var 3)) (.nil) [("at", 5)]) (.nil))) (.ix (.var 4) (.int 0))) (.cons (.ix (.var 4) (.int 1)) (.nil))))) (.nil)))
noncomputable def S__law_beside_row : Sem0 := mkS T.cons (attOf T) L4 I0
noncomputable def d__law_beside_row : Den := evFn S__law_beside_row 6 ir__law_beside_row
noncomputable def L5 : List Den := L4 ++ [d__law_beside_row]
def N__law_first : List Str := ["one", "other", "at"]
def ir__law_first : ISs := .cons (.for_ (.nm 2) (.rng1 (.bin .add (.bin .add (.blt .max (.cons (.blt .len (.cons (.ix (.var 0) (.int 0)) (.nil))) (.cons (.blt .len (.cons (.ix (.var 1) (.int 0)) (.nil))) (.nil)))) (.bin .mul (.blt .len (.cons (.ix (.var 0) (.int 1)) (.nil))) (.blt .len (.cons (.ix (.var 1) (.int 1)) (.nil))))) (.int 1))) (.cons (.iff (.cmp .ne (.call 3 (.cons (.var 0) (.cons (.var 2) (.nil)))) (.call 3 (.cons (.var 1) (.cons (.var 2) (.nil))))) (.cons (.ret (.var 2)) (.nil)) (.nil)) (.nil))) (.cons (.ret (.non)) (.nil))
noncomputable def S__law_first : Sem0 := mkS T.cons (attOf T) L5 I0
noncomputable def d__law_first : Den := evFn S__law_first 3 ir__law_first
noncomputable def L6 : List Den := L5 ++ [d__law_first]
def N__law_is_0 : List Str := ["told", "due", "at"]
noncomputable def d__law_is_0 : Den := stuckD
noncomputable def L7 : List Den := L6 ++ [d__law_is_0]
def N__law_is_1 : List Str := ["told", "due", "at"]
def ir__law_is_1 : ISs := .cons (.iff (.isi (.var 1) (.b "tuple")) (.cons (.iff (.or (.cons (.not (.isi (.var 0) (.b "tuple"))) (.cons (.cmp .ne (.blt .len (.cons (.var 0) (.nil))) (.blt .len (.cons (.var 1) (.nil)))) (.nil)))) (.cons (.ret (.bl false)) (.nil)) (.nil)) (.cons (.ret (.cmp .eq (.comp (.var 2) (.nm 2) (.rng1 (.blt .len (.cons (.var 1) (.nil)))) (.cons (.not (.call 6 (.cons (.ix (.var 0) (.var 2)) (.cons (.ix (.var 1) (.var 2)) (.nil))))) (.nil)) [("at", 2)]) (.lst (.nil)))) (.nil))) (.nil)) (.cons (.iff (.cmp .is_ (.var 1) (.non)) (.cons (.ret (.cmp .is_ (.var 0) (.non))) (.nil)) (.nil)) (.cons (.iff (.cmp .is_ (.var 1) (.bl true)) (.cons (.ret (.cmp .is_ (.var 0) (.bl true))) (.nil)) (.nil)) (.cons (.iff (.cmp .is_ (.var 1) (.bl false)) (.cons (.ret (.cmp .is_ (.var 0) (.bl false))) (.nil)) (.nil)) (.cons (.iff (.isi (.var 1) (.b "str")) (.cons (.ret (.and (.cons (.isi (.var 0) (.b "str")) (.cons (.cmp .eq (.var 0) (.var 1)) (.nil))))) (.nil)) (.nil)) (.cons (.ret (.and (.cons (.isi (.var 0) (.b "int")) (.cons (.not (.isi (.var 0) (.b "bool"))) (.cons (.cmp .eq (.var 0) (.var 1)) (.nil)))))) (.nil))))))
noncomputable def S__law_is_1 : Sem0 := mkS T.cons (attOf T) L7 I0
noncomputable def d__law_is_1 : Den := evFn S__law_is_1 3 ir__law_is_1
noncomputable def L8 : List Den := L7 ++ [d__law_is_1]
def N__law_is_2 : List Str := ["told", "due", "at"]
def ir__law_is_2 : ISs := .cons (.iff (.isi (.var 1) (.b "tuple")) (.cons (.iff (.or (.cons (.not (.isi (.var 0) (.b "tuple"))) (.cons (.cmp .ne (.blt .len (.cons (.var 0) (.nil))) (.blt .len (.cons (.var 1) (.nil)))) (.nil)))) (.cons (.ret (.bl false)) (.nil)) (.nil)) (.cons (.ret (.cmp .eq (.comp (.var 2) (.nm 2) (.rng1 (.blt .len (.cons (.var 1) (.nil)))) (.cons (.not (.call 7 (.cons (.ix (.var 0) (.var 2)) (.cons (.ix (.var 1) (.var 2)) (.nil))))) (.nil)) [("at", 2)]) (.lst (.nil)))) (.nil))) (.nil)) (.cons (.iff (.cmp .is_ (.var 1) (.non)) (.cons (.ret (.cmp .is_ (.var 0) (.non))) (.nil)) (.nil)) (.cons (.iff (.cmp .is_ (.var 1) (.bl true)) (.cons (.ret (.cmp .is_ (.var 0) (.bl true))) (.nil)) (.nil)) (.cons (.iff (.cmp .is_ (.var 1) (.bl false)) (.cons (.ret (.cmp .is_ (.var 0) (.bl false))) (.nil)) (.nil)) (.cons (.iff (.isi (.var 1) (.b "str")) (.cons (.ret (.and (.cons (.isi (.var 0) (.b "str")) (.cons (.cmp .eq (.var 0) (.var 1)) (.nil))))) (.nil)) (.nil)) (.cons (.ret (.and (.cons (.isi (.var 0) (.b "int")) (.cons (.not (.isi (.var 0) (.b "bool"))) (.cons (.cmp .eq (.var 0) (.var 1)) (.nil)))))) (.nil))))))
noncomputable def S__law_is_2 : Sem0 := mkS T.cons (attOf T) L8 I0
noncomputable def d__law_is_2 : Den := evFn S__law_is_2 3 ir__law_is_2
noncomputable def L9 : List Den := L8 ++ [d__law_is_2]
def N__law_is_3 : List Str := ["told", "due", "at"]
def ir__law_is_3 : ISs := .cons (.iff (.isi (.var 1) (.b "tuple")) (.cons (.iff (.or (.cons (.not (.isi (.var 0) (.b "tuple"))) (.cons (.cmp .ne (.blt .len (.cons (.var 0) (.nil))) (.blt .len (.cons (.var 1) (.nil)))) (.nil)))) (.cons (.ret (.bl false)) (.nil)) (.nil)) (.cons (.ret (.cmp .eq (.comp (.var 2) (.nm 2) (.rng1 (.blt .len (.cons (.var 1) (.nil)))) (.cons (.not (.call 8 (.cons (.ix (.var 0) (.var 2)) (.cons (.ix (.var 1) (.var 2)) (.nil))))) (.nil)) [("at", 2)]) (.lst (.nil)))) (.nil))) (.nil)) (.cons (.iff (.cmp .is_ (.var 1) (.non)) (.cons (.ret (.cmp .is_ (.var 0) (.non))) (.nil)) (.nil)) (.cons (.iff (.cmp .is_ (.var 1) (.bl true)) (.cons (.ret (.cmp .is_ (.var 0) (.bl true))) (.nil)) (.nil)) (.cons (.iff (.cmp .is_ (.var 1) (.bl false)) (.cons (.ret (.cmp .is_ (.var 0) (.bl false))) (.nil)) (.nil)) (.cons (.iff (.isi (.var 1) (.b "str")) (.cons (.ret (.and (.cons (.isi (.var 0) (.b "str")) (.cons (.cmp .eq (.var 0) (.var 1)) (.nil))))) (.nil)) (.nil)) (.cons (.ret (.and (.cons (.isi (.var 0) (.b "int")) (.cons (.not (.isi (.var 0) (.b "bool"))) (.cons (.cmp .eq (.var 0) (.var 1)) (.nil)))))) (.nil))))))
noncomputable def S__law_is_3 : Sem0 := mkS T.cons (attOf T) L9 I0
noncomputable def d__law_is_3 : Den := evFn S__law_is_3 3 ir__law_is_3
noncomputable def L10 : List Den := L9 ++ [d__law_is_3]
def N__law_is_4 : List Str := ["told", "due", "at"]
def ir__law_is_4 : ISs := .cons (.iff (.isi (.var 1) (.b "tuple")) (.cons (.iff (.or (.cons (.not (.isi (.var 0) (.b "tuple"))) (.cons (.cmp .ne (.blt .len (.cons (.var 0) (.nil))) (.blt .len (.cons (.var 1) (.nil)))) (.nil)))) (.cons (.ret (.bl false)) (.nil)) (.nil)) (.cons (.ret (.cmp .eq (.comp (.var 2) (.nm 2) (.rng1 (.blt .len (.cons (.var 1) (.nil)))) (.cons (.not (.call 9 (.cons (.ix (.var 0) (.var 2)) (.cons (.ix (.var 1) (.var 2)) (.nil))))) (.nil)) [("at", 2)]) (.lst (.nil)))) (.nil))) (.nil)) (.cons (.iff (.cmp .is_ (.var 1) (.non)) (.cons (.ret (.cmp .is_ (.var 0) (.non))) (.nil)) (.nil)) (.cons (.iff (.cmp .is_ (.var 1) (.bl true)) (.cons (.ret (.cmp .is_ (.var 0) (.bl true))) (.nil)) (.nil)) (.cons (.iff (.cmp .is_ (.var 1) (.bl false)) (.cons (.ret (.cmp .is_ (.var 0) (.bl false))) (.nil)) (.nil)) (.cons (.iff (.isi (.var 1) (.b "str")) (.cons (.ret (.and (.cons (.isi (.var 0) (.b "str")) (.cons (.cmp .eq (.var 0) (.var 1)) (.nil))))) (.nil)) (.nil)) (.cons (.ret (.and (.cons (.isi (.var 0) (.b "int")) (.cons (.not (.isi (.var 0) (.b "bool"))) (.cons (.cmp .eq (.var 0) (.var 1)) (.nil)))))) (.nil))))))
noncomputable def S__law_is_4 : Sem0 := mkS T.cons (attOf T) L10 I0
noncomputable def d__law_is_4 : Den := evFn S__law_is_4 3 ir__law_is_4
noncomputable def L11 : List Den := L10 ++ [d__law_is_4]
def N_as_tuples_0 : List Str := ["value", "one"]
noncomputable def d_as_tuples_0 : Den := stuckD
noncomputable def L12 : List Den := L11 ++ [d_as_tuples_0]
def N_as_tuples_1 : List Str := ["value", "one"]
def ir_as_tuples_1 : ISs := .cons (.iff (.isis (.var 0) [.b "list", .b "tuple"]) (.cons (.ret (.blt .tuple (.cons (.comp (.call 11 (.cons (.var 1) (.nil))) (.nm 1) (.seq (.var 0)) (.nil) [("one", 1)]) (.nil)))) (.nil)) (.nil)) (.cons (.ret (.var 0)) (.nil))
noncomputable def S_as_tuples_1 : Sem0 := mkS T.cons (attOf T) L12 I0
noncomputable def d_as_tuples_1 : Den := evFn S_as_tuples_1 2 ir_as_tuples_1
noncomputable def L13 : List Den := L12 ++ [d_as_tuples_1]
def N_as_tuples_2 : List Str := ["value", "one"]
def ir_as_tuples_2 : ISs := .cons (.iff (.isis (.var 0) [.b "list", .b "tuple"]) (.cons (.ret (.blt .tuple (.cons (.comp (.call 12 (.cons (.var 1) (.nil))) (.nm 1) (.seq (.var 0)) (.nil) [("one", 1)]) (.nil)))) (.nil)) (.nil)) (.cons (.ret (.var 0)) (.nil))
noncomputable def S_as_tuples_2 : Sem0 := mkS T.cons (attOf T) L13 I0
noncomputable def d_as_tuples_2 : Den := evFn S_as_tuples_2 2 ir_as_tuples_2
noncomputable def L14 : List Den := L13 ++ [d_as_tuples_2]
def N_as_tuples_3 : List Str := ["value", "one"]
def ir_as_tuples_3 : ISs := .cons (.iff (.isis (.var 0) [.b "list", .b "tuple"]) (.cons (.ret (.blt .tuple (.cons (.comp (.call 13 (.cons (.var 1) (.nil))) (.nm 1) (.seq (.var 0)) (.nil) [("one", 1)]) (.nil)))) (.nil)) (.nil)) (.cons (.ret (.var 0)) (.nil))
noncomputable def S_as_tuples_3 : Sem0 := mkS T.cons (attOf T) L14 I0
noncomputable def d_as_tuples_3 : Den := evFn S_as_tuples_3 2 ir_as_tuples_3
noncomputable def L15 : List Den := L14 ++ [d_as_tuples_3]
def N_init_Row : List Str := ["self", "ahead", "ring"]
def ir_init_Row : ISs := .cons (.setf 0 "ahead" (.call 14 (.cons (.var 1) (.nil)))) (.cons (.setf 0 "ring" (.call 14 (.cons (.var 2) (.nil)))) (.nil))
noncomputable def S_init_Row : Sem0 := mkS T.cons (attOf T) L15 I0
noncomputable def i_Row : Ini := evIni S_init_Row 3 0 ir_init_Row
noncomputable def I16 : List Ini := I0 ++ [i_Row]
def N__law_is_row : List Str := ["found", "pair"]
def ir__law_is_row : ISs := .cons (.ret (.and (.cons (.isi (.var 0) (.c 0)) (.cons (.call 10 (.cons (.tup (.cons (.fld (.var 0) "ahead") (.cons (.fld (.var 0) "ring") (.nil)))) (.cons (.var 1) (.nil)))) (.nil))))) (.nil)
noncomputable def S__law_is_row : Sem0 := mkS T.cons (attOf T) L15 I16
noncomputable def d__law_is_row : Den := evFn S__law_is_row 2 ir__law_is_row
noncomputable def L17 : List Den := L15 ++ [d__law_is_row]
def N__law_made_row : List Str := ["row"]
def ir__law_made_row : ISs := .cons (.ret (.mk 0 (.cons (.ix (.var 0) (.int 0)) (.cons (.ix (.var 0) (.int 1)) (.nil))))) (.nil)
noncomputable def S__law_made_row : Sem0 := mkS T.cons (attOf T) L17 I16
noncomputable def d__law_made_row : Den := evFn S__law_made_row 1 ir__law_made_row
noncomputable def L18 : List Den := L17 ++ [d__law_made_row]
def N__law_row_least : List Str := ["ahead", "ring", "some", "lap", "many"]
def ir__law_row_least : ISs := .cons (.asg 2 (.comp (.var 4) (.nm 4) (.rng2 (.int 1) (.bin .add (.blt .len (.cons (.var 1) (.nil))) (.int 1))) (.cons (.and (.cons (.cmp .eq (.bin .mod (.blt .int (.cons (.blt .len (.cons (.var 1) (.nil))) (.nil))) (.var 4)) (.int 0)) (.cons (.cmp .eq (.bin .mul (.sl (.var 1) .no (.so (.var 4))) (.bin .fdiv (.blt .len (.cons (.var 1) (.nil))) (.var 4))) (.var 1)) (.nil)))) (.nil)) [("many", 4)])) (.cons (.asg 1 (.sl (.var 1) .no (.so (.ix (.var 2) (.int 0))))) (.cons (.for_ (.nm 3) (.rng1 (.blt .len (.cons (.var 0) (.nil)))) (.cons (.iff (.and (.cons (.cmp .ne (.var 0) (.tup (.nil))) (.cons (.cmp .eq (.ix (.var 0) (.neg (.int 1))) (.ix (.var 1) (.neg (.int 1)))) (.nil)))) (.cons (.unp [0, 1] (.tup (.cons (.sl (.var 0) .no (.so (.neg (.int 1)))) (.cons (.bin .add (.sl (.var 1) (.so (.neg (.int 1))) .no) (.sl (.var 1) .no (.so (.neg (.int 1))))) (.nil))))) (.nil)) (.nil)) (.nil))) (.cons (.ret (.tup (.cons (.var 0) (.cons (.var 1) (.nil))))) (.nil))))
noncomputable def S__law_row_least : Sem0 := mkS T.cons (attOf T) L18 I16
noncomputable def d__law_row_least : Den := evFn S__law_row_least 5 ir__law_row_least
noncomputable def L19 : List Den := L18 ++ [d__law_row_least]
def N__law_says : List Str := ["told", "due"]
def ir__law_says : ISs := .cons (.ret (.ite (.var 1) (.cmp .is_ (.var 0) (.bl true)) (.cmp .is_ (.var 0) (.bl false)))) (.nil)
noncomputable def S__law_says : Sem0 := mkS T.cons (attOf T) L19 I16
noncomputable def d__law_says : Den := evFn S__law_says 2 ir__law_says
noncomputable def L20 : List Den := L19 ++ [d__law_says]
def N__law_tail : List Str := ["row", "at", "by", "ahead", "ring"]
def ir__law_tail : ISs := .cons (.unp [3, 4] (.var 0)) (.cons (.iff (.cmp .le (.var 1) (.blt .len (.cons (.var 3) (.nil)))) (.cons (.ret (.tup (.cons (.sl (.var 3) (.so (.var 1)) .no) (.cons (.var 4) (.nil))))) (.nil)) (.nil)) (.cons (.asg 2 (.bin .mod (.blt .int (.cons (.bin .sub (.var 1) (.blt .len (.cons (.var 3) (.nil)))) (.nil))) (.blt .len (.cons (.var 4) (.nil))))) (.cons (.ret (.tup (.cons (.tup (.nil)) (.cons (.bin .add (.sl (.var 4) (.so (.var 2)) .no) (.sl (.var 4) .no (.so (.var 2)))) (.nil))))) (.nil))))
noncomputable def S__law_tail : Sem0 := mkS T.cons (attOf T) L20 I16
noncomputable def d__law_tail : Den := evFn S__law_tail 5 ir__law_tail
noncomputable def L21 : List Den := L20 ++ [d__law_tail]
def N_is_integer : List Str := ["value"]
def ir_is_integer : ISs := .cons (.ret (.and (.cons (.isi (.var 0) (.b "int")) (.cons (.not (.isi (.var 0) (.b "bool"))) (.nil))))) (.nil)
noncomputable def S_is_integer : Sem0 := mkS T.cons (attOf T) L21 I16
noncomputable def d_is_integer : Den := evFn S_is_integer 1 ir_is_integer
noncomputable def L22 : List Den := L21 ++ [d_is_integer]
def N_is_between : List Str := ["value", "low", "high"]
def ir_is_between : ISs := .cons (.ret (.and (.cons (.call 20 (.cons (.var 0) (.nil))) (.cons (.chain .le .le (.var 1) (.var 0) (.var 2)) (.nil))))) (.nil)
noncomputable def S_is_between : Sem0 := mkS T.cons (attOf T) L22 I16
noncomputable def d_is_between : Den := evFn S_is_between 3 ir_is_between
noncomputable def L23 : List Den := L22 ++ [d_is_between]
def N_need_figure : List Str := ["m"]
def ir_need_figure : ISs := .cons (.iff (.not (.call 21 (.cons (.var 0) (.cons (.int 1) (.cons (.con 0) (.nil)))))) (.cons (.nvr) (.nil)) (.nil)) (.nil)
noncomputable def S_need_figure : Sem0 := mkS T.cons (attOf T) L23 I16
noncomputable def d_need_figure : Den := evFn S_need_figure 1 ir_need_figure
noncomputable def L24 : List Den := L23 ++ [d_need_figure]
def N_are_figures : List Str := ["value", "m", "one"]
def ir_are_figures : ISs := .cons (.ret (.and (.cons (.isi (.var 0) (.b "tuple")) (.cons (.blt .all (.cons (.comp (.call 21 (.cons (.var 2) (.cons (.int 0) (.cons (.var 1) (.nil))))) (.nm 2) (.seq (.var 0)) (.nil) [("one", 2)]) (.nil))) (.nil))))) (.nil)
noncomputable def S_are_figures : Sem0 := mkS T.cons (attOf T) L24 I16
noncomputable def d_are_figures : Den := evFn S_are_figures 3 ir_are_figures
noncomputable def L25 : List Den := L24 ++ [d_are_figures]
def N_is_row : List Str := ["value", "m"]
def ir_is_row : ISs := .cons (.iff (.or (.cons (.not (.isi (.var 0) (.c 0))) (.cons (.not (.call 23 (.cons (.fld (.var 0) "ahead") (.cons (.var 1) (.nil))))) (.cons (.not (.call 23 (.cons (.fld (.var 0) "ring") (.cons (.var 1) (.nil))))) (.nil))))) (.cons (.ret (.bl false)) (.nil)) (.nil)) (.cons (.ret (.and (.cons (.cmp .ne (.fld (.var 0) "ring") (.tup (.nil))) (.cons (.cmp .le (.bin .add (.blt .len (.cons (.fld (.var 0) "ahead") (.nil))) (.blt .len (.cons (.fld (.var 0) "ring") (.nil)))) (.con 1)) (.nil))))) (.nil))
noncomputable def S_is_row : Sem0 := mkS T.cons (attOf T) L25 I16
noncomputable def d_is_row : Den := evFn S_is_row 2 ir_is_row
noncomputable def L26 : List Den := L25 ++ [d_is_row]
def N_need_row : List Str := ["value", "m", "what"]
def ir_need_row : ISs := .cons (.iff (.not (.call 24 (.cons (.var 0) (.cons (.var 1) (.nil))))) (.cons (.nvr) (.nil)) (.nil)) (.cons (.ret (.tup (.cons (.fld (.var 0) "ahead") (.cons (.fld (.var 0) "ring") (.nil))))) (.nil))
noncomputable def S_need_row : Sem0 := mkS T.cons (attOf T) L26 I16
noncomputable def d_need_row : Den := evFn S_need_row 3 ir_need_row
noncomputable def L27 : List Den := L26 ++ [d_need_row]
def N_item_by : List Str := ["row", "at", "ahead", "ring"]
def ir_item_by : ISs := .cons (.unp [2, 3] (.var 0)) (.cons (.ret (.ite (.cmp .lt (.var 1) (.blt .len (.cons (.var 2) (.nil)))) (.ix (.var 2) (.var 1)) (.ix (.var 3) (.bin .mod (.bin .sub (.var 1) (.blt .len (.cons (.var 2) (.nil)))) (.blt .len (.cons (.var 3) (.nil))))))) (.nil))
noncomputable def S_item_by : Sem0 := mkS T.cons (attOf T) L27 I16
noncomputable def d_item_by : Den := evFn S_item_by 4 ir_item_by
noncomputable def L28 : List Den := L27 ++ [d_item_by]
def N_unlike_by : List Str := ["one", "other", "many", "at"]
def ir_unlike_by : ISs := .cons (.asg 2 (.bin .add (.blt .max (.cons (.blt .len (.cons (.ix (.var 0) (.int 0)) (.nil))) (.cons (.blt .len (.cons (.ix (.var 1) (.int 0)) (.nil))) (.nil)))) (.bin .mul (.blt .len (.cons (.ix (.var 0) (.int 1)) (.nil))) (.blt .len (.cons (.ix (.var 1) (.int 1)) (.nil)))))) (.cons (.for_ (.nm 3) (.rng1 (.var 2)) (.cons (.iff (.cmp .ne (.call 26 (.cons (.var 0) (.cons (.var 3) (.nil)))) (.call 26 (.cons (.var 1) (.cons (.var 3) (.nil))))) (.cons (.ret (.var 3)) (.nil)) (.nil)) (.nil))) (.cons (.ret (.non)) (.nil)))
noncomputable def S_unlike_by : Sem0 := mkS T.cons (attOf T) L28 I16
noncomputable def d_unlike_by : Den := evFn S_unlike_by 4 ir_unlike_by
noncomputable def L29 : List Den := L28 ++ [d_unlike_by]
def N_first_unlike : List Str := ["m", "one", "other", "first"]
def ir_first_unlike : ISs := .cons (.drop (.call 22 (.cons (.var 0) (.nil)))) (.cons (.asg 3 (.call 25 (.cons (.var 1) (.cons (.var 0) (.cons (.str "one") (.nil)))))) (.cons (.ret (.call 27 (.cons (.var 3) (.cons (.call 25 (.cons (.var 2) (.cons (.var 0) (.cons (.str "other") (.nil))))) (.nil))))) (.nil)))
noncomputable def S_first_unlike : Sem0 := mkS T.cons (attOf T) L29 I16
noncomputable def d_first_unlike : Den := evFn S_first_unlike 4 ir_first_unlike
noncomputable def L30 : List Den := L29 ++ [d_first_unlike]
def N_rooted : List Str := ["word", "many"]
def ir_rooted : ISs := .cons (.for_ (.nm 1) (.rng2 (.int 1) (.blt .len (.cons (.var 0) (.nil)))) (.cons (.iff (.and (.cons (.cmp .eq (.bin .mod (.blt .len (.cons (.var 0) (.nil))) (.var 1)) (.int 0)) (.cons (.cmp .eq (.bin .mul (.sl (.var 0) .no (.so (.var 1))) (.bin .fdiv (.blt .len (.cons (.var 0) (.nil))) (.var 1))) (.var 0)) (.nil)))) (.cons (.ret (.sl (.var 0) .no (.so (.var 1)))) (.nil)) (.nil)) (.nil))) (.cons (.ret (.var 0)) (.nil))
noncomputable def S_rooted : Sem0 := mkS T.cons (attOf T) L30 I16
noncomputable def d_rooted : Den := evFn S_rooted 2 ir_rooted
noncomputable def L31 : List Den := L30 ++ [d_rooted]
def N_least_by : List Str := ["ahead", "ring"]
def ir_least_by : ISs := .cons (.asg 1 (.call 29 (.cons (.var 1) (.nil)))) (.cons (.whl (.and (.cons (.cmp .ne (.var 0) (.tup (.nil))) (.cons (.cmp .eq (.ix (.var 0) (.neg (.int 1))) (.ix (.var 1) (.neg (.int 1)))) (.nil)))) (.cons (.par 0 1 (.sl (.var 0) .no (.so (.neg (.int 1)))) (.bin .add (.sl (.var 1) (.so (.neg (.int 1))) .no) (.sl (.var 1) .no (.so (.neg (.int 1)))))) (.nil))) (.cons (.ret (.tup (.cons (.var 0) (.cons (.var 1) (.nil))))) (.nil)))
noncomputable def S_least_by : Sem0 := mkS T.cons (attOf T) L31 I16
noncomputable def d_least_by : Den := evFn S_least_by 2 ir_least_by
noncomputable def L32 : List Den := L31 ++ [d_least_by]
def N_is_least_by : List Str := ["ahead", "ring"]
def ir_is_least_by : ISs := .cons (.ret (.cmp .eq (.call 30 (.cons (.var 0) (.cons (.var 1) (.nil)))) (.tup (.cons (.var 0) (.cons (.var 1) (.nil)))))) (.nil)
noncomputable def S_is_least_by : Sem0 := mkS T.cons (attOf T) L32 I16
noncomputable def d_is_least_by : Den := evFn S_is_least_by 2 ir_is_least_by
noncomputable def L33 : List Den := L32 ++ [d_is_least_by]
def N_is_least : List Str := ["m", "row", "ahead", "ring"]
def ir_is_least : ISs := .cons (.drop (.call 22 (.cons (.var 0) (.nil)))) (.cons (.unp [2, 3] (.call 25 (.cons (.var 1) (.cons (.var 0) (.cons (.str "row") (.nil)))))) (.cons (.ret (.call 31 (.cons (.var 2) (.cons (.var 3) (.nil))))) (.nil)))
noncomputable def S_is_least : Sem0 := mkS T.cons (attOf T) L33 I16
noncomputable def d_is_least : Den := evFn S_is_least 4 ir_is_least
noncomputable def L34 : List Den := L33 ++ [d_is_least]
def N_need_index : List Str := ["at"]
def ir_need_index : ISs := .cons (.iff (.or (.cons (.not (.call 20 (.cons (.var 0) (.nil)))) (.cons (.cmp .lt (.var 0) (.int 0)) (.nil)))) (.cons (.nvr) (.nil)) (.nil)) (.nil)
noncomputable def S_need_index : Sem0 := mkS T.cons (attOf T) L34 I16
noncomputable def d_need_index : Den := evFn S_need_index 1 ir_need_index
noncomputable def L35 : List Den := L34 ++ [d_need_index]
def N_item_at : List Str := ["m", "row", "at", "told"]
def ir_item_at : ISs := .cons (.drop (.call 22 (.cons (.var 0) (.nil)))) (.cons (.asg 3 (.call 25 (.cons (.var 1) (.cons (.var 0) (.cons (.str "row") (.nil)))))) (.cons (.drop (.call 33 (.cons (.var 2) (.nil)))) (.cons (.ret (.call 26 (.cons (.var 3) (.cons (.var 2) (.nil))))) (.nil))))
noncomputable def S_item_at : Sem0 := mkS T.cons (attOf T) L35 I16
noncomputable def d_item_at : Den := evFn S_item_at 4 ir_item_at
noncomputable def L36 : List Den := L35 ++ [d_item_at]
def N_joined_row : List Str := ["m", "word", "row", "ahead", "ring"]
def ir_joined_row : ISs := .cons (.drop (.call 22 (.cons (.var 0) (.nil)))) (.cons (.iff (.or (.cons (.not (.isis (.var 1) [.b "list", .b "tuple"])) (.cons (.not (.call 23 (.cons (.blt .tuple (.cons (.var 1) (.nil))) (.cons (.var 0) (.nil))))) (.nil)))) (.cons (.nvr) (.nil)) (.nil)) (.cons (.unp [3, 4] (.call 25 (.cons (.var 2) (.cons (.var 0) (.cons (.str "row") (.nil)))))) (.cons (.unp [3, 4] (.call 30 (.cons (.bin .add (.blt .tuple (.cons (.var 1) (.nil))) (.var 3)) (.cons (.var 4) (.nil))))) (.cons (.ret (.mk 0 (.cons (.var 3) (.cons (.var 4) (.nil))))) (.nil)))))
noncomputable def S_joined_row : Sem0 := mkS T.cons (attOf T) L36 I16
noncomputable def d_joined_row : Den := evFn S_joined_row 5 ir_joined_row
noncomputable def L37 : List Den := L36 ++ [d_joined_row]
def N_least_form : List Str := ["m", "row", "ahead", "ring"]
def ir_least_form : ISs := .cons (.drop (.call 22 (.cons (.var 0) (.nil)))) (.cons (.unp [2, 3] (.call 25 (.cons (.var 1) (.cons (.var 0) (.cons (.str "row") (.nil)))))) (.cons (.unp [2, 3] (.call 30 (.cons (.var 2) (.cons (.var 3) (.nil))))) (.cons (.ret (.mk 0 (.cons (.var 2) (.cons (.var 3) (.nil))))) (.nil))))
noncomputable def S_least_form : Sem0 := mkS T.cons (attOf T) L37 I16
noncomputable def d_least_form : Den := evFn S_least_form 4 ir_least_form
noncomputable def L38 : List Den := L37 ++ [d_least_form]
def N_is_under : List Str := ["one", "other", "at"]
def ir_is_under : ISs := .cons (.asg 2 (.call 27 (.cons (.var 0) (.cons (.var 1) (.nil))))) (.cons (.ret (.and (.cons (.cmp .isnot (.var 2) (.non)) (.cons (.cmp .lt (.call 26 (.cons (.var 0) (.cons (.var 2) (.nil)))) (.call 26 (.cons (.var 1) (.cons (.var 2) (.nil))))) (.nil))))) (.nil))
noncomputable def S_is_under : Sem0 := mkS T.cons (attOf T) L38 I16
noncomputable def d_is_under : Den := evFn S_is_under 3 ir_is_under
noncomputable def L39 : List Den := L38 ++ [d_is_under]
def N_row_less : List Str := ["m", "one", "other", "first"]
def ir_row_less : ISs := .cons (.drop (.call 22 (.cons (.var 0) (.nil)))) (.cons (.asg 3 (.call 25 (.cons (.var 1) (.cons (.var 0) (.cons (.str "one") (.nil)))))) (.cons (.ret (.call 37 (.cons (.var 3) (.cons (.call 25 (.cons (.var 2) (.cons (.var 0) (.cons (.str "other") (.nil))))) (.nil))))) (.nil)))
noncomputable def S_row_less : Sem0 := mkS T.cons (attOf T) L39 I16
noncomputable def d_row_less : Den := evFn S_row_less 4 ir_row_less
noncomputable def L40 : List Den := L39 ++ [d_row_less]
def N_tail_by : List Str := ["row", "at", "by", "ahead", "ring"]
def ir_tail_by : ISs := .cons (.unp [3, 4] (.var 0)) (.cons (.iff (.cmp .le (.var 1) (.blt .len (.cons (.var 3) (.nil)))) (.cons (.ret (.call 30 (.cons (.sl (.var 3) (.so (.var 1)) .no) (.cons (.var 4) (.nil))))) (.nil)) (.nil)) (.cons (.asg 2 (.bin .mod (.bin .sub (.var 1) (.blt .len (.cons (.var 3) (.nil)))) (.blt .len (.cons (.var 4) (.nil))))) (.cons (.ret (.call 30 (.cons (.tup (.nil)) (.cons (.bin .add (.sl (.var 4) (.so (.var 2)) .no) (.sl (.var 4) .no (.so (.var 2)))) (.nil))))) (.nil))))
noncomputable def S_tail_by : Sem0 := mkS T.cons (attOf T) L40 I16
noncomputable def d_tail_by : Den := evFn S_tail_by 5 ir_tail_by
noncomputable def L41 : List Den := L40 ++ [d_tail_by]
def N_tail_of : List Str := ["m", "row", "at", "told", "ahead", "ring"]
def ir_tail_of : ISs := .cons (.drop (.call 22 (.cons (.var 0) (.nil)))) (.cons (.asg 3 (.call 25 (.cons (.var 1) (.cons (.var 0) (.cons (.str "row") (.nil)))))) (.cons (.drop (.call 33 (.cons (.var 2) (.nil)))) (.cons (.unp [4, 5] (.call 39 (.cons (.var 3) (.cons (.var 2) (.nil))))) (.cons (.ret (.mk 0 (.cons (.var 4) (.cons (.var 5) (.nil))))) (.nil)))))
noncomputable def S_tail_of : Sem0 := mkS T.cons (attOf T) L41 I16
noncomputable def d_tail_of : Den := evFn S_tail_of 6 ir_tail_of
noncomputable def L42 : List Den := L41 ++ [d_tail_of]
def N_turned_by : List Str := ["row", "m", "one"]
def ir_turned_by : ISs := .cons (.ret (.tup (.cons (.blt .tuple (.cons (.comp (.bin .sub (.var 1) (.var 2)) (.nm 2) (.seq (.ix (.var 0) (.int 0))) (.nil) [("one", 2)]) (.nil))) (.cons (.blt .tuple (.cons (.comp (.bin .sub (.var 1) (.var 2)) (.nm 2) (.seq (.ix (.var 0) (.int 1))) (.nil) [("one", 2)]) (.nil))) (.nil))))) (.nil)
noncomputable def S_turned_by : Sem0 := mkS T.cons (attOf T) L42 I16
noncomputable def d_turned_by : Den := evFn S_turned_by 3 ir_turned_by
noncomputable def L43 : List Den := L42 ++ [d_turned_by]
def N_turned_row : List Str := ["m", "row", "ahead", "ring"]
def ir_turned_row : ISs := .cons (.drop (.call 22 (.cons (.var 0) (.nil)))) (.cons (.unp [2, 3] (.call 41 (.cons (.call 25 (.cons (.var 1) (.cons (.var 0) (.cons (.str "row") (.nil))))) (.cons (.var 0) (.nil))))) (.cons (.ret (.mk 0 (.cons (.var 2) (.cons (.var 3) (.nil))))) (.nil)))
noncomputable def S_turned_row : Sem0 := mkS T.cons (attOf T) L43 I16
noncomputable def d_turned_row : Den := evFn S_turned_row 4 ir_turned_row
noncomputable def L44 : List Den := L43 ++ [d_turned_row]
def N_Row___eq__ : List Str := ["self", "other"]
def ir_Row___eq__ : ISs := .cons (.ret (.and (.cons (.isi (.var 1) (.c 0)) (.cons (.cmp .eq (.tup (.cons (.fld (.var 0) "ahead") (.cons (.fld (.var 0) "ring") (.nil)))) (.tup (.cons (.fld (.var 1) "ahead") (.cons (.fld (.var 1) "ring") (.nil))))) (.nil))))) (.nil)
noncomputable def S_Row___eq__ : Sem0 := mkS T.cons (attOf T) L44 I16
noncomputable def d_Row___eq__ : Den := evFn S_Row___eq__ 2 ir_Row___eq__
noncomputable def L45 : List Den := L44 ++ [d_Row___eq__]
def N__law_right : List Str := ["pen", "m", "pairs", "lap", "rows", "some", "row", "pair", "word", "least", "cut", "more", "one", "first", "at", "far", "other", "second", "due", "below", "k", "place"]
def ir__law_right : ISs := .cons (.asg 1 (.bin .add (.int 1) (.call 0 (.cons (.var 0) (.cons (.int 20) (.nil)))))) (.cons (.own 2 (.lst (.cons (.call 2 (.cons (.var 0) (.cons (.var 1) (.cons (.int 5) (.nil))))) (.nil)))) (.cons (.for_ (.nm 3) (.rng1 (.int 4)) (.cons (.appB 2 (.call 1 (.cons (.var 0) (.cons (.lst (.cons (.call 4 (.cons (.var 0) (.cons (.var 1) (.cons (.ix (.var 2) (.int 0)) (.nil))))) (.cons (.call 2 (.cons (.var 0) (.cons (.var 1) (.cons (.int 4) (.nil))))) (.cons (.tup (.cons (.bin .add (.ix (.ix (.var 2) (.int 0)) (.int 0)) (.ix (.ix (.var 2) (.int 0)) (.int 1))) (.cons (.bin .mul (.ix (.ix (.var 2) (.int 0)) (.int 1)) (.int 2)) (.nil)))) (.nil))))) (.nil))))) (.nil))) (.frz 2 (.cons (.asg 4 (.comp (.call 16 (.cons (.var 7) (.nil))) (.nm 7) (.seq (.var 2)) (.nil) [("pair", 7)])) (.cons (.for_ (.tp [6, 7]) (.zip (.var 4) (.var 2)) (.cons (.par 14 15 (.call 0 (.cons (.var 0) (.cons (.int 12) (.nil)))) (.call 0 (.cons (.var 0) (.cons (.int 9) (.nil))))) (.cons (.asg 8 (.comp (.call 3 (.cons (.var 7) (.cons (.var 20) (.nil)))) (.nm 20) (.rng1 (.var 14)) (.nil) [("k", 20)])) (.cons (.asg 9 (.call 17 (.cons (.ix (.var 7) (.int 0)) (.cons (.ix (.var 7) (.int 1)) (.nil))))) (.cons (.iff (.or (.cons (.not (.call 15 (.cons (.call 36 (.cons (.var 1) (.cons (.var 6) (.nil)))) (.cons (.var 9) (.nil))))) (.cons (.not (.call 18 (.cons (.call 32 (.cons (.var 1) (.cons (.var 6) (.nil)))) (.cons (.cmp .eq (.var 9) (.var 7)) (.nil))))) (.nil)))) (.cons (.ret (.bl false)) (.nil)) (.nil)) (.cons (.iff (.or (.cons (.not (.call 15 (.cons (.call 35 (.cons (.var 1) (.cons (.call 1 (.cons (.var 0) (.cons (.lst (.cons (.var 8) (.cons (.blt .tuple (.cons (.var 8) (.nil))) (.nil)))) (.nil)))) (.cons (.call 40 (.cons (.var 1) (.cons (.var 6) (.cons (.var 14) (.nil))))) (.nil))))) (.cons (.var 9) (.nil))))) (.cons (.not (.call 10 (.cons (.call 34 (.cons (.var 1) (.cons (.var 6) (.cons (.var 14) (.nil))))) (.cons (.call 3 (.cons (.var 7) (.cons (.var 14) (.nil)))) (.nil))))) (.nil)))) (.cons (.ret (.bl false)) (.nil)) (.nil)) (.cons (.iff (.eqo true 0 43 (.call 40 (.cons (.var 1) (.cons (.call 40 (.cons (.var 1) (.cons (.var 6) (.cons (.var 14) (.nil))))) (.cons (.var 15) (.nil))))) (.call 40 (.cons (.var 1) (.cons (.var 6) (.cons (.bin .add (.var 14) (.var 15)) (.nil)))))) (.cons (.ret (.bl false)) (.nil)) (.nil)) (.cons (.asg 10 (.call 19 (.cons (.var 7) (.cons (.var 14) (.nil))))) (.cons (.iff (.not (.call 15 (.cons (.call 40 (.cons (.var 1) (.cons (.var 6) (.cons (.var 14) (.nil))))) (.cons (.call 17 (.cons (.ix (.var 10) (.int 0)) (.cons (.ix (.var 10) (.int 1)) (.nil)))) (.nil))))) (.cons (.ret (.bl false)) (.nil)) (.nil)) (.cons (.asg 11 (.blt .tuple (.cons (.comp (.call 0 (.cons (.var 0) (.cons (.bin .add (.var 1) (.int 1)) (.nil)))) (.nm 3) (.rng1 (.var 15)) (.nil) [("lap", 3)]) (.nil)))) (.cons (.iff (.not (.call 15 (.cons (.call 35 (.cons (.var 1) (.cons (.var 11) (.cons (.var 6) (.nil))))) (.cons (.call 17 (.cons (.bin .add (.var 11) (.ix (.var 7) (.int 0))) (.cons (.ix (.var 7) (.int 1)) (.nil)))) (.nil))))) (.cons (.ret (.bl false)) (.nil)) (.nil)) (.nil)))))))))))) (.cons (.for_ (.tp [12, 13]) (.zip (.var 4) (.var 2)) (.cons (.for_ (.tp [16, 17]) (.zip (.var 4) (.var 2)) (.cons (.asg 18 (.call 5 (.cons (.var 13) (.cons (.var 17) (.nil))))) (.cons (.asg 19 (.and (.cons (.cmp .isnot (.var 18) (.non)) (.cons (.cmp .lt (.call 3 (.cons (.var 13) (.cons (.var 18) (.nil)))) (.call 3 (.cons (.var 17) (.cons (.var 18) (.nil))))) (.nil))))) (.cons (.iff (.or (.cons (.not (.call 10 (.cons (.call 28 (.cons (.var 1) (.cons (.var 12) (.cons (.var 16) (.nil))))) (.cons (.var 18) (.nil))))) (.cons (.not (.call 18 (.cons (.call 38 (.cons (.var 1) (.cons (.var 12) (.cons (.var 16) (.nil))))) (.cons (.var 19) (.nil))))) (.nil)))) (.cons (.ret (.bl false)) (.nil)) (.nil)) (.cons (.iff (.or (.cons (.cmp .ne (.call 38 (.cons (.var 1) (.cons (.call 42 (.cons (.var 1) (.cons (.var 16) (.nil)))) (.cons (.call 42 (.cons (.var 1) (.cons (.var 12) (.nil)))) (.nil))))) (.var 19)) (.cons (.cmp .ne (.cmp .is_ (.var 18) (.non)) (.eqo false 0 43 (.call 36 (.cons (.var 1) (.cons (.var 12) (.nil)))) (.call 36 (.cons (.var 1) (.cons (.var 16) (.nil)))))) (.nil)))) (.cons (.ret (.bl false)) (.nil)) (.nil)) (.nil)))))) (.nil))) (.cons (.asg 5 (.blt .sorted (.cons (.comp (.ite (.cmp .is_ (.var 21) (.non)) (.int 100) (.var 21)) (.nm 21) (.seq (.tup (.cons (.call 28 (.cons (.var 1) (.cons (.ix (.var 4) (.int 0)) (.cons (.ix (.var 4) (.int 1)) (.nil))))) (.cons (.call 28 (.cons (.var 1) (.cons (.ix (.var 4) (.int 1)) (.cons (.ix (.var 4) (.int 2)) (.nil))))) (.cons (.call 28 (.cons (.var 1) (.cons (.ix (.var 4) (.int 0)) (.cons (.ix (.var 4) (.int 2)) (.nil))))) (.nil)))))) (.nil) [("place", 21)]) (.nil)))) (.cons (.ret (.cmp .eq (.ix (.var 5) (.int 0)) (.ix (.var 5) (.int 1)))) (.nil)))))))))
noncomputable def S__law_right : Sem0 := mkS T.cons (attOf T) L45 I16
noncomputable def d__law_right : Den := evFn S__law_right 22 ir__law_right
noncomputable def L46 : List Den := L45 ++ [d__law_right]
theorem s__law_draw : S__law_draw.con 99999 = S__law_draw.con 99999 := rfl
theorem s__law_pick : S__law_pick.den 0 = d__law_draw := rfl
theorem s__law_drawn_items : S__law_drawn_items.den 0 = d__law_draw ∧ S__law_drawn_items.den 1 = d__law_pick := by
  exact ⟨rfl, rfl⟩
theorem s__law_item : S__law_item.con 99999 = S__law_item.con 99999 := rfl
theorem s__law_beside_row : S__law_beside_row.den 0 = d__law_draw ∧ S__law_beside_row.den 2 = d__law_drawn_items ∧ S__law_beside_row.den 3 = d__law_item := by
  exact ⟨rfl, rfl, rfl⟩
theorem s__law_first : S__law_first.den 3 = d__law_item := rfl
theorem s__law_is_1 : S__law_is_1.den 6 = d__law_is_0 := rfl
theorem s__law_is_2 : S__law_is_2.den 7 = d__law_is_1 := rfl
theorem s__law_is_3 : S__law_is_3.den 8 = d__law_is_2 := rfl
theorem s__law_is_4 : S__law_is_4.den 9 = d__law_is_3 := rfl
theorem s_as_tuples_1 : S_as_tuples_1.den 11 = d_as_tuples_0 := rfl
theorem s_as_tuples_2 : S_as_tuples_2.den 12 = d_as_tuples_1 := rfl
theorem s_as_tuples_3 : S_as_tuples_3.den 13 = d_as_tuples_2 := rfl
theorem s_init_Row : S_init_Row.den 14 = d_as_tuples_3 ∧ S_init_Row.att 0 = (["ahead", "ring"] : List Str) := by
  exact ⟨rfl, rfl⟩
theorem s__law_is_row : S__law_is_row.den 10 = d__law_is_4 ∧ S__law_is_row.att 0 = (["ahead", "ring"] : List Str) := by
  exact ⟨rfl, rfl⟩
theorem s__law_made_row : S__law_made_row.ini 0 = i_Row ∧ S__law_made_row.att 0 = (["ahead", "ring"] : List Str) := by
  exact ⟨rfl, rfl⟩
theorem s__law_row_least : S__law_row_least.con 99999 = S__law_row_least.con 99999 := rfl
theorem s__law_says : S__law_says.con 99999 = S__law_says.con 99999 := rfl
theorem s__law_tail : S__law_tail.con 99999 = S__law_tail.con 99999 := rfl
theorem s_is_integer : S_is_integer.con 99999 = S_is_integer.con 99999 := rfl
theorem s_is_between : S_is_between.den 20 = d_is_integer := rfl
theorem s_need_figure : S_need_figure.den 21 = d_is_between ∧ S_need_figure.con 0 = some 20 := by
  exact ⟨rfl, rfl⟩
theorem s_are_figures : S_are_figures.den 21 = d_is_between := rfl
theorem s_is_row : S_is_row.den 23 = d_are_figures ∧ S_is_row.con 1 = some 400 ∧ S_is_row.att 0 = (["ahead", "ring"] : List Str) := by
  exact ⟨rfl, rfl, rfl⟩
theorem s_need_row : S_need_row.den 24 = d_is_row ∧ S_need_row.att 0 = (["ahead", "ring"] : List Str) := by
  exact ⟨rfl, rfl⟩
theorem s_item_by : S_item_by.con 99999 = S_item_by.con 99999 := rfl
theorem s_unlike_by : S_unlike_by.den 26 = d_item_by := rfl
theorem s_first_unlike : S_first_unlike.den 22 = d_need_figure ∧ S_first_unlike.den 25 = d_need_row ∧ S_first_unlike.den 27 = d_unlike_by := by
  exact ⟨rfl, rfl, rfl⟩
theorem s_rooted : S_rooted.con 99999 = S_rooted.con 99999 := rfl
theorem s_least_by : S_least_by.den 29 = d_rooted := rfl
theorem s_is_least_by : S_is_least_by.den 30 = d_least_by := rfl
theorem s_is_least : S_is_least.den 22 = d_need_figure ∧ S_is_least.den 25 = d_need_row ∧ S_is_least.den 31 = d_is_least_by := by
  exact ⟨rfl, rfl, rfl⟩
theorem s_need_index : S_need_index.den 20 = d_is_integer := rfl
theorem s_item_at : S_item_at.den 22 = d_need_figure ∧ S_item_at.den 25 = d_need_row ∧ S_item_at.den 26 = d_item_by ∧ S_item_at.den 33 = d_need_index := by
  exact ⟨rfl, rfl, rfl, rfl⟩
theorem s_joined_row : S_joined_row.den 22 = d_need_figure ∧ S_joined_row.den 23 = d_are_figures ∧ S_joined_row.den 25 = d_need_row ∧ S_joined_row.den 30 = d_least_by ∧ S_joined_row.ini 0 = i_Row ∧ S_joined_row.att 0 = (["ahead", "ring"] : List Str) := by
  exact ⟨rfl, rfl, rfl, rfl, rfl, rfl⟩
theorem s_least_form : S_least_form.den 22 = d_need_figure ∧ S_least_form.den 25 = d_need_row ∧ S_least_form.den 30 = d_least_by ∧ S_least_form.ini 0 = i_Row ∧ S_least_form.att 0 = (["ahead", "ring"] : List Str) := by
  exact ⟨rfl, rfl, rfl, rfl, rfl⟩
theorem s_is_under : S_is_under.den 26 = d_item_by ∧ S_is_under.den 27 = d_unlike_by := by
  exact ⟨rfl, rfl⟩
theorem s_row_less : S_row_less.den 22 = d_need_figure ∧ S_row_less.den 25 = d_need_row ∧ S_row_less.den 37 = d_is_under := by
  exact ⟨rfl, rfl, rfl⟩
theorem s_tail_by : S_tail_by.den 30 = d_least_by := rfl
theorem s_tail_of : S_tail_of.den 22 = d_need_figure ∧ S_tail_of.den 25 = d_need_row ∧ S_tail_of.den 33 = d_need_index ∧ S_tail_of.den 39 = d_tail_by ∧ S_tail_of.ini 0 = i_Row ∧ S_tail_of.att 0 = (["ahead", "ring"] : List Str) := by
  exact ⟨rfl, rfl, rfl, rfl, rfl, rfl⟩
theorem s_turned_by : S_turned_by.con 99999 = S_turned_by.con 99999 := rfl
theorem s_turned_row : S_turned_row.den 22 = d_need_figure ∧ S_turned_row.den 25 = d_need_row ∧ S_turned_row.den 41 = d_turned_by ∧ S_turned_row.ini 0 = i_Row ∧ S_turned_row.att 0 = (["ahead", "ring"] : List Str) := by
  exact ⟨rfl, rfl, rfl, rfl, rfl⟩
theorem s_Row___eq__ : S_Row___eq__.att 0 = (["ahead", "ring"] : List Str) := rfl
theorem s__law_right : S__law_right.den 0 = d__law_draw ∧ S__law_right.den 1 = d__law_pick ∧ S__law_right.den 2 = d__law_drawn_items ∧ S__law_right.den 3 = d__law_item ∧ S__law_right.den 4 = d__law_beside_row ∧ S__law_right.den 5 = d__law_first ∧ S__law_right.den 10 = d__law_is_4 ∧ S__law_right.den 15 = d__law_is_row ∧ S__law_right.den 16 = d__law_made_row ∧ S__law_right.den 17 = d__law_row_least ∧ S__law_right.den 18 = d__law_says ∧ S__law_right.den 19 = d__law_tail ∧ S__law_right.den 28 = d_first_unlike ∧ S__law_right.den 32 = d_is_least ∧ S__law_right.den 34 = d_item_at ∧ S__law_right.den 35 = d_joined_row ∧ S__law_right.den 36 = d_least_form ∧ S__law_right.den 38 = d_row_less ∧ S__law_right.den 40 = d_tail_of ∧ S__law_right.den 42 = d_turned_row ∧ S__law_right.den 43 = d_Row___eq__ := by
  exact ⟨rfl, rfl, rfl, rfl, rfl, rfl, rfl, rfl, rfl, rfl, rfl, rfl, rfl, rfl, rfl, rfl, rfl, rfl, rfl, rfl, rfl⟩
def N_law : List Str := ["script", "pen", "lap"]
def ir_law : ISs := .cons (.for_ (.nm 2) (.rng1 (.int 3)) (.cons (.iff (.not (.call 44 (.cons (.var 1) (.nil)))) (.cons (.ret (.bl false)) (.nil)) (.nil)) (.nil))) (.cons (.ret (.bl true)) (.nil))
noncomputable def S_law : Sem0 := mkS T.cons (attOf T) L46 I16
theorem s_law : S_law.den 44 = d__law_right := rfl
def lvc_0 : List Nat := [2, 4, 6, 2, 8, 4, 2, 4, 6, 8, 10, 2, 4, 6, 8, 12, 12, 2, 2, 2, 2, 4, 6, 6, 12]
def lvc_1 : List Nat := [14, 2, 4, 16, 2, 4, 6, 16, 4, 16, 16, 16, 6, 16, 6, 16, 2, 16, 12, 18]
def lv : Nat → Nat := fun i => (lvc_0 ++ lvc_1 : List Nat).getD i 0
def ilv : Nat → Nat := fun i => ([10] : List Nat).getD i 0
end Lk07

/-! rows of figures: words ahead and rings, plainly -/
namespace RowP
abbrev W := List Int
theorem gD {l : W} {i : Nat} (d : Int) (h : i < l.length) : l.getD i d = l[i] := by rw [List.getD_eq_getElem?_getD, List.getElem?_eq_getElem h]; rfl
theorem gDl {u v : W} {i : Nat} (h : i < u.length) : (u ++ v).getD i 0 = u.getD i 0 := by rw [List.getD_eq_getElem?_getD, List.getD_eq_getElem?_getD, List.getElem?_append_left h]
theorem gDr {u v : W} {i : Nat} (h : u.length ≤ i) : (u ++ v).getD i 0 = v.getD (i - u.length) 0 := by rw [List.getD_eq_getElem?_getD, List.getD_eq_getElem?_getD, List.getElem?_append_right h]
def cyc (r : W) (i : Nat) : Int := r.getD (i % r.length) 0
def item (a r : W) (n : Nat) : Int := if n < a.length then a.getD n 0 else cyc r (n - a.length)
def pw (u : W) (k : Nat) : W := (List.replicate k u).flatten
def isP (w : W) (k : Nat) : Bool := decide (w.length % k = 0) && decide (pw (w.take k) (w.length / k) = w)
theorem pw_len (u : W) (k : Nat) : (pw u k).length = k * u.length := by
  unfold pw
  rw [List.length_flatten, List.map_replicate, List.sum_replicate_nat]
theorem pw_succ (u : W) (k : Nat) : pw u (k + 1) = u ++ pw u k := by
  unfold pw; rw [List.replicate_succ, List.flatten_cons]
theorem pw_get (u : W) (hu : u ≠ []) : ∀ (k i : Nat), i < k * u.length → (pw u k).getD i 0 = cyc u i
  | 0, i, h => by simp at h
  | k + 1, i, h => by
    rw [pw_succ]
    have hp : 0 < u.length := List.length_pos_iff.mpr hu
    by_cases hi : i < u.length
    · unfold cyc
      rw [Nat.mod_eq_of_lt hi, gDl hi]
    · have hi : u.length ≤ i := Nat.le_of_not_lt hi
      rw [gDr hi, pw_get u hu k (i - u.length) (by rw [Nat.succ_mul] at h; omega)]
      unfold cyc
      congr 1
      rw [← Nat.mod_eq_sub_mod hi]
theorem cyc_add {r : W} (i : Nat) : cyc r (i + r.length) = cyc r i := by unfold cyc; rw [Nat.add_mod_right]
theorem cyc_add_mul {r : W} (i : Nat) : ∀ k, cyc r (i + k * r.length) = cyc r i := fun k => by unfold cyc; rw [Nat.add_mul_mod_self_right]
theorem cyc_mod {r : W} (i : Nat) : cyc r (i % r.length) = cyc r i := by unfold cyc; rw [Nat.mod_mod]
theorem cyc_lt {r : W} {i : Nat} (h : i < r.length) : cyc r i = r.getD i 0 := by unfold cyc; rw [Nat.mod_eq_of_lt h]
theorem ext_getD {u v : W} (hl : u.length = v.length) (h : ∀ i, i < u.length → u.getD i 0 = v.getD i 0) : u = v := by
  apply List.ext_getElem hl
  intro i h1 h2
  have := h i h1
  rwa [gD _ h1, gD _ h2] at this
/-- a period within the ring -/
def Per (r : W) (g : Nat) : Prop := ∀ i, cyc r (i + g) = cyc r i
theorem Per.mul {r : W} {g : Nat} (h : Per r g) : ∀ k i, cyc r (i + k * g) = cyc r i
  | 0, i => by simp
  | k + 1, i => by rw [Nat.succ_mul, ← Nat.add_assoc, h, Per.mul h k i]
theorem Per.mod {r : W} {g : Nat} (h : Per r g) (i : Nat) : cyc r (i % g) = cyc r i := by
  have := h.mul (i / g) (i % g)
  rw [Nat.mul_comm, Nat.mod_add_div] at this
  exact this.symm
theorem isP_iff {w : W} {k : Nat} (hk : 0 < k) (hw : k ≤ w.length) : isP w k = true ↔ k ∣ w.length ∧ Per w k := by
  unfold isP
  simp only [Bool.and_eq_true, decide_eq_true_eq]
  have htl : (w.take k).length = k := by rw [List.length_take, Nat.min_eq_left hw]
  have hne : w.take k ≠ [] := fun e => by rw [e] at htl; simp at htl; omega
  constructor
  · rintro ⟨h1, h2⟩
    have hd : k ∣ w.length := Nat.dvd_of_mod_eq_zero h1
    refine ⟨hd, fun i => ?_⟩
    have gt : ∀ j, cyc w j = cyc (w.take k) j := fun j => by
      have hj : j % w.length < w.length := Nat.mod_lt _ (by omega)
      unfold cyc
      conv => lhs; rw [← h2]
      rw [pw_len, htl, Nat.div_mul_cancel hd, pw_get _ hne _ _ (by rw [htl, Nat.div_mul_cancel hd]; exact hj)]
      unfold cyc
      rw [htl, Nat.mod_mod_of_dvd _ hd]
    rw [gt, gt]
    unfold cyc
    rw [htl, Nat.add_mod_right]
  · rintro ⟨hd, hp⟩
    refine ⟨Nat.mod_eq_zero_of_dvd hd, ?_⟩
    apply ext_getD
    · rw [pw_len, htl, Nat.div_mul_cancel hd]
    · intro i hi
      rw [pw_len, htl, Nat.div_mul_cancel hd] at hi
      rw [pw_get _ hne _ _ (by rw [htl, Nat.div_mul_cancel hd]; exact hi)]
      have : cyc (w.take k) i = cyc w (i % k) := by
        have hik : i % k < k := Nat.mod_lt _ hk
        unfold cyc
        rw [htl, Nat.mod_eq_of_lt (show i % k < w.length by omega)]
        rw [gD _ (by rw [htl]; exact hik), gD _ (by omega), List.getElem_take]
      rw [this, hp.mod, cyc_lt hi]
/-- the shortest word of a ring -/
def rootN (w : W) : Nat := ((List.range' 1 (w.length - 1)).find? (isP w)).getD w.length
def root (w : W) : W := w.take (rootN w)
def Prim (r : W) : Prop := ∀ g, 0 < g → g ∣ r.length → Per r g → g = r.length
theorem isP_len {w : W} (h : w ≠ []) : isP w w.length = true := by
  unfold isP
  have : 0 < w.length := List.length_pos_iff.mpr h
  simp [Nat.div_self this, pw]
theorem rootN_ok {w : W} (h : w ≠ []) : 0 < rootN w ∧ rootN w ≤ w.length ∧ isP w (rootN w) = true ∧ ∀ k, 0 < k → k < rootN w → isP w k = false := by
  have hp : 0 < w.length := List.length_pos_iff.mpr h
  unfold rootN
  cases q : (List.range' 1 (w.length - 1)).find? (isP w) with
  | none =>
    simp only [Option.getD_none]
    refine ⟨hp, Nat.le_refl _, isP_len h, fun k h1 h2 => ?_⟩
    have := List.find?_eq_none.mp q k (by rw [List.mem_range']; exact ⟨k - 1, by omega, by omega⟩)
    simpa using this
  | some k =>
    simp only [Option.getD_some]
    have hk := List.find?_some q
    have hm := List.mem_of_find?_eq_some q
    rw [List.mem_range'] at hm
    obtain ⟨i, hi, rfl⟩ := hm
    refine ⟨by omega, by omega, hk, fun j h1 h2 => ?_⟩
    rw [List.find?_eq_some_iff_append] at q
    obtain ⟨_, as, bs, e, hno⟩ := q
    have hj : j ∈ as := by
      have hl : (List.range' 1 (w.length - 1))[j - 1]? = some j := by
        rw [List.getElem?_range' (by omega)]
        congr 1; omega
      have hasl : as.length = i := by
        have e1 : (List.range' 1 (w.length - 1))[as.length]? = some (1 + 1 * i) := by rw [e]; simp
        have hl2 : as.length < w.length - 1 := by
          have := congrArg List.length e
          simp at this; omega
        rw [List.getElem?_range' hl2] at e1
        simp at e1; omega
      rw [e, List.getElem?_append_left (by omega)] at hl
      exact List.mem_of_getElem? hl
    have := hno j hj
    simpa using this
theorem cyc_take {w : W} {k : Nat} (hk : 0 < k) (hw : k ≤ w.length) (hp : Per w k) (i : Nat) : cyc (w.take k) i = cyc w i := by
  have htl : (w.take k).length = k := by rw [List.length_take, Nat.min_eq_left hw]
  have hik : i % k < k := Nat.mod_lt _ hk
  rw [← hp.mod i]
  unfold cyc
  rw [htl, Nat.mod_eq_of_lt (show i % k < w.length by omega), gD _ (by rw [htl]; exact hik), gD _ (by omega), List.getElem_take]
theorem root_ok {w : W} (h : w ≠ []) : root w ≠ [] ∧ (root w).length = rootN w ∧ (∀ i, cyc (root w) i = cyc w i) ∧ Prim (root w) := by
  obtain ⟨h1, h2, h3, h4⟩ := rootN_ok h
  obtain ⟨hd, hp⟩ := (isP_iff h1 h2).mp h3
  have htl : (root w).length = rootN w := by unfold root; rw [List.length_take, Nat.min_eq_left h2]
  have hc : ∀ i, cyc (root w) i = cyc w i := cyc_take h1 h2 hp
  refine ⟨fun e => by rw [e] at htl; simp at htl; omega, htl, hc, fun g hg hdv hper => ?_⟩
  rw [htl] at hdv ⊢
  by_cases he : g = rootN w
  · exact he
  · have hlt : g < rootN w := Nat.lt_of_le_of_ne (Nat.le_of_dvd h1 hdv) he
    have := h4 g hg hlt
    rw [(isP_iff hg (by omega)).mpr ⟨Nat.dvd_trans hdv hd, fun i => by rw [← hc, ← hc]; exact hper i⟩] at this
    cases this
/-- one figure from the word ahead to the ring -/
def turn (r : W) : W := r.getLastD 0 :: r.dropLast
def stripR : Nat → W → W → W × W
  | 0, a, r => (a, r)
  | n + 1, a, r => if a ≠ [] ∧ a.getLastD 0 = r.getLastD 0 then stripR n a.dropLast (turn r) else (a, r)
def least (a r : W) : W × W := stripR a.length a (root r)
theorem last_cyc {r : W} (h : r ≠ []) : r.getLastD 0 = cyc r (r.length - 1) := by
  have hp : 0 < r.length := List.length_pos_iff.mpr h
  rw [cyc_lt (by omega), gD _ (by omega)]
  rw [List.getLastD_eq_getLast?, List.getLast?_eq_getElem?, List.getElem?_eq_getElem (by omega)]
  rfl
theorem turn_len {r : W} (h : r ≠ []) : (turn r).length = r.length := by
  have hp : 0 < r.length := List.length_pos_iff.mpr h
  unfold turn; simp; omega
theorem turn_cyc {r : W} (h : r ≠ []) (i : Nat) : cyc (turn r) i = cyc r (i + r.length - 1) := by
  have hp : 0 < r.length := List.length_pos_iff.mpr h
  have hl := turn_len h
  have hi : i % r.length < r.length := Nat.mod_lt _ hp
  have e : (i + r.length - 1) % r.length = (i % r.length + r.length - 1) % r.length := by
    conv => lhs; rw [← Nat.div_add_mod i r.length]
    rw [show r.length * (i / r.length) + i % r.length + r.length - 1 = (i % r.length + r.length - 1) + r.length * (i / r.length) by omega, Nat.add_mul_mod_self_left]
  unfold cyc
  rw [hl, e]
  cases q : i % r.length with
  | zero =>
    rw [show (0 + r.length - 1) % r.length = r.length - 1 by rw [Nat.mod_eq_of_lt] <;> omega]
    show r.getLastD 0 = _
    rw [last_cyc h, cyc_lt (by omega)]
  | succ j =>
    rw [show (j + 1 + r.length - 1) % r.length = j by rw [show j + 1 + r.length - 1 = j + r.length by omega, Nat.add_mod_right, Nat.mod_eq_of_lt (by omega)]]
    show (r.getLastD 0 :: r.dropLast).getD (j + 1) 0 = _
    rw [List.getD_cons_succ, gD _ (by rw [List.length_dropLast]; omega), gD _ (by omega), List.getElem_dropLast]
theorem turn_prim {r : W} (h : r ≠ []) (hp : Prim r) : Prim (turn r) := fun g hg hd hper => by
  have hlp : 0 < r.length := List.length_pos_iff.mpr h
  rw [turn_len h] at hd ⊢
  refine hp g hg hd fun i => ?_
  have := hper (i + 1)
  rw [turn_cyc h, turn_cyc h] at this
  rw [show i + 1 + g + r.length - 1 = (i + g) + r.length by omega, show i + 1 + r.length - 1 = i + r.length by omega, cyc_add, cyc_add] at this
  exact this
/-- reduced: nothing to be shortened -/
structure Red (a r : W) : Prop where
  ne : r ≠ []
  prim : Prim r
  last : a ≠ [] → a.getLastD 0 ≠ r.getLastD 0
theorem item_turn {a r : W} (ha : a ≠ []) (hr : r ≠ []) (hl : a.getLastD 0 = r.getLastD 0) (n : Nat) : item a.dropLast (turn r) n = item a r n := by
  have hap : 0 < a.length := List.length_pos_iff.mpr ha
  have hrp : 0 < r.length := List.length_pos_iff.mpr hr
  unfold item
  rw [List.length_dropLast]
  by_cases h1 : n < a.length - 1
  · rw [if_pos h1, if_pos (by omega), gD _ (by rw [List.length_dropLast]; omega), gD _ (by omega), List.getElem_dropLast]
  · rw [if_neg h1, turn_cyc hr]
    by_cases h2 : n < a.length
    · rw [if_pos h2]
      have : n = a.length - 1 := by omega
      subst this
      rw [show a.length - 1 - (a.length - 1) + r.length - 1 = r.length - 1 by omega, ← last_cyc hr, ← hl, last_cyc ha, cyc_lt (by omega)]
    · rw [if_neg h2, show n - (a.length - 1) + r.length - 1 = (n - a.length) + r.length by omega, cyc_add]
theorem stripR_ok : ∀ (n : Nat) (a r : W), r ≠ [] → Prim r → a.length ≤ n → Red (stripR n a r).1 (stripR n a r).2 ∧ ∀ i, item (stripR n a r).1 (stripR n a r).2 i = item a r i
  | 0, a, r, hr, hp, hn => by
    have : a = [] := List.eq_nil_of_length_eq_zero (by omega)
    subst this
    exact ⟨⟨hr, hp, fun h => absurd rfl h⟩, fun i => rfl⟩
  | n + 1, a, r, hr, hp, hn => by
    unfold stripR
    split
    · rename_i h
      have ht : turn r ≠ [] := by unfold turn; simp
      obtain ⟨q1, q2⟩ := stripR_ok n a.dropLast (turn r) ht (turn_prim hr hp) (by rw [List.length_dropLast]; omega)
      exact ⟨q1, fun i => by rw [q2, item_turn h.1 hr h.2]⟩
    · rename_i h
      exact ⟨⟨hr, hp, fun h1 h2 => h ⟨h1, h2⟩⟩, fun i => rfl⟩
theorem item_congr {a r s : W} (h : ∀ i, cyc r i = cyc s i) (n : Nat) : item a r n = item a s n := by
  unfold item; split
  · rfl
  · exact h _
theorem least_ok {a r : W} (h : r ≠ []) : Red (least a r).1 (least a r).2 ∧ ∀ i, item (least a r).1 (least a r).2 i = item a r i := by
  obtain ⟨h1, h2, h3, h4⟩ := root_ok h
  obtain ⟨q1, q2⟩ := stripR_ok a.length a (root r) h1 h4 (Nat.le_refl _)
  exact ⟨q1, fun i => by rw [show (least a r) = stripR a.length a (root r) from rfl, q2, item_congr h3]⟩
theorem item_late {a r : W} {n : Nat} (h : a.length ≤ n) : item a r n = cyc r (n - a.length) := by unfold item; rw [if_neg (by omega)]
theorem item_per {a r : W} {n : Nat} (h : a.length ≤ n) : item a r (n + r.length) = item a r n := by
  rw [item_late h, item_late (by omega), show n + r.length - a.length = (n - a.length) + r.length by omega, cyc_add]
theorem item_perk {a r : W} {n : Nat} (h : a.length ≤ n) : ∀ k, item a r (n + k * r.length) = item a r n
  | 0 => by simp
  | k + 1 => by rw [Nat.succ_mul, ← Nat.add_assoc, item_per (by omega), item_perk h k]
/-- a ring's length divides each late period of its row -/
theorem prim_dvd {a r : W} (hr : r ≠ []) (hp : Prim r) {q N : Nat} (h : ∀ n, N ≤ n → item a r (n + q) = item a r n) : r.length ∣ q := by
  have hlp : 0 < r.length := List.length_pos_iff.mpr hr
  -- q is a period of the ring
  have pq : Per r q := fun i => by
    have e1 : item a r ((a.length + i + N * r.length) + q) = item a r (a.length + i + N * r.length) := h _ (by have := Nat.le_mul_of_pos_right N hlp; omega)
    rw [item_late (by omega), item_late (by omega)] at e1
    rw [show a.length + i + N * r.length + q - a.length = (i + q) + N * r.length by omega, show a.length + i + N * r.length - a.length = i + N * r.length by omega, cyc_add_mul, cyc_add_mul] at e1
    exact e1
  -- so is the greatest common divisor
  have pg : Per r (Nat.gcd r.length q) := by
    have key : ∀ n m : Nat, Per r n → Per r m → Per r (Nat.gcd n m) := by
      intro n m
      induction n, m using Nat.gcd.induction with
      | H0 m => intro _ h2; rw [Nat.gcd_zero_left]; exact h2
      | H1 n m hn ih =>
        intro h1 h2
        rw [Nat.gcd_rec]
        refine ih (fun i => ?_) h1
        have e := h1.mul (m / n) (i + m % n)
        rw [show i + m % n + m / n * n = i + m by have := Nat.div_add_mod m n; rw [Nat.mul_comm] at this; omega, h2] at e
        exact e.symm
    exact key _ _ (fun i => cyc_add i) pq
  have := hp _ (Nat.gcd_pos_of_pos_left _ hlp) (Nat.gcd_dvd_left _ _) pg
  rw [← this]
  exact Nat.gcd_dvd_right _ _
theorem red_len {a r b s : W} (h1 : Red a r) (h2 : Red b s) (h : ∀ n, item a r n = item b s n) : r.length = s.length ∧ a.length = b.length := by
  have e : r.length = s.length := by
    apply Nat.dvd_antisymm
    · exact prim_dvd h1.ne h1.prim (N := b.length) fun n hn => by rw [h, h, item_per hn]
    · exact prim_dvd h2.ne h2.prim (N := a.length) fun n hn => by rw [← h, ← h, item_per hn]
  refine ⟨e, ?_⟩
  have key : ∀ {a r b s : W}, Red a r → Red b s → (∀ n, item a r n = item b s n) → r.length = s.length → ¬ a.length < b.length := by
    intro a r b s h1 h2 h e hlt
    have hb : b ≠ [] := fun z => by rw [z] at hlt; simp at hlt
    have hsp : 0 < s.length := List.length_pos_iff.mpr h2.ne
    apply h2.last hb
    have e1 : item b s (b.length - 1) = b.getLastD 0 := by
      unfold item; rw [if_pos (by omega), last_cyc hb, cyc_lt (by omega)]
    have e2 : item b s (b.length - 1 + s.length) = s.getLastD 0 := by
      rw [item_late (by omega), last_cyc h2.ne, show b.length - 1 + s.length - b.length = s.length - 1 by omega]
    rw [← e1, ← e2, ← h, ← h, ← e, item_per (by omega)]
  have k1 := key h1 h2 h e
  have k2 := key h2 h1 (fun n => (h n).symm) e.symm
  omega
theorem red_eq {a r b s : W} (h1 : Red a r) (h2 : Red b s) (h : ∀ n, item a r n = item b s n) : a = b ∧ r = s := by
  obtain ⟨e1, e2⟩ := red_len h1 h2 h
  constructor
  · apply ext_getD e2
    intro i hi
    have := h i
    unfold item at this
    rwa [if_pos hi, if_pos (by omega)] at this
  · apply ext_getD e1
    intro i hi
    have := h (a.length + i)
    rw [item_late (by omega), item_late (by omega), e2, Nat.add_sub_cancel_left, cyc_lt hi, cyc_lt (by omega)] at this
    exact this
/-- LEAST FORMS ALIKE EXACTLY FOR ONE ROW -/
theorem canon {a r b s : W} (hr : r ≠ []) (hs : s ≠ []) : least a r = least b s ↔ ∀ n, item a r n = item b s n := by
  obtain ⟨p1, p2⟩ := least_ok (a := a) hr
  obtain ⟨q1, q2⟩ := least_ok (a := b) hs
  constructor
  · intro e n
    rw [← p2, ← q2, e]
  · intro e
    obtain ⟨z1, z2⟩ := red_eq p1 q1 fun n => by rw [p2, q2, e]
    exact Prod.ext z1 z2
end RowP

set_option Elab.async false
set_option linter.all false
set_option maxRecDepth 100000
set_option maxHeartbeats 1000000
namespace Lk07
open PySem PySem.Spec PyProof.Rows L2 Mi
def PInv (p : PenS) : Prop := ∃ st, p = some st ∧ 0 ≤ st.at_
theorem cp18 : CPow 10 18 := by decide
theorem e18 : (10 : Int) ^ Int.toNat 18 = 1000000000000000000 := by decide
/-- the statements behind the first n -/
def dropSs : Nat → ISs → ISs
  | 0, r => r
  | n + 1, .cons _ r => dropSs n r
  | n + 1, .frz _ r => dropSs n r
  | _ + 1, .nil => .nil
theorem draw_tail (s : Pen) {many : Int} (h1 : 1 ≤ many) (h2 : many.natAbs.log2 < 9000) (z : Sl) : ∃ v s' ρ', evSs S__law_draw (dropSs 2 ir__law_draw) [.d .pen, .d (.int many), .u, z, .u] (some s) = .ok (.rt (.int v), ρ') (some s') ∧ s'.at_ = s.at_ ∧ 0 ≤ v ∧ v < many := by
  have hm : many ≠ 0 := by omega
  have hd : ∀ x, divOk x many := fun x => .inr ⟨by omega, h2⟩
  have hd64 : ∀ x, divOk x 64 := fun x => .inl ⟨by decide, by decide⟩
  have m2 : ∀ x : Int, mulOk x 48271 := fun x => mulOk_r (by decide)
  have m3 : ∀ x : Int, mulOk x 7919 := fun x => mulOk_r (by decide)
  have m4 : ∀ x : Int, mulOk 31 x := fun x => mulOk_l (by decide)
  have m5 : ∀ x : Int, mulOk x 16807 := fun x => mulOk_r (by decide)
  have m6 : ∀ x : Int, mulOk (x.fmod 2147483647) (x.fmod 2147483647) := fun x => mulOk_l ⟨by have := Int.fmod_nonneg_of_pos x (show (0:Int) < 2147483647 by decide); omega, by have := Int.fmod_lt_of_pos x (show (0:Int) < 2147483647 by decide); omega⟩
  have n2 : (2147483647 : Int) ≠ 0 := by decide
  have n3 : (2147483629 : Int) ≠ 0 := by decide
  have bd : ∀ x : Int, 0 ≤ x.fmod many ∧ x.fmod many < many := fun x => ⟨Int.fmod_nonneg_of_pos x (by omega), Int.fmod_lt_of_pos x (by omega)⟩
  by_cases c : 0 < s.digits
  · simp -implicitDefEqProofs only [evFn, evSs, evS, evE, evT, evEs, evAnd, evOr, evAndT, evOrT, evO, evI, evOwn, R.bind_ok, R.of_some, se_d, se_u, se_o, sb_d, sb_u, sb_o, see, seeB, List.map_cons, List.map_nil, List.cons_append, List.nil_append, List.length_cons, List.length_nil, List.replicate_succ, List.replicate_zero, List.getElem?_cons_zero, List.getElem?_cons_succ, List.set_cons_zero, List.set_cons_succ, Option.join_some, Option.map_some, Option.map_none, Option.bind_some, setSl, tgSl, b_add, b_sub, b_mul, b_fdiv, b_mod, b_pow, b_addT, b_addL, b_mulT, b_mulL, deq_ii, deq_bb, c_eq, c_ne, c_lt, c_le, c_gt, c_ge, c_isN, c_isnN, c_isB, c_isnB, i_bl, i_non, i_int, i_str, i_tup, i_lst, non_non, non_int, non_tup, non_bl, t_non, t_bl, t_int, t_tup, t_lst, ixD_tup, ixD_lst, slD_tup, slD_lst, f_lenT, f_lenL, f_tupT, f_tupL, f_lstT, f_lstL, f_int, f_abs, f_max, f_min, f_all, f_any, f_sum, f_sorted, y_int, y_bl, y_non, y_str, y_tup, y_lst, y_obj, k_ii, k_ib, k_it, k_il, k_is, k_tt, k_tl, k_ti, k_tb, k_ll, k_lt, k_bi, k_bb, k_bt, k_bl, k_nt, k_ss, k_st, k_cc, ks_nil, ks_cons, as_int, pg_cells, pg_at, pg_digits, pg_count, pg_fold, ps_at, ps_digits, ps_count, ps_fold, q_tup, q_lst, z_tt, z_ll, ea_obj, er_bl, if_true, if_false, Bool.false_eq_true, Nat.reduceAdd, Nat.reduceSub, Bool.not_true, Bool.not_false, decide_true, decide_false, ir__law_draw, dropSs, c, hm, hd, ne_eq, not_false_eq_true]
    exact ⟨_, _, _, rfl, rfl, bd _⟩
  · simp -implicitDefEqProofs only [evFn, evSs, evS, evE, evT, evEs, evAnd, evOr, evAndT, evOrT, evO, evI, evOwn, R.bind_ok, R.of_some, se_d, se_u, se_o, sb_d, sb_u, sb_o, see, seeB, List.map_cons, List.map_nil, List.cons_append, List.nil_append, List.length_cons, List.length_nil, List.replicate_succ, List.replicate_zero, List.getElem?_cons_zero, List.getElem?_cons_succ, List.set_cons_zero, List.set_cons_succ, Option.join_some, Option.map_some, Option.map_none, Option.bind_some, setSl, tgSl, b_add, b_sub, b_mul, b_fdiv, b_mod, b_pow, b_addT, b_addL, b_mulT, b_mulL, deq_ii, deq_bb, c_eq, c_ne, c_lt, c_le, c_gt, c_ge, c_isN, c_isnN, c_isB, c_isnB, i_bl, i_non, i_int, i_str, i_tup, i_lst, non_non, non_int, non_tup, non_bl, t_non, t_bl, t_int, t_tup, t_lst, ixD_tup, ixD_lst, slD_tup, slD_lst, f_lenT, f_lenL, f_tupT, f_tupL, f_lstT, f_lstL, f_int, f_abs, f_max, f_min, f_all, f_any, f_sum, f_sorted, y_int, y_bl, y_non, y_str, y_tup, y_lst, y_obj, k_ii, k_ib, k_it, k_il, k_is, k_tt, k_tl, k_ti, k_tb, k_ll, k_lt, k_bi, k_bb, k_bt, k_bl, k_nt, k_ss, k_st, k_cc, ks_nil, ks_cons, as_int, pg_cells, pg_at, pg_digits, pg_count, pg_fold, ps_at, ps_digits, ps_count, ps_fold, q_tup, q_lst, z_tt, z_ll, ea_obj, er_bl, if_true, if_false, Bool.false_eq_true, Nat.reduceAdd, Nat.reduceSub, Bool.not_true, Bool.not_false, decide_true, decide_false, ir__law_draw, dropSs, c, hm, hd, hd64, m2, m3, m4, m5, m6, n2, n3, ne_eq, not_false_eq_true]
    exact ⟨_, _, _, rfl, rfl, bd _⟩
theorem evSs_cons {S : Sem0} {a : IS} {r : ISs} {ρ : SEnv} {p : PenS} : evSs S (.cons a r) ρ p = (evS S a ρ p).bind fun (fl, ρ) p => match fl with
    | .nx => evSs S r ρ p
    | fl => .ok (fl, ρ) p := by rw [evSs] <;> rfl
theorem draw {p : PenS} (hp : PInv p) {many : Int} (h1 : 1 ≤ many) (h2 : many.natAbs.log2 < 9000) : ∃ v p', d__law_draw [.pen, .int many] p = .ok (.int v) p' ∧ PInv p' ∧ 0 ≤ v ∧ v < many := by
  obtain ⟨st, rfl, ha⟩ := hp
  have m1 : ∀ x : Int, mulOk x 69069 := fun x => mulOk_r (by decide)
  have n1 : (2147483587 : Int) ≠ 0 := by decide
  have key : ∃ s' z, 0 ≤ s'.at_ ∧ ∀ r, evSs S__law_draw (.cons (match ir__law_draw with | .cons a _ => a | _ => .pas) (.cons (match dropSs 1 ir__law_draw with | .cons a _ => a | _ => .pas) r)) [.d .pen, .d (.int many), .u, .u, .u] (some st) = evSs S__law_draw r [.d .pen, .d (.int many), .u, z, .u] (some s') := by
    by_cases c1 : st.digits = 0
    · by_cases c2 : st.at_ < st.cells.length
      · have hx : atI (st.cells.map D.int) st.at_ = some (.int (st.cells[st.at_.toNat]'(by omega))) := by
          rw [atI_nn ha (by rw [List.length_map]; exact c2), List.getElem?_map, List.getElem?_eq_getElem (by omega)]
          rfl
        generalize (st.cells[st.at_.toNat]'(by omega)) = cell at hx
        by_cases c3 : 1000000000000000000 ≤ cell
        · refine ⟨{ cells := st.cells, at_ := st.at_ + 1, digits := cell - 1000000000000000000, count := st.count + 1, fold := st.fold }, .d (.int cell), by show 0 ≤ st.at_ + 1; omega, fun r => ?_⟩
          rw [evSs_cons]
          simp -implicitDefEqProofs only [evFn, evSs, evS, evE, evT, evEs, evAnd, evOr, evAndT, evOrT, evO, evI, evOwn, R.bind_ok, R.of_some, se_d, se_u, se_o, sb_d, sb_u, sb_o, see, seeB, List.map_cons, List.map_nil, List.cons_append, List.nil_append, List.length_cons, List.length_nil, List.replicate_succ, List.replicate_zero, List.getElem?_cons_zero, List.getElem?_cons_succ, List.set_cons_zero, List.set_cons_succ, Option.join_some, Option.map_some, Option.map_none, Option.bind_some, setSl, tgSl, b_add, b_sub, b_mul, b_fdiv, b_mod, b_pow, b_addT, b_addL, b_mulT, b_mulL, deq_ii, deq_bb, c_eq, c_ne, c_lt, c_le, c_gt, c_ge, c_isN, c_isnN, c_isB, c_isnB, i_bl, i_non, i_int, i_str, i_tup, i_lst, non_non, non_int, non_tup, non_bl, t_non, t_bl, t_int, t_tup, t_lst, ixD_tup, ixD_lst, slD_tup, slD_lst, f_lenT, f_lenL, f_tupT, f_tupL, f_lstT, f_lstL, f_int, f_abs, f_max, f_min, f_all, f_any, f_sum, f_sorted, y_int, y_bl, y_non, y_str, y_tup, y_lst, y_obj, k_ii, k_ib, k_it, k_il, k_is, k_tt, k_tl, k_ti, k_tb, k_ll, k_lt, k_bi, k_bb, k_bt, k_bl, k_nt, k_ss, k_st, k_cc, ks_nil, ks_cons, as_int, pg_cells, pg_at, pg_digits, pg_count, pg_fold, ps_at, ps_digits, ps_count, ps_fold, q_tup, q_lst, z_tt, z_ll, ea_obj, er_bl, if_true, if_false, Bool.false_eq_true, Nat.reduceAdd, Nat.reduceSub, Bool.not_true, Bool.not_false, decide_true, decide_false, ir__law_draw, dropSs, c1, c2, hx, List.length_map, cp18, e18, c3]
        · refine ⟨{ cells := st.cells, at_ := st.at_ + 1, digits := 0, count := st.count + 1, fold := (st.fold * 69069 + cell).fmod 2147483587 }, .d (.int cell), by show 0 ≤ st.at_ + 1; omega, fun r => ?_⟩
          rw [evSs_cons]
          simp -implicitDefEqProofs only [evFn, evSs, evS, evE, evT, evEs, evAnd, evOr, evAndT, evOrT, evO, evI, evOwn, R.bind_ok, R.of_some, se_d, se_u, se_o, sb_d, sb_u, sb_o, see, seeB, List.map_cons, List.map_nil, List.cons_append, List.nil_append, List.length_cons, List.length_nil, List.replicate_succ, List.replicate_zero, List.getElem?_cons_zero, List.getElem?_cons_succ, List.set_cons_zero, List.set_cons_succ, Option.join_some, Option.map_some, Option.map_none, Option.bind_some, setSl, tgSl, b_add, b_sub, b_mul, b_fdiv, b_mod, b_pow, b_addT, b_addL, b_mulT, b_mulL, deq_ii, deq_bb, c_eq, c_ne, c_lt, c_le, c_gt, c_ge, c_isN, c_isnN, c_isB, c_isnB, i_bl, i_non, i_int, i_str, i_tup, i_lst, non_non, non_int, non_tup, non_bl, t_non, t_bl, t_int, t_tup, t_lst, ixD_tup, ixD_lst, slD_tup, slD_lst, f_lenT, f_lenL, f_tupT, f_tupL, f_lstT, f_lstL, f_int, f_abs, f_max, f_min, f_all, f_any, f_sum, f_sorted, y_int, y_bl, y_non, y_str, y_tup, y_lst, y_obj, k_ii, k_ib, k_it, k_il, k_is, k_tt, k_tl, k_ti, k_tb, k_ll, k_lt, k_bi, k_bb, k_bt, k_bl, k_nt, k_ss, k_st, k_cc, ks_nil, ks_cons, as_int, pg_cells, pg_at, pg_digits, pg_count, pg_fold, ps_at, ps_digits, ps_count, ps_fold, q_tup, q_lst, z_tt, z_ll, ea_obj, er_bl, if_true, if_false, Bool.false_eq_true, Nat.reduceAdd, Nat.reduceSub, Bool.not_true, Bool.not_false, decide_true, decide_false, ir__law_draw, dropSs, c1, c2, hx, List.length_map, cp18, e18, c3, m1, n1, ne_eq, not_false_eq_true]
      · refine ⟨{ cells := st.cells, at_ := st.at_, digits := 0, count := st.count + 1, fold := st.fold }, .u, ha, fun r => ?_⟩
        rw [evSs_cons]
        simp -implicitDefEqProofs only [evFn, evSs, evS, evE, evT, evEs, evAnd, evOr, evAndT, evOrT, evO, evI, evOwn, R.bind_ok, R.of_some, se_d, se_u, se_o, sb_d, sb_u, sb_o, see, seeB, List.map_cons, List.map_nil, List.cons_append, List.nil_append, List.length_cons, List.length_nil, List.replicate_succ, List.replicate_zero, List.getElem?_cons_zero, List.getElem?_cons_succ, List.set_cons_zero, List.set_cons_succ, Option.join_some, Option.map_some, Option.map_none, Option.bind_some, setSl, tgSl, b_add, b_sub, b_mul, b_fdiv, b_mod, b_pow, b_addT, b_addL, b_mulT, b_mulL, deq_ii, deq_bb, c_eq, c_ne, c_lt, c_le, c_gt, c_ge, c_isN, c_isnN, c_isB, c_isnB, i_bl, i_non, i_int, i_str, i_tup, i_lst, non_non, non_int, non_tup, non_bl, t_non, t_bl, t_int, t_tup, t_lst, ixD_tup, ixD_lst, slD_tup, slD_lst, f_lenT, f_lenL, f_tupT, f_tupL, f_lstT, f_lstL, f_int, f_abs, f_max, f_min, f_all, f_any, f_sum, f_sorted, y_int, y_bl, y_non, y_str, y_tup, y_lst, y_obj, k_ii, k_ib, k_it, k_il, k_is, k_tt, k_tl, k_ti, k_tb, k_ll, k_lt, k_bi, k_bb, k_bt, k_bl, k_nt, k_ss, k_st, k_cc, ks_nil, ks_cons, as_int, pg_cells, pg_at, pg_digits, pg_count, pg_fold, ps_at, ps_digits, ps_count, ps_fold, q_tup, q_lst, z_tt, z_ll, ea_obj, er_bl, if_true, if_false, Bool.false_eq_true, Nat.reduceAdd, Nat.reduceSub, Bool.not_true, Bool.not_false, decide_true, decide_false, ir__law_draw, dropSs, c1, c2, List.length_map]
    · refine ⟨{ cells := st.cells, at_ := st.at_, digits := st.digits, count := st.count + 1, fold := st.fold }, .u, ha, fun r => ?_⟩
      rw [evSs_cons]
      simp -implicitDefEqProofs only [evFn, evSs, evS, evE, evT, evEs, evAnd, evOr, evAndT, evOrT, evO, evI, evOwn, R.bind_ok, R.of_some, se_d, se_u, se_o, sb_d, sb_u, sb_o, see, seeB, List.map_cons, List.map_nil, List.cons_append, List.nil_append, List.length_cons, List.length_nil, List.replicate_succ, List.replicate_zero, List.getElem?_cons_zero, List.getElem?_cons_succ, List.set_cons_zero, List.set_cons_succ, Option.join_some, Option.map_some, Option.map_none, Option.bind_some, setSl, tgSl, b_add, b_sub, b_mul, b_fdiv, b_mod, b_pow, b_addT, b_addL, b_mulT, b_mulL, deq_ii, deq_bb, c_eq, c_ne, c_lt, c_le, c_gt, c_ge, c_isN, c_isnN, c_isB, c_isnB, i_bl, i_non, i_int, i_str, i_tup, i_lst, non_non, non_int, non_tup, non_bl, t_non, t_bl, t_int, t_tup, t_lst, ixD_tup, ixD_lst, slD_tup, slD_lst, f_lenT, f_lenL, f_tupT, f_tupL, f_lstT, f_lstL, f_int, f_abs, f_max, f_min, f_all, f_any, f_sum, f_sorted, y_int, y_bl, y_non, y_str, y_tup, y_lst, y_obj, k_ii, k_ib, k_it, k_il, k_is, k_tt, k_tl, k_ti, k_tb, k_ll, k_lt, k_bi, k_bb, k_bt, k_bl, k_nt, k_ss, k_st, k_cc, ks_nil, ks_cons, as_int, pg_cells, pg_at, pg_digits, pg_count, pg_fold, ps_at, ps_digits, ps_count, ps_fold, q_tup, q_lst, z_tt, z_ll, ea_obj, er_bl, if_true, if_false, Bool.false_eq_true, Nat.reduceAdd, Nat.reduceSub, Bool.not_true, Bool.not_false, decide_true, decide_false, ir__law_draw, dropSs, c1]
  obtain ⟨s', z, ha', k⟩ := key
  obtain ⟨v, s2, ρ', e2, e3, e4⟩ := draw_tail s' h1 h2 z
  refine ⟨v, some s2, ?_, ⟨s2, rfl, by omega⟩, e4⟩
  have k2 := k (dropSs 2 ir__law_draw)
  rw [e2] at k2
  unfold d__law_draw evFn
  show R.bind (evSs S__law_draw ir__law_draw [.d .pen, .d (.int many), .u, .u, .u] (some st)) _ = _
  rw [show ir__law_draw = (.cons (match ir__law_draw with | .cons a _ => a | _ => .pas) (.cons (match dropSs 1 ir__law_draw with | .cons a _ => a | _ => .pas) (dropSs 2 ir__law_draw))) from rfl, k2]
  rfl
end Lk07

set_option Elab.async false
set_option linter.all false
set_option maxRecDepth 100000
set_option maxHeartbeats 1000000
namespace Lk07
open PySem PySem.Spec PyProof.Rows L2 Mi RowP
def tI (xs : W) : D := .tup (xs.map D.int)
abbrev Rw := W × W
def pr (x : Rw) : D := .tup [tI x.1, tI x.2]
def ob (x : Rw) : D := .obj 0 [tI x.1, tI x.2]
section
variable {p : PenS}
theorem is_integer_i (v : Int) : d_is_integer [.int v] p = .ok (.bl true) p := by
  unfold d_is_integer; simp -implicitDefEqProofs only [evFn, evSs, evS, evE, evT, evEs, evAnd, evOr, evAndT, evOrT, evO, evI, evOwn, R.bind_ok, R.of_some, se_d, se_u, se_o, sb_d, sb_u, sb_o, see, seeB, List.map_cons, List.map_nil, List.cons_append, List.nil_append, List.length_cons, List.length_nil, List.replicate_succ, List.replicate_zero, List.getElem?_cons_zero, List.getElem?_cons_succ, List.set_cons_zero, List.set_cons_succ, Option.join_some, Option.map_some, Option.map_none, Option.bind_some, setSl, tgSl, b_add, b_sub, b_mul, b_fdiv, b_mod, b_pow, b_addT, b_addL, b_mulT, b_mulL, deq_ii, deq_bb, c_eq, c_ne, c_lt, c_le, c_gt, c_ge, c_isN, c_isnN, c_isB, c_isnB, i_bl, i_non, i_int, i_str, i_tup, i_lst, non_non, non_int, non_tup, non_bl, t_non, t_bl, t_int, t_tup, t_lst, ixD_tup, ixD_lst, slD_tup, slD_lst, f_lenT, f_lenL, f_tupT, f_tupL, f_lstT, f_lstL, f_int, f_abs, f_max, f_min, f_all, f_any, f_sum, f_sorted, y_int, y_bl, y_non, y_str, y_tup, y_lst, y_obj, k_ii, k_ib, k_it, k_il, k_is, k_tt, k_tl, k_ti, k_tb, k_ll, k_lt, k_bi, k_bb, k_bt, k_bl, k_nt, k_ss, k_st, k_cc, ks_nil, ks_cons, as_int, pg_cells, pg_at, pg_digits, pg_count, pg_fold, ps_at, ps_digits, ps_count, ps_fold, q_tup, q_lst, z_tt, z_ll, ea_obj, er_bl, if_true, if_false, Bool.false_eq_true, Nat.reduceAdd, Nat.reduceSub, Bool.not_true, Bool.not_false, decide_true, decide_false, ir_is_integer]
theorem is_between_i (v lo hi : Int) : d_is_between [.int v, .int lo, .int hi] p = .ok (.bl (decide (lo ≤ v ∧ v ≤ hi))) p := by
  unfold d_is_between
  by_cases h1 : lo ≤ v <;> by_cases h2 : v ≤ hi <;> simp -implicitDefEqProofs only [evFn, evSs, evS, evE, evT, evEs, evAnd, evOr, evAndT, evOrT, evO, evI, evOwn, R.bind_ok, R.of_some, se_d, se_u, se_o, sb_d, sb_u, sb_o, see, seeB, List.map_cons, List.map_nil, List.cons_append, List.nil_append, List.length_cons, List.length_nil, List.replicate_succ, List.replicate_zero, List.getElem?_cons_zero, List.getElem?_cons_succ, List.set_cons_zero, List.set_cons_succ, Option.join_some, Option.map_some, Option.map_none, Option.bind_some, setSl, tgSl, b_add, b_sub, b_mul, b_fdiv, b_mod, b_pow, b_addT, b_addL, b_mulT, b_mulL, deq_ii, deq_bb, c_eq, c_ne, c_lt, c_le, c_gt, c_ge, c_isN, c_isnN, c_isB, c_isnB, i_bl, i_non, i_int, i_str, i_tup, i_lst, non_non, non_int, non_tup, non_bl, t_non, t_bl, t_int, t_tup, t_lst, ixD_tup, ixD_lst, slD_tup, slD_lst, f_lenT, f_lenL, f_tupT, f_tupL, f_lstT, f_lstL, f_int, f_abs, f_max, f_min, f_all, f_any, f_sum, f_sorted, y_int, y_bl, y_non, y_str, y_tup, y_lst, y_obj, k_ii, k_ib, k_it, k_il, k_is, k_tt, k_tl, k_ti, k_tb, k_ll, k_lt, k_bi, k_bb, k_bt, k_bl, k_nt, k_ss, k_st, k_cc, ks_nil, ks_cons, as_int, pg_cells, pg_at, pg_digits, pg_count, pg_fold, ps_at, ps_digits, ps_count, ps_fold, q_tup, q_lst, z_tt, z_ll, ea_obj, er_bl, if_true, if_false, Bool.false_eq_true, Nat.reduceAdd, Nat.reduceSub, Bool.not_true, Bool.not_false, decide_true, decide_false, ir_is_between, s_is_between, is_integer_i, h1, h2, true_and, false_and, and_self, and_true, and_false]
theorem need_figure_i {m : Int} (h : 1 ≤ m ∧ m ≤ 20) : d_need_figure [.int m] p = .ok .non p := by
  unfold d_need_figure; simp -implicitDefEqProofs only [evFn, evSs, evS, evE, evT, evEs, evAnd, evOr, evAndT, evOrT, evO, evI, evOwn, R.bind_ok, R.of_some, se_d, se_u, se_o, sb_d, sb_u, sb_o, see, seeB, List.map_cons, List.map_nil, List.cons_append, List.nil_append, List.length_cons, List.length_nil, List.replicate_succ, List.replicate_zero, List.getElem?_cons_zero, List.getElem?_cons_succ, List.set_cons_zero, List.set_cons_succ, Option.join_some, Option.map_some, Option.map_none, Option.bind_some, setSl, tgSl, b_add, b_sub, b_mul, b_fdiv, b_mod, b_pow, b_addT, b_addL, b_mulT, b_mulL, deq_ii, deq_bb, c_eq, c_ne, c_lt, c_le, c_gt, c_ge, c_isN, c_isnN, c_isB, c_isnB, i_bl, i_non, i_int, i_str, i_tup, i_lst, non_non, non_int, non_tup, non_bl, t_non, t_bl, t_int, t_tup, t_lst, ixD_tup, ixD_lst, slD_tup, slD_lst, f_lenT, f_lenL, f_tupT, f_tupL, f_lstT, f_lstL, f_int, f_abs, f_max, f_min, f_all, f_any, f_sum, f_sorted, y_int, y_bl, y_non, y_str, y_tup, y_lst, y_obj, k_ii, k_ib, k_it, k_il, k_is, k_tt, k_tl, k_ti, k_tb, k_ll, k_lt, k_bi, k_bb, k_bt, k_bl, k_nt, k_ss, k_st, k_cc, ks_nil, ks_cons, as_int, pg_cells, pg_at, pg_digits, pg_count, pg_fold, ps_at, ps_digits, ps_count, ps_fold, q_tup, q_lst, z_tt, z_ll, ea_obj, er_bl, if_true, if_false, Bool.false_eq_true, Nat.reduceAdd, Nat.reduceSub, Bool.not_true, Bool.not_false, decide_true, decide_false, ir_need_figure, s_need_figure, is_between_i, h, and_self]
theorem need_index_i {a : Int} (h : 0 ≤ a) : d_need_index [.int a] p = .ok .non p := by
  have h2 : ¬ a < 0 := by omega
  unfold d_need_index; simp -implicitDefEqProofs only [evFn, evSs, evS, evE, evT, evEs, evAnd, evOr, evAndT, evOrT, evO, evI, evOwn, R.bind_ok, R.of_some, se_d, se_u, se_o, sb_d, sb_u, sb_o, see, seeB, List.map_cons, List.map_nil, List.cons_append, List.nil_append, List.length_cons, List.length_nil, List.replicate_succ, List.replicate_zero, List.getElem?_cons_zero, List.getElem?_cons_succ, List.set_cons_zero, List.set_cons_succ, Option.join_some, Option.map_some, Option.map_none, Option.bind_some, setSl, tgSl, b_add, b_sub, b_mul, b_fdiv, b_mod, b_pow, b_addT, b_addL, b_mulT, b_mulL, deq_ii, deq_bb, c_eq, c_ne, c_lt, c_le, c_gt, c_ge, c_isN, c_isnN, c_isB, c_isnB, i_bl, i_non, i_int, i_str, i_tup, i_lst, non_non, non_int, non_tup, non_bl, t_non, t_bl, t_int, t_tup, t_lst, ixD_tup, ixD_lst, slD_tup, slD_lst, f_lenT, f_lenL, f_tupT, f_tupL, f_lstT, f_lstL, f_int, f_abs, f_max, f_min, f_all, f_any, f_sum, f_sorted, y_int, y_bl, y_non, y_str, y_tup, y_lst, y_obj, k_ii, k_ib, k_it, k_il, k_is, k_tt, k_tl, k_ti, k_tb, k_ll, k_lt, k_bi, k_bb, k_bt, k_bl, k_nt, k_ss, k_st, k_cc, ks_nil, ks_cons, as_int, pg_cells, pg_at, pg_digits, pg_count, pg_fold, ps_at, ps_digits, ps_count, ps_fold, q_tup, q_lst, z_tt, z_ll, ea_obj, er_bl, if_true, if_false, Bool.false_eq_true, Nat.reduceAdd, Nat.reduceSub, Bool.not_true, Bool.not_false, decide_true, decide_false, ir_need_index, s_need_index, is_integer_i, h2]
/-- a comprehension that leaves the pen -/
theorem comp_pure {f : D → PenS → R (Option D)} {g : D → Option D} : ∀ {ds : List D}, (∀ d ∈ ds, f d p = .ok (g d) p) → compLoop (fun d p => (f d p).calm) ds p = .ok (ds.filterMap g) p
  | [], _ => rfl
  | d :: ds, h => by
    simp only [compLoop, h d (by simp), calm_ok', R.bind_ok, comp_pure (ds := ds) fun e he => h e (by simp [he])]
    cases q : g d <;> simp [q]
theorem compF {β : Type} {f : D → PenS → R (Option D)} {g : D → Option D} {ds : List D} (h : ∀ d ∈ ds, f d p = .ok (g d) p) (k : List D → PenS → R β) : (compLoop (fun d p => (f d p).calm) ds p).bind k = k (ds.filterMap g) p := by rw [comp_pure h]; rfl
theorem all_bl (xs : W) (f : Int → Bool) : bolsOf ((xs.map D.int).filterMap fun d => match d with | .int v => some (.bl (f v)) | _ => none) = some (xs.map f) := by
  induction xs with
  | nil => rfl
  | cons x xs ih => simp only [List.map_cons, List.filterMap_cons, bolsOf, ih]; rfl
theorem len_line {n : Nat} (h : n ≤ 1000) : n ≤ sizeLine := Nat.le_trans h (by rw [sizeLine_eq]; decide)
theorem are_figures_i {xs : W} {m : Int} (hl : xs.length ≤ 1000) : d_are_figures [tI xs, .int m] p = .ok (.bl (xs.all fun v => decide (0 ≤ v ∧ v ≤ m))) p := by
  unfold d_are_figures tI
  have hl' : (xs.map D.int).length ≤ sizeLine := by rw [List.length_map]; exact len_line hl
  simp -implicitDefEqProofs only [evFn, evSs, evS, evE, evT, evEs, evAnd, evOr, evAndT, evOrT, evO, evI, evOwn, R.bind_ok, R.of_some, se_d, se_u, se_o, sb_d, sb_u, sb_o, see, seeB, List.map_cons, List.map_nil, List.cons_append, List.nil_append, List.length_cons, List.length_nil, List.replicate_succ, List.replicate_zero, List.getElem?_cons_zero, List.getElem?_cons_succ, List.set_cons_zero, List.set_cons_succ, Option.join_some, Option.map_some, Option.map_none, Option.bind_some, setSl, tgSl, b_add, b_sub, b_mul, b_fdiv, b_mod, b_pow, b_addT, b_addL, b_mulT, b_mulL, deq_ii, deq_bb, c_eq, c_ne, c_lt, c_le, c_gt, c_ge, c_isN, c_isnN, c_isB, c_isnB, i_bl, i_non, i_int, i_str, i_tup, i_lst, non_non, non_int, non_tup, non_bl, t_non, t_bl, t_int, t_tup, t_lst, ixD_tup, ixD_lst, slD_tup, slD_lst, f_lenT, f_lenL, f_tupT, f_tupL, f_lstT, f_lstL, f_int, f_abs, f_max, f_min, f_all, f_any, f_sum, f_sorted, y_int, y_bl, y_non, y_str, y_tup, y_lst, y_obj, k_ii, k_ib, k_it, k_il, k_is, k_tt, k_tl, k_ti, k_tb, k_ll, k_lt, k_bi, k_bb, k_bt, k_bl, k_nt, k_ss, k_st, k_cc, ks_nil, ks_cons, as_int, pg_cells, pg_at, pg_digits, pg_count, pg_fold, ps_at, ps_digits, ps_count, ps_fold, q_tup, q_lst, z_tt, z_ll, ea_obj, er_bl, if_true, if_false, Bool.false_eq_true, Nat.reduceAdd, Nat.reduceSub, Bool.not_true, Bool.not_false, decide_true, decide_false, ir_are_figures, s_are_figures, hl', wipeD, asgTg]
  rw [compF (g := fun d => match d with | .int v => some (.bl (decide (0 ≤ v ∧ v ≤ m))) | _ => none)]
  · simp -implicitDefEqProofs only [evFn, evSs, evS, evE, evT, evEs, evAnd, evOr, evAndT, evOrT, evO, evI, evOwn, R.bind_ok, R.of_some, se_d, se_u, se_o, sb_d, sb_u, sb_o, see, seeB, List.map_cons, List.map_nil, List.cons_append, List.nil_append, List.length_cons, List.length_nil, List.replicate_succ, List.replicate_zero, List.getElem?_cons_zero, List.getElem?_cons_succ, List.set_cons_zero, List.set_cons_succ, Option.join_some, Option.map_some, Option.map_none, Option.bind_some, setSl, tgSl, b_add, b_sub, b_mul, b_fdiv, b_mod, b_pow, b_addT, b_addL, b_mulT, b_mulL, deq_ii, deq_bb, c_eq, c_ne, c_lt, c_le, c_gt, c_ge, c_isN, c_isnN, c_isB, c_isnB, i_bl, i_non, i_int, i_str, i_tup, i_lst, non_non, non_int, non_tup, non_bl, t_non, t_bl, t_int, t_tup, t_lst, ixD_tup, ixD_lst, slD_tup, slD_lst, f_lenT, f_lenL, f_tupT, f_tupL, f_lstT, f_lstL, f_int, f_abs, f_max, f_min, f_all, f_any, f_sum, f_sorted, y_int, y_bl, y_non, y_str, y_tup, y_lst, y_obj, k_ii, k_ib, k_it, k_il, k_is, k_tt, k_tl, k_ti, k_tb, k_ll, k_lt, k_bi, k_bb, k_bt, k_bl, k_nt, k_ss, k_st, k_cc, ks_nil, ks_cons, as_int, pg_cells, pg_at, pg_digits, pg_count, pg_fold, ps_at, ps_digits, ps_count, ps_fold, q_tup, q_lst, z_tt, z_ll, ea_obj, er_bl, if_true, if_false, Bool.false_eq_true, Nat.reduceAdd, Nat.reduceSub, Bool.not_true, Bool.not_false, decide_true, decide_false, all_bl, List.all_map, Function.comp_def, id_eq]
  · intro d hd
    obtain ⟨v, _, rfl⟩ := List.mem_map.mp hd
    simp -implicitDefEqProofs only [evFn, evSs, evS, evE, evT, evEs, evAnd, evOr, evAndT, evOrT, evO, evI, evOwn, R.bind_ok, R.of_some, se_d, se_u, se_o, sb_d, sb_u, sb_o, see, seeB, List.map_cons, List.map_nil, List.cons_append, List.nil_append, List.length_cons, List.length_nil, List.replicate_succ, List.replicate_zero, List.getElem?_cons_zero, List.getElem?_cons_succ, List.set_cons_zero, List.set_cons_succ, Option.join_some, Option.map_some, Option.map_none, Option.bind_some, setSl, tgSl, b_add, b_sub, b_mul, b_fdiv, b_mod, b_pow, b_addT, b_addL, b_mulT, b_mulL, deq_ii, deq_bb, c_eq, c_ne, c_lt, c_le, c_gt, c_ge, c_isN, c_isnN, c_isB, c_isnB, i_bl, i_non, i_int, i_str, i_tup, i_lst, non_non, non_int, non_tup, non_bl, t_non, t_bl, t_int, t_tup, t_lst, ixD_tup, ixD_lst, slD_tup, slD_lst, f_lenT, f_lenL, f_tupT, f_tupL, f_lstT, f_lstL, f_int, f_abs, f_max, f_min, f_all, f_any, f_sum, f_sorted, y_int, y_bl, y_non, y_str, y_tup, y_lst, y_obj, k_ii, k_ib, k_it, k_il, k_is, k_tt, k_tl, k_ti, k_tb, k_ll, k_lt, k_bi, k_bb, k_bt, k_bl, k_nt, k_ss, k_st, k_cc, ks_nil, ks_cons, as_int, pg_cells, pg_at, pg_digits, pg_count, pg_fold, ps_at, ps_digits, ps_count, ps_fold, q_tup, q_lst, z_tt, z_ll, ea_obj, er_bl, if_true, if_false, Bool.false_eq_true, Nat.reduceAdd, Nat.reduceSub, Bool.not_true, Bool.not_false, decide_true, decide_false, is_between_i]
end
end Lk07

set_option Elab.async false
set_option linter.all false
set_option maxRecDepth 100000
set_option maxHeartbeats 1000000
namespace Lk07
open PySem PySem.Spec PyProof.Rows L2 Mi RowP
/-! ### equality of tuples of ints -/
theorem py_ints (xs : W) : pyAll (xs.map D.int) = xs.map PyData.int := by
  induction xs with
  | nil => rfl
  | cons x xs ih => simp only [List.map_cons, pyAll, ih]; rfl
theorem lay_ints (xs : W) : PyData.canLayAll0 (xs.map PyData.int) = true := by
  induction xs with
  | nil => rfl
  | cons x xs ih => simp only [List.map_cons, PyData.canLayAll0, ih]; rfl
theorem depth_ints (xs : W) : PyData.depthAll (xs.map PyData.int) = 0 := by
  induction xs with
  | nil => rfl
  | cons x xs ih => simp only [List.map_cons, PyData.depthAll, ih]; rfl
theorem eqv_ints : ∀ (xs ys : W), PyData.eqvAll (xs.map PyData.int) (ys.map PyData.int) = decide (xs = ys)
  | [], [] => rfl
  | [], _ :: _ => rfl
  | _ :: _, [] => rfl
  | x :: xs, y :: ys => by
    simp only [List.map_cons, PyData.eqvAll, PyData.eqv, eqv_ints xs ys, List.cons.injEq, Bool.decide_and]
    congr 1
theorem sh_tI (xs : W) : SeqAt.shaped (tI xs).py = true := by
  unfold tI SeqAt.shaped
  simp only [D.py, py_ints, PyData.canLay0, lay_ints, PyData.depth, depth_ints]
  decide
theorem deq_tI (xs ys : W) : deq (tI xs) (tI ys) = some (decide (xs = ys)) := by
  unfold deq
  rw [if_pos (by rw [sh_tI, sh_tI]; rfl)]
  unfold tI
  simp only [D.py, py_ints, PyData.eqv, eqv_ints]
theorem sh_pr (x : Rw) : SeqAt.shaped (pr x).py = true := by
  unfold pr tI SeqAt.shaped
  simp only [D.py, pyAll, py_ints, PyData.canLay0, PyData.canLayAll0, lay_ints, PyData.depth, PyData.depthAll, depth_ints]
  decide
theorem deq_pr (x y : Rw) : deq (pr x) (pr y) = some (decide (x = y)) := by
  unfold deq
  rw [if_pos (by rw [sh_pr, sh_pr]; rfl)]
  unfold pr tI
  simp only [D.py, pyAll, py_ints, PyData.eqv, PyData.eqvAll, eqv_ints, Bool.and_true]
  obtain ⟨a, b⟩ := x
  obtain ⟨c, d⟩ := y
  simp only [Prod.mk.injEq, Bool.decide_and]
theorem nil_tI : D.tup [] = tI [] := rfl
/-! ### cuts -/
theorem cut_take (xs : W) {k : Int} (h : 0 ≤ k) : D.tup (Mi.cutD (xs.map D.int) none (some k)) = tI (xs.take k.toNat) := by
  unfold Mi.cutD tI
  rw [HT.sIx_none, show HT.sIx (xs.map D.int).length (xs.map D.int).length (some k) = min k.toNat xs.length by
    have := HT.sIx_nat (xs.map D.int).length (xs.map D.int).length k.toNat
    rw [Int.toNat_of_nonneg h] at this
    rw [this, List.length_map]]
  rw [List.drop_zero, Nat.sub_zero, ← List.map_take]
  congr 2
  rw [List.take_eq_take_iff]; omega
theorem cut_drop (xs : W) {k : Int} (h : 0 ≤ k) : D.tup (Mi.cutD (xs.map D.int) (some k) none) = tI (xs.drop k.toNat) := by
  unfold Mi.cutD tI
  rw [HT.sIx_none, show HT.sIx (xs.map D.int).length 0 (some k) = min k.toNat xs.length by
    have := HT.sIx_nat (xs.map D.int).length 0 k.toNat
    rw [Int.toNat_of_nonneg h] at this
    rw [this, List.length_map]]
  rw [← List.map_drop, List.length_map, ← List.map_take]
  congr 2
  rw [List.take_of_length_le (by rw [List.length_drop]; omega)]
  by_cases hk : k.toNat ≤ xs.length
  · rw [Nat.min_eq_left hk]
  · rw [Nat.min_eq_right (by omega), List.drop_of_length_le (Nat.le_refl _), List.drop_of_length_le (by omega)]
theorem cut_init (xs : W) (h : xs ≠ []) : D.tup (Mi.cutD (xs.map D.int) none (some (-1))) = tI xs.dropLast := by
  have hp : 0 < xs.length := List.length_pos_iff.mpr h
  unfold Mi.cutD tI
  rw [HT.sIx_none, show HT.sIx (xs.map D.int).length (xs.map D.int).length (some (-1)) = xs.length - 1 by
    simp only [HT.sIx, List.length_map]; rw [if_pos (by decide)]; omega]
  rw [List.drop_zero, Nat.sub_zero, ← List.map_take, List.dropLast_eq_take]
theorem cut_last (xs : W) (h : xs ≠ []) : D.tup (Mi.cutD (xs.map D.int) (some (-1)) none) = tI [xs.getLastD 0] := by
  have hp : 0 < xs.length := List.length_pos_iff.mpr h
  unfold Mi.cutD tI
  rw [HT.sIx_none, show HT.sIx (xs.map D.int).length 0 (some (-1)) = xs.length - 1 by
    simp only [HT.sIx, List.length_map]; rw [if_pos (by decide)]; omega]
  rw [← List.map_drop, List.length_map, ← List.map_take]
  congr 2
  rw [List.take_of_length_le (by rw [List.length_drop]; omega), List.drop_eq_getElem_cons (by omega), List.drop_of_length_le (by omega)]
  congr 1
  rw [List.getLastD_eq_getLast?, List.getLast?_eq_getElem?, List.getElem?_eq_getElem (by omega)]
  rfl
theorem at_last (xs : W) (h : xs ≠ []) : atI (xs.map D.int) (-1) = some (.int (xs.getLastD 0)) := by
  have hp : 0 < xs.length := List.length_pos_iff.mpr h
  rw [atI_neg (by decide) (by rw [List.length_map]; omega), List.length_map, List.getElem?_map, show ((-1 : Int) + (xs.length : Int)).toNat = xs.length - 1 by omega]
  rw [List.getLastD_eq_getLast?, List.getLast?_eq_getElem?]
  cases q : xs[xs.length - 1]? with
  | none => rw [List.getElem?_eq_none_iff] at q; omega
  | some v => rfl
theorem at_get (xs : W) {i : Int} (h0 : 0 ≤ i) (h : i < xs.length) : atI (xs.map D.int) i = some (.int (xs.getD i.toNat 0)) := by
  rw [atI_nn h0 (by rw [List.length_map]; exact h), List.getElem?_map, List.getElem?_eq_getElem (by omega), gD _ (by omega)]
  rfl
/-! ### rows -/
theorem sz0 : 0 ≤ sizeLine := Nat.zero_le _
theorem sz1 : 1 ≤ sizeLine := by rw [sizeLine_eq]; decide
theorem sz2 : 2 ≤ sizeLine := by rw [sizeLine_eq]; decide
theorem sz3 : 3 ≤ sizeLine := by rw [sizeLine_eq]; decide
def Good (m : Int) (x : Rw) : Prop := x.2 ≠ [] ∧ (∀ v ∈ x.1, 0 ≤ v ∧ v ≤ m) ∧ (∀ v ∈ x.2, 0 ≤ v ∧ v ≤ m) ∧ x.1.length + x.2.length ≤ 400
theorem lk_a {a b : D} : ((["ahead", "ring"] : List Str).zip [a, b]).lookup ("ahead" : Str) = some a := rfl
theorem lk_r {a b : D} : ((["ahead", "ring"] : List Str).zip [a, b]).lookup ("ring" : Str) = some b := rfl
section
variable {p : PenS}
theorem ring_ne {r : W} : (deq (tI r) (D.tup [])).map (fun x => !x) = some (decide (r ≠ [])) := by
  rw [nil_tI, deq_tI]
  by_cases h : r = [] <;> simp [h]
theorem is_row_i {x : Rw} {m : Int} (h : Good m x) : d_is_row [ob x, .int m] p = .ok (.bl true) p := by
  obtain ⟨h1, h2, h3, h4⟩ := h
  have f1 : (x.1.all fun v => decide (0 ≤ v ∧ v ≤ m)) = true := List.all_eq_true.mpr fun v hv => decide_eq_true (h2 v hv)
  have f2 : (x.2.all fun v => decide (0 ≤ v ∧ v ≤ m)) = true := List.all_eq_true.mpr fun v hv => decide_eq_true (h3 v hv)
  have l4 : ((x.1.length : Int) + (x.2.length : Int) ≤ 400) := by omega
  have l1 : x.1.length ≤ 1000 := by omega
  have l2 : x.2.length ≤ 1000 := by omega
  have e1 : ∀ p, d_are_figures [tI x.1, .int m] p = .ok (.bl true) p := fun p => by rw [are_figures_i l1, f1]
  have e2 : ∀ p, d_are_figures [tI x.2, .int m] p = .ok (.bl true) p := fun p => by rw [are_figures_i l2, f2]
  have g1 : bfn .len [tI x.1] = some (.int x.1.length) := by unfold tI; rw [f_lenT, List.length_map]
  have g2 : bfn .len [tI x.2] = some (.int x.2.length) := by unfold tI; rw [f_lenT, List.length_map]
  unfold d_is_row ob
  simp -implicitDefEqProofs only [evFn, evSs, evS, evE, evT, evEs, evAnd, evOr, evAndT, evOrT, evO, evI, evOwn, R.bind_ok, R.of_some, se_d, se_u, se_o, sb_d, sb_u, sb_o, see, seeB, List.map_cons, List.map_nil, List.cons_append, List.nil_append, List.length_cons, List.length_nil, List.replicate_succ, List.replicate_zero, List.getElem?_cons_zero, List.getElem?_cons_succ, List.set_cons_zero, List.set_cons_succ, Option.join_some, Option.map_some, Option.map_none, Option.bind_some, setSl, tgSl, b_add, b_sub, b_mul, b_fdiv, b_mod, b_pow, b_addT, b_addL, b_mulT, b_mulL, deq_ii, deq_bb, c_eq, c_ne, c_lt, c_le, c_gt, c_ge, c_isN, c_isnN, c_isB, c_isnB, i_bl, i_non, i_int, i_str, i_tup, i_lst, non_non, non_int, non_tup, non_bl, t_non, t_bl, t_int, t_tup, t_lst, ixD_tup, ixD_lst, slD_tup, slD_lst, f_lenT, f_lenL, f_tupT, f_tupL, f_lstT, f_lstL, f_int, f_abs, f_max, f_min, f_all, f_any, f_sum, f_sorted, y_int, y_bl, y_non, y_str, y_tup, y_lst, y_obj, k_ii, k_ib, k_it, k_il, k_is, k_tt, k_tl, k_ti, k_tb, k_ll, k_lt, k_bi, k_bb, k_bt, k_bl, k_nt, k_ss, k_st, k_cc, ks_nil, ks_cons, as_int, pg_cells, pg_at, pg_digits, pg_count, pg_fold, ps_at, ps_digits, ps_count, ps_fold, q_tup, q_lst, z_tt, z_ll, ea_obj, er_bl, if_true, if_false, Bool.false_eq_true, Nat.reduceAdd, Nat.reduceSub, Bool.not_true, Bool.not_false, decide_true, decide_false, ir_is_row, s_is_row, lk_a, lk_r, e1, e2, ring_ne, h1, g1, g2, l4, ne_eq, not_false_eq_true, sz0]
theorem need_row_i {x : Rw} {m : Int} (h : Good m x) (s : D) : d_need_row [ob x, .int m, s] p = .ok (pr x) p := by
  unfold d_need_row
  simp -implicitDefEqProofs only [evFn, evSs, evS, evE, evT, evEs, evAnd, evOr, evAndT, evOrT, evO, evI, evOwn, R.bind_ok, R.of_some, se_d, se_u, se_o, sb_d, sb_u, sb_o, see, seeB, List.map_cons, List.map_nil, List.cons_append, List.nil_append, List.length_cons, List.length_nil, List.replicate_succ, List.replicate_zero, List.getElem?_cons_zero, List.getElem?_cons_succ, List.set_cons_zero, List.set_cons_succ, Option.join_some, Option.map_some, Option.map_none, Option.bind_some, setSl, tgSl, b_add, b_sub, b_mul, b_fdiv, b_mod, b_pow, b_addT, b_addL, b_mulT, b_mulL, deq_ii, deq_bb, c_eq, c_ne, c_lt, c_le, c_gt, c_ge, c_isN, c_isnN, c_isB, c_isnB, i_bl, i_non, i_int, i_str, i_tup, i_lst, non_non, non_int, non_tup, non_bl, t_non, t_bl, t_int, t_tup, t_lst, ixD_tup, ixD_lst, slD_tup, slD_lst, f_lenT, f_lenL, f_tupT, f_tupL, f_lstT, f_lstL, f_int, f_abs, f_max, f_min, f_all, f_any, f_sum, f_sorted, y_int, y_bl, y_non, y_str, y_tup, y_lst, y_obj, k_ii, k_ib, k_it, k_il, k_is, k_tt, k_tl, k_ti, k_tb, k_ll, k_lt, k_bi, k_bb, k_bt, k_bl, k_nt, k_ss, k_st, k_cc, ks_nil, ks_cons, as_int, pg_cells, pg_at, pg_digits, pg_count, pg_fold, ps_at, ps_digits, ps_count, ps_fold, q_tup, q_lst, z_tt, z_ll, ea_obj, er_bl, if_true, if_false, Bool.false_eq_true, Nat.reduceAdd, Nat.reduceSub, Bool.not_true, Bool.not_false, decide_true, decide_false, ir_need_row, s_need_row, is_row_i h]
  unfold ob pr
  simp -implicitDefEqProofs only [evFn, evSs, evS, evE, evT, evEs, evAnd, evOr, evAndT, evOrT, evO, evI, evOwn, R.bind_ok, R.of_some, se_d, se_u, se_o, sb_d, sb_u, sb_o, see, seeB, List.map_cons, List.map_nil, List.cons_append, List.nil_append, List.length_cons, List.length_nil, List.replicate_succ, List.replicate_zero, List.getElem?_cons_zero, List.getElem?_cons_succ, List.set_cons_zero, List.set_cons_succ, Option.join_some, Option.map_some, Option.map_none, Option.bind_some, setSl, tgSl, b_add, b_sub, b_mul, b_fdiv, b_mod, b_pow, b_addT, b_addL, b_mulT, b_mulL, deq_ii, deq_bb, c_eq, c_ne, c_lt, c_le, c_gt, c_ge, c_isN, c_isnN, c_isB, c_isnB, i_bl, i_non, i_int, i_str, i_tup, i_lst, non_non, non_int, non_tup, non_bl, t_non, t_bl, t_int, t_tup, t_lst, ixD_tup, ixD_lst, slD_tup, slD_lst, f_lenT, f_lenL, f_tupT, f_tupL, f_lstT, f_lstL, f_int, f_abs, f_max, f_min, f_all, f_any, f_sum, f_sorted, y_int, y_bl, y_non, y_str, y_tup, y_lst, y_obj, k_ii, k_ib, k_it, k_il, k_is, k_tt, k_tl, k_ti, k_tb, k_ll, k_lt, k_bi, k_bb, k_bt, k_bl, k_nt, k_ss, k_st, k_cc, ks_nil, ks_cons, as_int, pg_cells, pg_at, pg_digits, pg_count, pg_fold, ps_at, ps_digits, ps_count, ps_fold, q_tup, q_lst, z_tt, z_ll, ea_obj, er_bl, if_true, if_false, Bool.false_eq_true, Nat.reduceAdd, Nat.reduceSub, Bool.not_true, Bool.not_false, decide_true, decide_false, s_need_row, lk_a, lk_r, sz2]
/-- as_tuples on words -/
theorem as_int_i (v : Int) : d_as_tuples_2 [.int v] p = .ok (.int v) p := by
  unfold d_as_tuples_2; simp -implicitDefEqProofs only [evFn, evSs, evS, evE, evT, evEs, evAnd, evOr, evAndT, evOrT, evO, evI, evOwn, R.bind_ok, R.of_some, se_d, se_u, se_o, sb_d, sb_u, sb_o, see, seeB, List.map_cons, List.map_nil, List.cons_append, List.nil_append, List.length_cons, List.length_nil, List.replicate_succ, List.replicate_zero, List.getElem?_cons_zero, List.getElem?_cons_succ, List.set_cons_zero, List.set_cons_succ, Option.join_some, Option.map_some, Option.map_none, Option.bind_some, setSl, tgSl, b_add, b_sub, b_mul, b_fdiv, b_mod, b_pow, b_addT, b_addL, b_mulT, b_mulL, deq_ii, deq_bb, c_eq, c_ne, c_lt, c_le, c_gt, c_ge, c_isN, c_isnN, c_isB, c_isnB, i_bl, i_non, i_int, i_str, i_tup, i_lst, non_non, non_int, non_tup, non_bl, t_non, t_bl, t_int, t_tup, t_lst, ixD_tup, ixD_lst, slD_tup, slD_lst, f_lenT, f_lenL, f_tupT, f_tupL, f_lstT, f_lstL, f_int, f_abs, f_max, f_min, f_all, f_any, f_sum, f_sorted, y_int, y_bl, y_non, y_str, y_tup, y_lst, y_obj, k_ii, k_ib, k_it, k_il, k_is, k_tt, k_tl, k_ti, k_tb, k_ll, k_lt, k_bi, k_bb, k_bt, k_bl, k_nt, k_ss, k_st, k_cc, ks_nil, ks_cons, as_int, pg_cells, pg_at, pg_digits, pg_count, pg_fold, ps_at, ps_digits, ps_count, ps_fold, q_tup, q_lst, z_tt, z_ll, ea_obj, er_bl, if_true, if_false, Bool.false_eq_true, Nat.reduceAdd, Nat.reduceSub, Bool.not_true, Bool.not_false, decide_true, decide_false, ir_as_tuples_2]
theorem as_tI {xs : W} (h : xs.length ≤ 1000) : d_as_tuples_3 [tI xs] p = .ok (tI xs) p := by
  unfold d_as_tuples_3 tI
  have hl' : (xs.map D.int).length ≤ sizeLine := by rw [List.length_map]; exact len_line h
  simp -implicitDefEqProofs only [evFn, evSs, evS, evE, evT, evEs, evAnd, evOr, evAndT, evOrT, evO, evI, evOwn, R.bind_ok, R.of_some, se_d, se_u, se_o, sb_d, sb_u, sb_o, see, seeB, List.map_cons, List.map_nil, List.cons_append, List.nil_append, List.length_cons, List.length_nil, List.replicate_succ, List.replicate_zero, List.getElem?_cons_zero, List.getElem?_cons_succ, List.set_cons_zero, List.set_cons_succ, Option.join_some, Option.map_some, Option.map_none, Option.bind_some, setSl, tgSl, b_add, b_sub, b_mul, b_fdiv, b_mod, b_pow, b_addT, b_addL, b_mulT, b_mulL, deq_ii, deq_bb, c_eq, c_ne, c_lt, c_le, c_gt, c_ge, c_isN, c_isnN, c_isB, c_isnB, i_bl, i_non, i_int, i_str, i_tup, i_lst, non_non, non_int, non_tup, non_bl, t_non, t_bl, t_int, t_tup, t_lst, ixD_tup, ixD_lst, slD_tup, slD_lst, f_lenT, f_lenL, f_tupT, f_tupL, f_lstT, f_lstL, f_int, f_abs, f_max, f_min, f_all, f_any, f_sum, f_sorted, y_int, y_bl, y_non, y_str, y_tup, y_lst, y_obj, k_ii, k_ib, k_it, k_il, k_is, k_tt, k_tl, k_ti, k_tb, k_ll, k_lt, k_bi, k_bb, k_bt, k_bl, k_nt, k_ss, k_st, k_cc, ks_nil, ks_cons, as_int, pg_cells, pg_at, pg_digits, pg_count, pg_fold, ps_at, ps_digits, ps_count, ps_fold, q_tup, q_lst, z_tt, z_ll, ea_obj, er_bl, if_true, if_false, Bool.false_eq_true, Nat.reduceAdd, Nat.reduceSub, Bool.not_true, Bool.not_false, decide_true, decide_false, ir_as_tuples_3, s_as_tuples_3, hl', wipeD, asgTg]
  rw [compF (g := fun d => some d)]
  · simp -implicitDefEqProofs only [evFn, evSs, evS, evE, evT, evEs, evAnd, evOr, evAndT, evOrT, evO, evI, evOwn, R.bind_ok, R.of_some, se_d, se_u, se_o, sb_d, sb_u, sb_o, see, seeB, List.map_cons, List.map_nil, List.cons_append, List.nil_append, List.length_cons, List.length_nil, List.replicate_succ, List.replicate_zero, List.getElem?_cons_zero, List.getElem?_cons_succ, List.set_cons_zero, List.set_cons_succ, Option.join_some, Option.map_some, Option.map_none, Option.bind_some, setSl, tgSl, b_add, b_sub, b_mul, b_fdiv, b_mod, b_pow, b_addT, b_addL, b_mulT, b_mulL, deq_ii, deq_bb, c_eq, c_ne, c_lt, c_le, c_gt, c_ge, c_isN, c_isnN, c_isB, c_isnB, i_bl, i_non, i_int, i_str, i_tup, i_lst, non_non, non_int, non_tup, non_bl, t_non, t_bl, t_int, t_tup, t_lst, ixD_tup, ixD_lst, slD_tup, slD_lst, f_lenT, f_lenL, f_tupT, f_tupL, f_lstT, f_lstL, f_int, f_abs, f_max, f_min, f_all, f_any, f_sum, f_sorted, y_int, y_bl, y_non, y_str, y_tup, y_lst, y_obj, k_ii, k_ib, k_it, k_il, k_is, k_tt, k_tl, k_ti, k_tb, k_ll, k_lt, k_bi, k_bb, k_bt, k_bl, k_nt, k_ss, k_st, k_cc, ks_nil, ks_cons, as_int, pg_cells, pg_at, pg_digits, pg_count, pg_fold, ps_at, ps_digits, ps_count, ps_fold, q_tup, q_lst, z_tt, z_ll, ea_obj, er_bl, if_true, if_false, Bool.false_eq_true, Nat.reduceAdd, Nat.reduceSub, Bool.not_true, Bool.not_false, decide_true, decide_false, List.filterMap_some]
  · intro d hd
    obtain ⟨v, _, rfl⟩ := List.mem_map.mp hd
    simp -implicitDefEqProofs only [evFn, evSs, evS, evE, evT, evEs, evAnd, evOr, evAndT, evOrT, evO, evI, evOwn, R.bind_ok, R.of_some, se_d, se_u, se_o, sb_d, sb_u, sb_o, see, seeB, List.map_cons, List.map_nil, List.cons_append, List.nil_append, List.length_cons, List.length_nil, List.replicate_succ, List.replicate_zero, List.getElem?_cons_zero, List.getElem?_cons_succ, List.set_cons_zero, List.set_cons_succ, Option.join_some, Option.map_some, Option.map_none, Option.bind_some, setSl, tgSl, b_add, b_sub, b_mul, b_fdiv, b_mod, b_pow, b_addT, b_addL, b_mulT, b_mulL, deq_ii, deq_bb, c_eq, c_ne, c_lt, c_le, c_gt, c_ge, c_isN, c_isnN, c_isB, c_isnB, i_bl, i_non, i_int, i_str, i_tup, i_lst, non_non, non_int, non_tup, non_bl, t_non, t_bl, t_int, t_tup, t_lst, ixD_tup, ixD_lst, slD_tup, slD_lst, f_lenT, f_lenL, f_tupT, f_tupL, f_lstT, f_lstL, f_int, f_abs, f_max, f_min, f_all, f_any, f_sum, f_sorted, y_int, y_bl, y_non, y_str, y_tup, y_lst, y_obj, k_ii, k_ib, k_it, k_il, k_is, k_tt, k_tl, k_ti, k_tb, k_ll, k_lt, k_bi, k_bb, k_bt, k_bl, k_nt, k_ss, k_st, k_cc, ks_nil, ks_cons, as_int, pg_cells, pg_at, pg_digits, pg_count, pg_fold, ps_at, ps_digits, ps_count, ps_fold, q_tup, q_lst, z_tt, z_ll, ea_obj, er_bl, if_true, if_false, Bool.false_eq_true, Nat.reduceAdd, Nat.reduceSub, Bool.not_true, Bool.not_false, decide_true, decide_false, as_int_i]
theorem row_ini {x : Rw} (h1 : x.1.length ≤ 1000) (h2 : x.2.length ≤ 1000) : i_Row [tI x.1, tI x.2] p = .ok [tI x.1, tI x.2] p := by
  unfold i_Row evIni
  simp -implicitDefEqProofs only [evFn, evSs, evS, evE, evT, evEs, evAnd, evOr, evAndT, evOrT, evO, evI, evOwn, R.bind_ok, R.of_some, se_d, se_u, se_o, sb_d, sb_u, sb_o, see, seeB, List.map_cons, List.map_nil, List.cons_append, List.nil_append, List.length_cons, List.length_nil, List.replicate_succ, List.replicate_zero, List.getElem?_cons_zero, List.getElem?_cons_succ, List.set_cons_zero, List.set_cons_succ, Option.join_some, Option.map_some, Option.map_none, Option.bind_some, setSl, tgSl, b_add, b_sub, b_mul, b_fdiv, b_mod, b_pow, b_addT, b_addL, b_mulT, b_mulL, deq_ii, deq_bb, c_eq, c_ne, c_lt, c_le, c_gt, c_ge, c_isN, c_isnN, c_isB, c_isnB, i_bl, i_non, i_int, i_str, i_tup, i_lst, non_non, non_int, non_tup, non_bl, t_non, t_bl, t_int, t_tup, t_lst, ixD_tup, ixD_lst, slD_tup, slD_lst, f_lenT, f_lenL, f_tupT, f_tupL, f_lstT, f_lstL, f_int, f_abs, f_max, f_min, f_all, f_any, f_sum, f_sorted, y_int, y_bl, y_non, y_str, y_tup, y_lst, y_obj, k_ii, k_ib, k_it, k_il, k_is, k_tt, k_tl, k_ti, k_tb, k_ll, k_lt, k_bi, k_bb, k_bt, k_bl, k_nt, k_ss, k_st, k_cc, ks_nil, ks_cons, as_int, pg_cells, pg_at, pg_digits, pg_count, pg_fold, ps_at, ps_digits, ps_count, ps_fold, q_tup, q_lst, z_tt, z_ll, ea_obj, er_bl, if_true, if_false, Bool.false_eq_true, Nat.reduceAdd, Nat.reduceSub, Bool.not_true, Bool.not_false, decide_true, decide_false, ir_init_Row, s_init_Row, as_tI h1, as_tI h2, and_self]
theorem item_by_i {x : Rw} (hr : x.2 ≠ []) {n : Nat} : d_item_by [pr x, .int n] p = .ok (.int (item x.1 x.2 n)) p := by
  have hp : 0 < x.2.length := List.length_pos_iff.mpr hr
  unfold d_item_by pr
  have g1 : bfn .len [tI x.1] = some (.int x.1.length) := by unfold tI; rw [f_lenT, List.length_map]
  have g2 : bfn .len [tI x.2] = some (.int x.2.length) := by unfold tI; rw [f_lenT, List.length_map]
  by_cases h : n < x.1.length
  · have h' : ((n : Int) < (x.1.length : Int)) := by omega
    have a1 : idx (tI x.1) (.int n) = some (.int (x.1.getD n 0)) := by
      unfold tI; rw [ixD_tup, at_get _ (by omega) h']; rfl
    simp -implicitDefEqProofs only [evFn, evSs, evS, evE, evT, evEs, evAnd, evOr, evAndT, evOrT, evO, evI, evOwn, R.bind_ok, R.of_some, se_d, se_u, se_o, sb_d, sb_u, sb_o, see, seeB, List.map_cons, List.map_nil, List.cons_append, List.nil_append, List.length_cons, List.length_nil, List.replicate_succ, List.replicate_zero, List.getElem?_cons_zero, List.getElem?_cons_succ, List.set_cons_zero, List.set_cons_succ, Option.join_some, Option.map_some, Option.map_none, Option.bind_some, setSl, tgSl, b_add, b_sub, b_mul, b_fdiv, b_mod, b_pow, b_addT, b_addL, b_mulT, b_mulL, deq_ii, deq_bb, c_eq, c_ne, c_lt, c_le, c_gt, c_ge, c_isN, c_isnN, c_isB, c_isnB, i_bl, i_non, i_int, i_str, i_tup, i_lst, non_non, non_int, non_tup, non_bl, t_non, t_bl, t_int, t_tup, t_lst, ixD_tup, ixD_lst, slD_tup, slD_lst, f_lenT, f_lenL, f_tupT, f_tupL, f_lstT, f_lstL, f_int, f_abs, f_max, f_min, f_all, f_any, f_sum, f_sorted, y_int, y_bl, y_non, y_str, y_tup, y_lst, y_obj, k_ii, k_ib, k_it, k_il, k_is, k_tt, k_tl, k_ti, k_tb, k_ll, k_lt, k_bi, k_bb, k_bt, k_bl, k_nt, k_ss, k_st, k_cc, ks_nil, ks_cons, as_int, pg_cells, pg_at, pg_digits, pg_count, pg_fold, ps_at, ps_digits, ps_count, ps_fold, q_tup, q_lst, z_tt, z_ll, ea_obj, er_bl, if_true, if_false, Bool.false_eq_true, Nat.reduceAdd, Nat.reduceSub, Bool.not_true, Bool.not_false, decide_true, decide_false, ir_item_by, g1, g2, h', a1]
    unfold item; rw [if_pos h]
  · have h' : ¬ ((n : Int) < (x.1.length : Int)) := by omega
    have ne : ((x.2.length : Int)) ≠ 0 := by omega
    have e : ((n : Int) - (x.1.length : Int)).fmod (x.2.length : Int) = (((n - x.1.length) % x.2.length : Nat) : Int) := by
      rw [Int.fmod_eq_emod_of_nonneg _ (by omega), Int.natCast_emod]
      congr 1; omega
    have a1 : idx (tI x.2) (.int (((n - x.1.length) % x.2.length : Nat) : Int)) = some (.int (x.2.getD ((n - x.1.length) % x.2.length) 0)) := by
      unfold tI; rw [ixD_tup, at_get _ (by omega) (by have := Nat.mod_lt (n - x.1.length) hp; omega)]; rfl
    simp -implicitDefEqProofs only [evFn, evSs, evS, evE, evT, evEs, evAnd, evOr, evAndT, evOrT, evO, evI, evOwn, R.bind_ok, R.of_some, se_d, se_u, se_o, sb_d, sb_u, sb_o, see, seeB, List.map_cons, List.map_nil, List.cons_append, List.nil_append, List.length_cons, List.length_nil, List.replicate_succ, List.replicate_zero, List.getElem?_cons_zero, List.getElem?_cons_succ, List.set_cons_zero, List.set_cons_succ, Option.join_some, Option.map_some, Option.map_none, Option.bind_some, setSl, tgSl, b_add, b_sub, b_mul, b_fdiv, b_mod, b_pow, b_addT, b_addL, b_mulT, b_mulL, deq_ii, deq_bb, c_eq, c_ne, c_lt, c_le, c_gt, c_ge, c_isN, c_isnN, c_isB, c_isnB, i_bl, i_non, i_int, i_str, i_tup, i_lst, non_non, non_int, non_tup, non_bl, t_non, t_bl, t_int, t_tup, t_lst, ixD_tup, ixD_lst, slD_tup, slD_lst, f_lenT, f_lenL, f_tupT, f_tupL, f_lstT, f_lstL, f_int, f_abs, f_max, f_min, f_all, f_any, f_sum, f_sorted, y_int, y_bl, y_non, y_str, y_tup, y_lst, y_obj, k_ii, k_ib, k_it, k_il, k_is, k_tt, k_tl, k_ti, k_tb, k_ll, k_lt, k_bi, k_bb, k_bt, k_bl, k_nt, k_ss, k_st, k_cc, ks_nil, ks_cons, as_int, pg_cells, pg_at, pg_digits, pg_count, pg_fold, ps_at, ps_digits, ps_count, ps_fold, q_tup, q_lst, z_tt, z_ll, ea_obj, er_bl, if_true, if_false, Bool.false_eq_true, Nat.reduceAdd, Nat.reduceSub, Bool.not_true, Bool.not_false, decide_true, decide_false, ir_item_by, g1, g2, h', ne, e, a1, ne_eq, not_false_eq_true]
    unfold item; rw [if_neg h]; rfl
theorem law_item_i {x : Rw} (hr : x.2 ≠ []) {n : Nat} : d__law_item [pr x, .int n] p = .ok (.int (item x.1 x.2 n)) p := by
  have hp : 0 < x.2.length := List.length_pos_iff.mpr hr
  unfold d__law_item pr
  have g1 : bfn .len [tI x.1] = some (.int x.1.length) := by unfold tI; rw [f_lenT, List.length_map]
  have g2 : bfn .len [tI x.2] = some (.int x.2.length) := by unfold tI; rw [f_lenT, List.length_map]
  by_cases h : n < x.1.length
  · have h' : ((n : Int) < (x.1.length : Int)) := by omega
    have a1 : idx (tI x.1) (.int n) = some (.int (x.1.getD n 0)) := by
      unfold tI; rw [ixD_tup, at_get _ (by omega) h']; rfl
    simp -implicitDefEqProofs only [evFn, evSs, evS, evE, evT, evEs, evAnd, evOr, evAndT, evOrT, evO, evI, evOwn, R.bind_ok, R.of_some, se_d, se_u, se_o, sb_d, sb_u, sb_o, see, seeB, List.map_cons, List.map_nil, List.cons_append, List.nil_append, List.length_cons, List.length_nil, List.replicate_succ, List.replicate_zero, List.getElem?_cons_zero, List.getElem?_cons_succ, List.set_cons_zero, List.set_cons_succ, Option.join_some, Option.map_some, Option.map_none, Option.bind_some, setSl, tgSl, b_add, b_sub, b_mul, b_fdiv, b_mod, b_pow, b_addT, b_addL, b_mulT, b_mulL, deq_ii, deq_bb, c_eq, c_ne, c_lt, c_le, c_gt, c_ge, c_isN, c_isnN, c_isB, c_isnB, i_bl, i_non, i_int, i_str, i_tup, i_lst, non_non, non_int, non_tup, non_bl, t_non, t_bl, t_int, t_tup, t_lst, ixD_tup, ixD_lst, slD_tup, slD_lst, f_lenT, f_lenL, f_tupT, f_tupL, f_lstT, f_lstL, f_int, f_abs, f_max, f_min, f_all, f_any, f_sum, f_sorted, y_int, y_bl, y_non, y_str, y_tup, y_lst, y_obj, k_ii, k_ib, k_it, k_il, k_is, k_tt, k_tl, k_ti, k_tb, k_ll, k_lt, k_bi, k_bb, k_bt, k_bl, k_nt, k_ss, k_st, k_cc, ks_nil, ks_cons, as_int, pg_cells, pg_at, pg_digits, pg_count, pg_fold, ps_at, ps_digits, ps_count, ps_fold, q_tup, q_lst, z_tt, z_ll, ea_obj, er_bl, if_true, if_false, Bool.false_eq_true, Nat.reduceAdd, Nat.reduceSub, Bool.not_true, Bool.not_false, decide_true, decide_false, ir__law_item, g1, g2, h', a1]
    unfold item; rw [if_pos h]
  · have h' : ¬ ((n : Int) < (x.1.length : Int)) := by omega
    have ne : ((x.2.length : Int)) ≠ 0 := by omega
    have e : ((n : Int) - (x.1.length : Int)).fmod (x.2.length : Int) = (((n - x.1.length) % x.2.length : Nat) : Int) := by
      rw [Int.fmod_eq_emod_of_nonneg _ (by omega), Int.natCast_emod]
      congr 1; omega
    have a1 : idx (tI x.2) (.int (((n - x.1.length) % x.2.length : Nat) : Int)) = some (.int (x.2.getD ((n - x.1.length) % x.2.length) 0)) := by
      unfold tI; rw [ixD_tup, at_get _ (by omega) (by have := Nat.mod_lt (n - x.1.length) hp; omega)]; rfl
    simp -implicitDefEqProofs only [evFn, evSs, evS, evE, evT, evEs, evAnd, evOr, evAndT, evOrT, evO, evI, evOwn, R.bind_ok, R.of_some, se_d, se_u, se_o, sb_d, sb_u, sb_o, see, seeB, List.map_cons, List.map_nil, List.cons_append, List.nil_append, List.length_cons, List.length_nil, List.replicate_succ, List.replicate_zero, List.getElem?_cons_zero, List.getElem?_cons_succ, List.set_cons_zero, List.set_cons_succ, Option.join_some, Option.map_some, Option.map_none, Option.bind_some, setSl, tgSl, b_add, b_sub, b_mul, b_fdiv, b_mod, b_pow, b_addT, b_addL, b_mulT, b_mulL, deq_ii, deq_bb, c_eq, c_ne, c_lt, c_le, c_gt, c_ge, c_isN, c_isnN, c_isB, c_isnB, i_bl, i_non, i_int, i_str, i_tup, i_lst, non_non, non_int, non_tup, non_bl, t_non, t_bl, t_int, t_tup, t_lst, ixD_tup, ixD_lst, slD_tup, slD_lst, f_lenT, f_lenL, f_tupT, f_tupL, f_lstT, f_lstL, f_int, f_abs, f_max, f_min, f_all, f_any, f_sum, f_sorted, y_int, y_bl, y_non, y_str, y_tup, y_lst, y_obj, k_ii, k_ib, k_it, k_il, k_is, k_tt, k_tl, k_ti, k_tb, k_ll, k_lt, k_bi, k_bb, k_bt, k_bl, k_nt, k_ss, k_st, k_cc, ks_nil, ks_cons, as_int, pg_cells, pg_at, pg_digits, pg_count, pg_fold, ps_at, ps_digits, ps_count, ps_fold, q_tup, q_lst, z_tt, z_ll, ea_obj, er_bl, if_true, if_false, Bool.false_eq_true, Nat.reduceAdd, Nat.reduceSub, Bool.not_true, Bool.not_false, decide_true, decide_false, ir__law_item, g1, g2, h', ne, e, a1, ne_eq, not_false_eq_true]
    unfold item; rw [if_neg h]; rfl
end
/-! ### loops -/
theorem whN_succ {c : SEnv → PenS → R Bool} {f : SEnv → PenS → R (Fl × SEnv)} : ∀ (n : Nat) (ρ : SEnv) (p : PenS), whN c f n ρ p ≠ .stuck → whN c f (n + 1) ρ p = whN c f n ρ p
  | 0, ρ, p, h => absurd rfl h
  | n + 1, ρ, p, h => by
    rw [whN] at h
    conv => lhs; rw [whN]
    conv => rhs; rw [whN]
    cases e1 : c ρ p with
    | stuck => rfl
    | err _ _ _ => rfl
    | ok k p1 =>
      rw [e1] at h
      simp only [R.bind_ok] at h ⊢
      cases k with
      | false => rfl
      | true =>
        simp only [if_true] at h ⊢
        cases e2 : f ρ p1 with
        | stuck => rfl
        | err _ _ _ => rfl
        | ok a p2 =>
          rw [e2] at h
          obtain ⟨fl, ρ2⟩ := a
          simp only [R.bind_ok] at h ⊢
          cases fl with
          | nx => exact whN_succ n ρ2 p2 h
          | ct => exact whN_succ n ρ2 p2 h
          | bk => rfl
          | rt d => rfl
theorem whN_more {c : SEnv → PenS → R Bool} {f : SEnv → PenS → R (Fl × SEnv)} {n : Nat} {ρ : SEnv} {p : PenS} (h : whN c f n ρ p ≠ .stuck) : ∀ k, whN c f (n + k) ρ p = whN c f n ρ p
  | 0 => rfl
  | k + 1 => by
    have ih := whN_more h k
    rw [← Nat.add_assoc, whN_succ (n + k) ρ p (by rw [ih]; exact h), ih]
theorem whW_eq {c : SEnv → PenS → R Bool} {f : SEnv → PenS → R (Fl × SEnv)} {n : Nat} {ρ : SEnv} {p : PenS} {r : R (Fl × SEnv)} (h : whN c f n ρ p = r) (hr : r ≠ .stuck) : whW c f ρ p = r := by
  have hn : whN c f n ρ p ≠ .stuck := by rw [h]; exact hr
  have hex : ∃ n, whN c f n ρ p ≠ .stuck := ⟨n, hn⟩
  unfold whW
  rw [dif_pos hex, ← h]
  have hc := hex.choose_spec
  generalize hex.choose = m at hc
  rcases Nat.le_total m n with hm | hm
  · obtain ⟨k, rfl⟩ := Nat.exists_eq_add_of_le hm
    exact (whN_more hc k).symm
  · obtain ⟨k, rfl⟩ := Nat.exists_eq_add_of_le hm
    exact whN_more hn k
/-- a loop that looks for the first -/
theorem loop_find {f : D → SEnv → PenS → R (Fl × SEnv)} {e : Sl → SEnv} {c : D → Bool} {v : D → D} {p : PenS} : ∀ {ds : List D}, (∀ d ∈ ds, ∀ z, f d (e z) p = if c d = true then .ok (.rt (v d), e (.d d)) p else .ok (.nx, e (.d d)) p) → ∀ z,
    (∃ d, ds.find? c = some d ∧ forLoop f ds (e z) p = .ok (.rt (v d), e (.d d)) p) ∨ (ds.find? c = none ∧ ∃ z', forLoop f ds (e z) p = .ok (.nx, e z') p)
  | [], _, z => .inr ⟨rfl, z, rfl⟩
  | d :: ds, h, z => by
    simp only [forLoop, h d (by simp) z, List.find?_cons]
    cases q : c d with
    | true => exact .inl ⟨d, rfl, rfl⟩
    | false =>
      rcases loop_find (ds := ds) (fun x hx => h x (by simp [hx])) (.d d) with ⟨y, h1, h2⟩ | ⟨h1, y, h2⟩
      · exact .inl ⟨y, h1, by simpa using h2⟩
      · exact .inr ⟨h1, y, by simpa using h2⟩
end Lk07

set_option Elab.async false
set_option linter.all false
set_option maxRecDepth 100000
set_option maxHeartbeats 1000000
namespace Lk07
open PySem PySem.Spec PyProof.Rows L2 Mi RowP
theorem loop_find_bind {β : Type} {f : D → SEnv → PenS → R (Fl × SEnv)} {e : Sl → SEnv} {c : D → Bool} {v : D → D} {p : PenS} {ds : List D} {k : Fl × SEnv → PenS → R β} {res : R β} (z : Sl)
    (hf : ∀ d ∈ ds, ∀ z, f d (e z) p = if c d = true then .ok (.rt (v d), e (.d d)) p else .ok (.nx, e (.d d)) p)
    (h1 : ∀ d, ds.find? c = some d → k (.rt (v d), e (.d d)) p = res) (h2 : ds.find? c = none → ∀ z', k (.nx, e z') p = res) : (forLoop f ds (e z) p).bind k = res := by
  rcases loop_find hf z with ⟨d, q1, q2⟩ | ⟨q1, z', q2⟩
  · rw [q2]; exact h1 d q1
  · rw [q2]; exact h2 q1 z'
theorem bind_assoc' {α β γ : Type} (r : R α) (f : α → PenS → R β) (g : β → PenS → R γ) : (r.bind f).bind g = r.bind fun a p => (f a p).bind g := by cases r <;> rfl
theorem rngOf_ok {a b : Int} (h1 : 0 ≤ a ∧ a ≤ 1000000) (h2 : 0 ≤ b ∧ b ≤ 1000000) : rngOf a b = some (rng a b) := by
  unfold rngOf
  rw [if_pos]
  refine ⟨⟨by omega, by omega⟩, ⟨by omega, by omega⟩, ?_⟩
  rw [sizeLine_eq]; omega
theorem rng_nat (a b : Nat) : rng a b = (List.range' a (b - a)).map fun k => D.int (k : Nat) := by
  unfold rng
  rw [List.range'_eq_map_range, List.map_map, show ((b : Int) - (a : Int)).toNat = b - a by omega]
  apply List.map_congr_left
  intro i _
  simp
theorem mem_rng {a b : Nat} {d : D} (h : d ∈ rng a b) : ∃ k, a ≤ k ∧ k < b ∧ d = .int (k : Nat) := by
  rw [rng_nat] at h
  obtain ⟨k, hk, rfl⟩ := List.mem_map.mp h
  rw [List.mem_range'] at hk
  obtain ⟨i, hi, rfl⟩ := hk
  exact ⟨_, by omega, by omega, rfl⟩
def onI (f : Nat → Bool) : D → Bool
  | .int k => f k.toNat
  | _ => false
theorem find_rng (a b : Nat) (f : Nat → Bool) : (rng a b).find? (onI f) = ((List.range' a (b - a)).find? f).map fun k => D.int (k : Nat) := by
  rw [rng_nat, List.find?_map]
  congr 1
theorem len_tI (xs : W) : bfn .len [tI xs] = some (.int xs.length) := by unfold tI; rw [f_lenT, List.length_map]
theorem sl_take (xs : W) {k : Int} (h : 0 ≤ k) : slc (tI xs) none (some k) = some (tI (xs.take k.toNat)) := by rw [← cut_take xs h]; rfl
theorem sl_drop (xs : W) {k : Int} (h : 0 ≤ k) : slc (tI xs) (some k) none = some (tI (xs.drop k.toNat)) := by rw [← cut_drop xs h]; rfl
theorem sl_init (xs : W) (h : xs ≠ []) : slc (tI xs) none (some (-1)) = some (tI xs.dropLast) := by rw [← cut_init xs h]; rfl
theorem sl_last (xs : W) (h : xs ≠ []) : slc (tI xs) (some (-1)) none = some (tI [xs.getLastD 0]) := by rw [← cut_last xs h]; rfl
theorem ix_last (xs : W) (h : xs ≠ []) : idx (tI xs) (.int (-1)) = some (.int (xs.getLastD 0)) := by unfold tI; rw [ixD_tup, at_last xs h]
theorem pw_map (u : W) (k : Nat) : (List.replicate k (u.map D.int)).flatten = (pw u k).map D.int := by
  unfold pw; rw [List.map_flatten, List.map_replicate]
theorem mul_tI {u : W} {k : Int} (h0 : 0 ≤ k) (h1 : k ≤ 1000) (h2 : u.length ≤ 1000) : Mi.bin .mul (tI u) (.int k) = some (tI (pw u k.toNat)) := by
  unfold tI
  rw [b_mulT, if_pos ⟨h0, h1, by rw [List.length_map]; exact h2⟩, pw_map]
theorem add_tI {u v : W} (h : u.length + v.length ≤ 1000) : Mi.bin .add (tI u) (tI v) = some (tI (u ++ v)) := by
  unfold tI
  rw [b_addT, if_pos (by rw [List.length_map, List.length_map]; exact len_line h), List.map_append]
theorem div_ok {i j : Int} (h : 0 < j ∧ j ≤ 1000) : divOk i j := .inl ⟨by omega, by omega⟩
section
variable {p : PenS}
theorem rooted_i {w : W} (hw : w ≠ []) (hl : w.length ≤ 1000) : d_rooted [tI w] p = .ok (tI (root w)) p := by
  have hp : 0 < w.length := List.length_pos_iff.mpr hw
  unfold d_rooted
  have r1 : rngOf 1 (w.length : Int) = some (rng 1 (w.length : Int)) := rngOf_ok (by omega) (by omega)
  simp -implicitDefEqProofs only [evFn, evSs, evS, evE, evT, evEs, evAnd, evOr, evAndT, evOrT, evO, evI, evOwn, R.bind_ok, R.of_some, se_d, se_u, se_o, sb_d, sb_u, sb_o, see, seeB, List.map_cons, List.map_nil, List.cons_append, List.nil_append, List.length_cons, List.length_nil, List.replicate_succ, List.replicate_zero, List.getElem?_cons_zero, List.getElem?_cons_succ, List.set_cons_zero, List.set_cons_succ, Option.join_some, Option.map_some, Option.map_none, Option.bind_some, setSl, tgSl, b_add, b_sub, b_mul, b_fdiv, b_mod, b_pow, b_addT, b_addL, b_mulT, b_mulL, deq_ii, deq_bb, c_eq, c_ne, c_lt, c_le, c_gt, c_ge, c_isN, c_isnN, c_isB, c_isnB, i_bl, i_non, i_int, i_str, i_tup, i_lst, non_non, non_int, non_tup, non_bl, t_non, t_bl, t_int, t_tup, t_lst, ixD_tup, ixD_lst, slD_tup, slD_lst, f_lenT, f_lenL, f_tupT, f_tupL, f_lstT, f_lstL, f_int, f_abs, f_max, f_min, f_all, f_any, f_sum, f_sorted, y_int, y_bl, y_non, y_str, y_tup, y_lst, y_obj, k_ii, k_ib, k_it, k_il, k_is, k_tt, k_tl, k_ti, k_tb, k_ll, k_lt, k_bi, k_bb, k_bt, k_bl, k_nt, k_ss, k_st, k_cc, ks_nil, ks_cons, as_int, pg_cells, pg_at, pg_digits, pg_count, pg_fold, ps_at, ps_digits, ps_count, ps_fold, q_tup, q_lst, z_tt, z_ll, ea_obj, er_bl, if_true, if_false, Bool.false_eq_true, Nat.reduceAdd, Nat.reduceSub, Bool.not_true, Bool.not_false, decide_true, decide_false, ir_rooted, len_tI, r1]
  have fnd := find_rng 1 w.length (isP w)
  rw [bind_assoc']
  refine loop_find_bind (e := fun z => [.d (tI w), z]) (c := onI (isP w)) (v := fun d => match d with | .int k => tI (w.take k.toNat) | _ => .non) .u ?_ ?_ ?_
  · intro d hd z
    obtain ⟨k, k1, k2, rfl⟩ := mem_rng (a := 1) hd
    have kn : (k : Int) ≠ 0 := by omega
    have e1 : Int.fmod (w.length : Int) (k : Int) = ((w.length % k : Nat) : Int) := by rw [Int.fmod_eq_emod_of_nonneg _ (by omega), Int.natCast_emod]
    have e2 : Int.fdiv (w.length : Int) (k : Int) = ((w.length / k : Nat) : Int) := by rw [Int.fdiv_eq_ediv_of_nonneg _ (by omega), Int.natCast_ediv]
    have hdv : w.length / k ≤ w.length := Nat.div_le_self _ _
    have dv : divOk (w.length : Int) (k : Int) := div_ok (by omega)
    have mt : Mi.bin .mul (tI (w.take k)) (.int ((w.length / k : Nat) : Int)) = some (tI (pw (w.take k) (w.length / k))) := mul_tI (Int.natCast_nonneg _) (Int.ofNat_le.mpr (show w.length / k ≤ 1000 by omega)) (by rw [List.length_take]; omega)
    have st : slc (tI w) none (some (k : Int)) = some (tI (w.take k)) := sl_take w (by omega)
    by_cases c1 : w.length % k = 0
    · have c1' : ((w.length % k : Nat) : Int) = 0 := by omega
      by_cases c2 : pw (w.take k) (w.length / k) = w
      · have : isP w k = true := by unfold isP; simp [c1, c2]
        simp -implicitDefEqProofs only [evFn, evSs, evS, evE, evT, evEs, evAnd, evOr, evAndT, evOrT, evO, evI, evOwn, R.bind_ok, R.of_some, se_d, se_u, se_o, sb_d, sb_u, sb_o, see, seeB, List.map_cons, List.map_nil, List.cons_append, List.nil_append, List.length_cons, List.length_nil, List.replicate_succ, List.replicate_zero, List.getElem?_cons_zero, List.getElem?_cons_succ, List.set_cons_zero, List.set_cons_succ, Option.join_some, Option.map_some, Option.map_none, Option.bind_some, setSl, tgSl, b_add, b_sub, b_mul, b_fdiv, b_mod, b_pow, b_addT, b_addL, b_mulT, b_mulL, deq_ii, deq_bb, c_eq, c_ne, c_lt, c_le, c_gt, c_ge, c_isN, c_isnN, c_isB, c_isnB, i_bl, i_non, i_int, i_str, i_tup, i_lst, non_non, non_int, non_tup, non_bl, t_non, t_bl, t_int, t_tup, t_lst, ixD_tup, ixD_lst, slD_tup, slD_lst, f_lenT, f_lenL, f_tupT, f_tupL, f_lstT, f_lstL, f_int, f_abs, f_max, f_min, f_all, f_any, f_sum, f_sorted, y_int, y_bl, y_non, y_str, y_tup, y_lst, y_obj, k_ii, k_ib, k_it, k_il, k_is, k_tt, k_tl, k_ti, k_tb, k_ll, k_lt, k_bi, k_bb, k_bt, k_bl, k_nt, k_ss, k_st, k_cc, ks_nil, ks_cons, as_int, pg_cells, pg_at, pg_digits, pg_count, pg_fold, ps_at, ps_digits, ps_count, ps_fold, q_tup, q_lst, z_tt, z_ll, ea_obj, er_bl, if_true, if_false, Bool.false_eq_true, Nat.reduceAdd, Nat.reduceSub, Bool.not_true, Bool.not_false, decide_true, decide_false, len_tI, kn, e1, e2, c1', dv, st, mt, deq_tI, c2, ne_eq, not_false_eq_true, onI, Int.toNat_natCast, this]
      · have : isP w k = false := by unfold isP; simp [c1, c2]
        simp -implicitDefEqProofs only [evFn, evSs, evS, evE, evT, evEs, evAnd, evOr, evAndT, evOrT, evO, evI, evOwn, R.bind_ok, R.of_some, se_d, se_u, se_o, sb_d, sb_u, sb_o, see, seeB, List.map_cons, List.map_nil, List.cons_append, List.nil_append, List.length_cons, List.length_nil, List.replicate_succ, List.replicate_zero, List.getElem?_cons_zero, List.getElem?_cons_succ, List.set_cons_zero, List.set_cons_succ, Option.join_some, Option.map_some, Option.map_none, Option.bind_some, setSl, tgSl, b_add, b_sub, b_mul, b_fdiv, b_mod, b_pow, b_addT, b_addL, b_mulT, b_mulL, deq_ii, deq_bb, c_eq, c_ne, c_lt, c_le, c_gt, c_ge, c_isN, c_isnN, c_isB, c_isnB, i_bl, i_non, i_int, i_str, i_tup, i_lst, non_non, non_int, non_tup, non_bl, t_non, t_bl, t_int, t_tup, t_lst, ixD_tup, ixD_lst, slD_tup, slD_lst, f_lenT, f_lenL, f_tupT, f_tupL, f_lstT, f_lstL, f_int, f_abs, f_max, f_min, f_all, f_any, f_sum, f_sorted, y_int, y_bl, y_non, y_str, y_tup, y_lst, y_obj, k_ii, k_ib, k_it, k_il, k_is, k_tt, k_tl, k_ti, k_tb, k_ll, k_lt, k_bi, k_bb, k_bt, k_bl, k_nt, k_ss, k_st, k_cc, ks_nil, ks_cons, as_int, pg_cells, pg_at, pg_digits, pg_count, pg_fold, ps_at, ps_digits, ps_count, ps_fold, q_tup, q_lst, z_tt, z_ll, ea_obj, er_bl, if_true, if_false, Bool.false_eq_true, Nat.reduceAdd, Nat.reduceSub, Bool.not_true, Bool.not_false, decide_true, decide_false, len_tI, kn, e1, e2, c1', dv, st, mt, deq_tI, c2, ne_eq, not_false_eq_true, onI, Int.toNat_natCast, this]
    · have c1' : ¬ ((w.length % k : Nat) : Int) = 0 := by omega
      have : isP w k = false := by unfold isP; simp [c1]
      simp -implicitDefEqProofs only [evFn, evSs, evS, evE, evT, evEs, evAnd, evOr, evAndT, evOrT, evO, evI, evOwn, R.bind_ok, R.of_some, se_d, se_u, se_o, sb_d, sb_u, sb_o, see, seeB, List.map_cons, List.map_nil, List.cons_append, List.nil_append, List.length_cons, List.length_nil, List.replicate_succ, List.replicate_zero, List.getElem?_cons_zero, List.getElem?_cons_succ, List.set_cons_zero, List.set_cons_succ, Option.join_some, Option.map_some, Option.map_none, Option.bind_some, setSl, tgSl, b_add, b_sub, b_mul, b_fdiv, b_mod, b_pow, b_addT, b_addL, b_mulT, b_mulL, deq_ii, deq_bb, c_eq, c_ne, c_lt, c_le, c_gt, c_ge, c_isN, c_isnN, c_isB, c_isnB, i_bl, i_non, i_int, i_str, i_tup, i_lst, non_non, non_int, non_tup, non_bl, t_non, t_bl, t_int, t_tup, t_lst, ixD_tup, ixD_lst, slD_tup, slD_lst, f_lenT, f_lenL, f_tupT, f_tupL, f_lstT, f_lstL, f_int, f_abs, f_max, f_min, f_all, f_any, f_sum, f_sorted, y_int, y_bl, y_non, y_str, y_tup, y_lst, y_obj, k_ii, k_ib, k_it, k_il, k_is, k_tt, k_tl, k_ti, k_tb, k_ll, k_lt, k_bi, k_bb, k_bt, k_bl, k_nt, k_ss, k_st, k_cc, ks_nil, ks_cons, as_int, pg_cells, pg_at, pg_digits, pg_count, pg_fold, ps_at, ps_digits, ps_count, ps_fold, q_tup, q_lst, z_tt, z_ll, ea_obj, er_bl, if_true, if_false, Bool.false_eq_true, Nat.reduceAdd, Nat.reduceSub, Bool.not_true, Bool.not_false, decide_true, decide_false, len_tI, kn, e1, c1', ne_eq, not_false_eq_true, onI, Int.toNat_natCast, this]
  · intro d hd
    rw [show (rng 1 (w.length : Int)) = rng (1 : Nat) (w.length : Nat) from rfl, fnd] at hd
    cases q : (List.range' 1 (w.length - 1)).find? (isP w) with
    | none => rw [q] at hd; cases hd
    | some k =>
      rw [q] at hd
      cases hd
      show R.ok (tI (w.take k)) p = _
      unfold root rootN
      rw [q]
      rfl
  · intro hd z'
    rw [show (rng 1 (w.length : Int)) = rng (1 : Nat) (w.length : Nat) from rfl, fnd] at hd
    cases q : (List.range' 1 (w.length - 1)).find? (isP w) with
    | some k => rw [q] at hd; cases hd
    | none =>
      simp -implicitDefEqProofs only [evFn, evSs, evS, evE, evT, evEs, evAnd, evOr, evAndT, evOrT, evO, evI, evOwn, R.bind_ok, R.of_some, se_d, se_u, se_o, sb_d, sb_u, sb_o, see, seeB, List.map_cons, List.map_nil, List.cons_append, List.nil_append, List.length_cons, List.length_nil, List.replicate_succ, List.replicate_zero, List.getElem?_cons_zero, List.getElem?_cons_succ, List.set_cons_zero, List.set_cons_succ, Option.join_some, Option.map_some, Option.map_none, Option.bind_some, setSl, tgSl, b_add, b_sub, b_mul, b_fdiv, b_mod, b_pow, b_addT, b_addL, b_mulT, b_mulL, deq_ii, deq_bb, c_eq, c_ne, c_lt, c_le, c_gt, c_ge, c_isN, c_isnN, c_isB, c_isnB, i_bl, i_non, i_int, i_str, i_tup, i_lst, non_non, non_int, non_tup, non_bl, t_non, t_bl, t_int, t_tup, t_lst, ixD_tup, ixD_lst, slD_tup, slD_lst, f_lenT, f_lenL, f_tupT, f_tupL, f_lstT, f_lstL, f_int, f_abs, f_max, f_min, f_all, f_any, f_sum, f_sorted, y_int, y_bl, y_non, y_str, y_tup, y_lst, y_obj, k_ii, k_ib, k_it, k_il, k_is, k_tt, k_tl, k_ti, k_tb, k_ll, k_lt, k_bi, k_bb, k_bt, k_bl, k_nt, k_ss, k_st, k_cc, ks_nil, ks_cons, as_int, pg_cells, pg_at, pg_digits, pg_count, pg_fold, ps_at, ps_digits, ps_count, ps_fold, q_tup, q_lst, z_tt, z_ll, ea_obj, er_bl, if_true, if_false, Bool.false_eq_true, Nat.reduceAdd, Nat.reduceSub, Bool.not_true, Bool.not_false, decide_true, decide_false]
      unfold root rootN
      rw [q]
      simp
theorem stripR_nil : ∀ (n : Nat) (r : W), stripR n [] r = ([], r)
  | 0, _ => rfl
  | n + 1, r => by unfold stripR; simp
theorem root_len {w : W} (h : w ≠ []) : (root w).length ≤ w.length := by unfold root; rw [List.length_take]; omega
/-- the loop of least_by, one turn -/
theorem least_by_i {a r : W} (hr : r ≠ []) (ha : a.length ≤ 500) (hl : r.length ≤ 500) : d_least_by [tI a, tI r] p = .ok (pr (least a r)) p := by
  unfold d_least_by
  simp -implicitDefEqProofs only [evFn, evSs, evS, evE, evT, evEs, evAnd, evOr, evAndT, evOrT, evO, evI, evOwn, R.bind_ok, R.of_some, se_d, se_u, se_o, sb_d, sb_u, sb_o, see, seeB, List.map_cons, List.map_nil, List.cons_append, List.nil_append, List.length_cons, List.length_nil, List.replicate_succ, List.replicate_zero, List.getElem?_cons_zero, List.getElem?_cons_succ, List.set_cons_zero, List.set_cons_succ, Option.join_some, Option.map_some, Option.map_none, Option.bind_some, setSl, tgSl, b_add, b_sub, b_mul, b_fdiv, b_mod, b_pow, b_addT, b_addL, b_mulT, b_mulL, deq_ii, deq_bb, c_eq, c_ne, c_lt, c_le, c_gt, c_ge, c_isN, c_isnN, c_isB, c_isnB, i_bl, i_non, i_int, i_str, i_tup, i_lst, non_non, non_int, non_tup, non_bl, t_non, t_bl, t_int, t_tup, t_lst, ixD_tup, ixD_lst, slD_tup, slD_lst, f_lenT, f_lenL, f_tupT, f_tupL, f_lstT, f_lstL, f_int, f_abs, f_max, f_min, f_all, f_any, f_sum, f_sorted, y_int, y_bl, y_non, y_str, y_tup, y_lst, y_obj, k_ii, k_ib, k_it, k_il, k_is, k_tt, k_tl, k_ti, k_tb, k_ll, k_lt, k_bi, k_bb, k_bt, k_bl, k_nt, k_ss, k_st, k_cc, ks_nil, ks_cons, as_int, pg_cells, pg_at, pg_digits, pg_count, pg_fold, ps_at, ps_digits, ps_count, ps_fold, q_tup, q_lst, z_tt, z_ll, ea_obj, er_bl, if_true, if_false, Bool.false_eq_true, Nat.reduceAdd, Nat.reduceSub, Bool.not_true, Bool.not_false, decide_true, decide_false, ir_least_by, s_least_by, rooted_i hr (by omega)]
  have key : ∀ (n : Nat) (a r : W), r ≠ [] → a.length ≤ n → a.length ≤ 500 → r.length ≤ 500 → ∀ c f, (∀ a r : W, r ≠ [] → a.length ≤ 500 → r.length ≤ 500 → c [.d (tI a), .d (tI r)] p = .ok (decide (a ≠ [] ∧ a.getLastD 0 = r.getLastD 0)) p) →
      (∀ a r : W, a ≠ [] → r ≠ [] → a.length ≤ 500 → r.length ≤ 500 → f [.d (tI a), .d (tI r)] p = .ok (.nx, [.d (tI a.dropLast), .d (tI (turn r))]) p) →
      whN c f (n + 1) [.d (tI a), .d (tI r)] p = .ok (.nx, [.d (tI (stripR n a r).1), .d (tI (stripR n a r).2)]) p := by
    intro n
    induction n with
    | zero =>
      intro a r hr hn h1 h2 c f hc hf
      have : a = [] := List.eq_nil_of_length_eq_zero (by omega)
      subst this
      rw [whN, hc [] r hr h1 h2]
      simp [stripR]
    | succ n ih =>
      intro a r hr hn h1 h2 c f hc hf
      rw [whN, hc a r hr h1 h2]
      unfold stripR
      by_cases h : a ≠ [] ∧ a.getLastD 0 = r.getLastD 0
      · rw [if_pos h, decide_eq_true h]
        simp only [R.bind_ok, if_true, hf a r h.1 hr h1 h2]
        exact ih a.dropLast (turn r) (by unfold turn; simp) (by rw [List.length_dropLast]; omega) (by rw [List.length_dropLast]; omega) (by rw [turn_len hr]; exact h2) c f hc hf
      · rw [if_neg h, decide_eq_false h]
        rfl
  obtain ⟨z1, _, _, _⟩ := root_ok hr
  rw [whW_eq (key a.length a (root r) z1 (Nat.le_refl _) ha (Nat.le_trans (root_len hr) hl) _ _ ?_ ?_) (by simp)]
  · simp -implicitDefEqProofs only [evFn, evSs, evS, evE, evT, evEs, evAnd, evOr, evAndT, evOrT, evO, evI, evOwn, R.bind_ok, R.of_some, se_d, se_u, se_o, sb_d, sb_u, sb_o, see, seeB, List.map_cons, List.map_nil, List.cons_append, List.nil_append, List.length_cons, List.length_nil, List.replicate_succ, List.replicate_zero, List.getElem?_cons_zero, List.getElem?_cons_succ, List.set_cons_zero, List.set_cons_succ, Option.join_some, Option.map_some, Option.map_none, Option.bind_some, setSl, tgSl, b_add, b_sub, b_mul, b_fdiv, b_mod, b_pow, b_addT, b_addL, b_mulT, b_mulL, deq_ii, deq_bb, c_eq, c_ne, c_lt, c_le, c_gt, c_ge, c_isN, c_isnN, c_isB, c_isnB, i_bl, i_non, i_int, i_str, i_tup, i_lst, non_non, non_int, non_tup, non_bl, t_non, t_bl, t_int, t_tup, t_lst, ixD_tup, ixD_lst, slD_tup, slD_lst, f_lenT, f_lenL, f_tupT, f_tupL, f_lstT, f_lstL, f_int, f_abs, f_max, f_min, f_all, f_any, f_sum, f_sorted, y_int, y_bl, y_non, y_str, y_tup, y_lst, y_obj, k_ii, k_ib, k_it, k_il, k_is, k_tt, k_tl, k_ti, k_tb, k_ll, k_lt, k_bi, k_bb, k_bt, k_bl, k_nt, k_ss, k_st, k_cc, ks_nil, ks_cons, as_int, pg_cells, pg_at, pg_digits, pg_count, pg_fold, ps_at, ps_digits, ps_count, ps_fold, q_tup, q_lst, z_tt, z_ll, ea_obj, er_bl, if_true, if_false, Bool.false_eq_true, Nat.reduceAdd, Nat.reduceSub, Bool.not_true, Bool.not_false, decide_true, decide_false, sz2]
    rfl
  · intro a r hr h1 h2
    have nl : deq (tI a) (D.tup []) = some (decide (a = [])) := by rw [nil_tI, deq_tI]
    by_cases c1 : a = []
    · subst c1
      simp -implicitDefEqProofs only [evFn, evSs, evS, evE, evT, evEs, evAnd, evOr, evAndT, evOrT, evO, evI, evOwn, R.bind_ok, R.of_some, se_d, se_u, se_o, sb_d, sb_u, sb_o, see, seeB, List.map_cons, List.map_nil, List.cons_append, List.nil_append, List.length_cons, List.length_nil, List.replicate_succ, List.replicate_zero, List.getElem?_cons_zero, List.getElem?_cons_succ, List.set_cons_zero, List.set_cons_succ, Option.join_some, Option.map_some, Option.map_none, Option.bind_some, setSl, tgSl, b_add, b_sub, b_mul, b_fdiv, b_mod, b_pow, b_addT, b_addL, b_mulT, b_mulL, deq_ii, deq_bb, c_eq, c_ne, c_lt, c_le, c_gt, c_ge, c_isN, c_isnN, c_isB, c_isnB, i_bl, i_non, i_int, i_str, i_tup, i_lst, non_non, non_int, non_tup, non_bl, t_non, t_bl, t_int, t_tup, t_lst, ixD_tup, ixD_lst, slD_tup, slD_lst, f_lenT, f_lenL, f_tupT, f_tupL, f_lstT, f_lstL, f_int, f_abs, f_max, f_min, f_all, f_any, f_sum, f_sorted, y_int, y_bl, y_non, y_str, y_tup, y_lst, y_obj, k_ii, k_ib, k_it, k_il, k_is, k_tt, k_tl, k_ti, k_tb, k_ll, k_lt, k_bi, k_bb, k_bt, k_bl, k_nt, k_ss, k_st, k_cc, ks_nil, ks_cons, as_int, pg_cells, pg_at, pg_digits, pg_count, pg_fold, ps_at, ps_digits, ps_count, ps_fold, q_tup, q_lst, z_tt, z_ll, ea_obj, er_bl, if_true, if_false, Bool.false_eq_true, Nat.reduceAdd, Nat.reduceSub, Bool.not_true, Bool.not_false, decide_true, decide_false, sz0, nl]
      simp
    · have l1 := ix_last a c1
      have l2 := ix_last r hr
      rw [show decide (a ≠ [] ∧ a.getLastD 0 = r.getLastD 0) = decide (a.getLastD 0 = r.getLastD 0) by simp only [c1, ne_eq, not_false_eq_true, true_and]]
      simp -implicitDefEqProofs only [evFn, evSs, evS, evE, evT, evEs, evAnd, evOr, evAndT, evOrT, evO, evI, evOwn, R.bind_ok, R.of_some, se_d, se_u, se_o, sb_d, sb_u, sb_o, see, seeB, List.map_cons, List.map_nil, List.cons_append, List.nil_append, List.length_cons, List.length_nil, List.replicate_succ, List.replicate_zero, List.getElem?_cons_zero, List.getElem?_cons_succ, List.set_cons_zero, List.set_cons_succ, Option.join_some, Option.map_some, Option.map_none, Option.bind_some, setSl, tgSl, b_add, b_sub, b_mul, b_fdiv, b_mod, b_pow, b_addT, b_addL, b_mulT, b_mulL, deq_ii, deq_bb, c_eq, c_ne, c_lt, c_le, c_gt, c_ge, c_isN, c_isnN, c_isB, c_isnB, i_bl, i_non, i_int, i_str, i_tup, i_lst, non_non, non_int, non_tup, non_bl, t_non, t_bl, t_int, t_tup, t_lst, ixD_tup, ixD_lst, slD_tup, slD_lst, f_lenT, f_lenL, f_tupT, f_tupL, f_lstT, f_lstL, f_int, f_abs, f_max, f_min, f_all, f_any, f_sum, f_sorted, y_int, y_bl, y_non, y_str, y_tup, y_lst, y_obj, k_ii, k_ib, k_it, k_il, k_is, k_tt, k_tl, k_ti, k_tb, k_ll, k_lt, k_bi, k_bb, k_bt, k_bl, k_nt, k_ss, k_st, k_cc, ks_nil, ks_cons, as_int, pg_cells, pg_at, pg_digits, pg_count, pg_fold, ps_at, ps_digits, ps_count, ps_fold, q_tup, q_lst, z_tt, z_ll, ea_obj, er_bl, if_true, if_false, Bool.false_eq_true, Nat.reduceAdd, Nat.reduceSub, Bool.not_true, Bool.not_false, decide_true, decide_false, sz0, nl, c1, as_int, l1, l2]
      by_cases c2 : a.getLastD 0 = r.getLastD 0 <;> simp only [c2, decide_true, decide_false, if_true, if_false, Bool.false_eq_true]
  · intro a r ha hr h1 h2
    have i1 := sl_init a ha
    have i2 := sl_last r hr
    have i3 := sl_init r hr
    have ad : Mi.bin .add (tI [r.getLastD 0]) (tI r.dropLast) = some (tI (turn r)) := by
      rw [add_tI (by rw [List.length_dropLast]; simp; omega)]; rfl
    simp -implicitDefEqProofs only [evFn, evSs, evS, evE, evT, evEs, evAnd, evOr, evAndT, evOrT, evO, evI, evOwn, R.bind_ok, R.of_some, se_d, se_u, se_o, sb_d, sb_u, sb_o, see, seeB, List.map_cons, List.map_nil, List.cons_append, List.nil_append, List.length_cons, List.length_nil, List.replicate_succ, List.replicate_zero, List.getElem?_cons_zero, List.getElem?_cons_succ, List.set_cons_zero, List.set_cons_succ, Option.join_some, Option.map_some, Option.map_none, Option.bind_some, setSl, tgSl, b_add, b_sub, b_mul, b_fdiv, b_mod, b_pow, b_addT, b_addL, b_mulT, b_mulL, deq_ii, deq_bb, c_eq, c_ne, c_lt, c_le, c_gt, c_ge, c_isN, c_isnN, c_isB, c_isnB, i_bl, i_non, i_int, i_str, i_tup, i_lst, non_non, non_int, non_tup, non_bl, t_non, t_bl, t_int, t_tup, t_lst, ixD_tup, ixD_lst, slD_tup, slD_lst, f_lenT, f_lenL, f_tupT, f_tupL, f_lstT, f_lstL, f_int, f_abs, f_max, f_min, f_all, f_any, f_sum, f_sorted, y_int, y_bl, y_non, y_str, y_tup, y_lst, y_obj, k_ii, k_ib, k_it, k_il, k_is, k_tt, k_tl, k_ti, k_tb, k_ll, k_lt, k_bi, k_bb, k_bt, k_bl, k_nt, k_ss, k_st, k_cc, ks_nil, ks_cons, as_int, pg_cells, pg_at, pg_digits, pg_count, pg_fold, ps_at, ps_digits, ps_count, ps_fold, q_tup, q_lst, z_tt, z_ll, ea_obj, er_bl, if_true, if_false, Bool.false_eq_true, Nat.reduceAdd, Nat.reduceSub, Bool.not_true, Bool.not_false, decide_true, decide_false, as_int, i1, i2, i3, ad]
end
end Lk07

set_option Elab.async false
set_option linter.all false
set_option maxRecDepth 100000
set_option maxHeartbeats 1000000
namespace Lk07
open PySem PySem.Spec PyProof.Rows L2 Mi RowP
def optD : Option Nat → D
  | none => .non
  | some k => .int (k : Nat)
def itm (x : Rw) : Nat → Int := item x.1 x.2
def unl (x y : Rw) (n : Nat) : Option Nat := (List.range n).find? fun i => decide (itm x i ≠ itm y i)
def bnd (x y : Rw) : Nat := max x.1.length y.1.length + x.2.length * y.2.length
def rot (r : W) (k : Nat) : W := r.drop k ++ r.take k
def tailF (x : Rw) (n : Nat) : Rw := if n ≤ x.1.length then (x.1.drop n, x.2) else ([], rot x.2 ((n - x.1.length) % x.2.length))
def Sm (x : Rw) : Prop := x.2 ≠ [] ∧ x.1.length ≤ 450 ∧ x.2.length ≤ 450
theorem Good.sm {m : Int} {x : Rw} (h : Good m x) : Sm x := ⟨h.1, by have := h.2.2.2; omega, by have := h.2.2.2; omega⟩
theorem find_rng0 (b : Nat) (f : Nat → Bool) : (rng 0 b).find? (onI f) = ((List.range b).find? f).map fun k => D.int (k : Nat) := by
  have := find_rng 0 b f
  rw [Nat.sub_zero, ← List.range_eq_range'] at this
  exact this
theorem mem_rng0 {b : Nat} {d : D} (h : d ∈ rng 0 b) : ∃ k, k < b ∧ d = .int (k : Nat) := by
  obtain ⟨k, _, h2, h3⟩ := mem_rng (a := 0) h
  exact ⟨k, h2, h3⟩
section
variable {p : PenS}
theorem ix0 (x : Rw) : idx (pr x) (.int 0) = some (tI x.1) := rfl
theorem ix1 (x : Rw) : idx (pr x) (.int 1) = some (tI x.2) := rfl
theorem is_least_by_i {a r : W} (hr : r ≠ []) (ha : a.length ≤ 500) (hl : r.length ≤ 500) : d_is_least_by [tI a, tI r] p = .ok (.bl (decide (least a r = (a, r)))) p := by
  have e : deq (pr (least a r)) (.tup [tI a, tI r]) = some (decide (least a r = (a, r))) := deq_pr _ (a, r)
  unfold d_is_least_by
  simp -implicitDefEqProofs only [evFn, evSs, evS, evE, evT, evEs, evAnd, evOr, evAndT, evOrT, evO, evI, evOwn, R.bind_ok, R.of_some, se_d, se_u, se_o, sb_d, sb_u, sb_o, see, seeB, List.map_cons, List.map_nil, List.cons_append, List.nil_append, List.length_cons, List.length_nil, List.replicate_succ, List.replicate_zero, List.getElem?_cons_zero, List.getElem?_cons_succ, List.set_cons_zero, List.set_cons_succ, Option.join_some, Option.map_some, Option.map_none, Option.bind_some, setSl, tgSl, b_add, b_sub, b_mul, b_fdiv, b_mod, b_pow, b_addT, b_addL, b_mulT, b_mulL, deq_ii, deq_bb, c_eq, c_ne, c_lt, c_le, c_gt, c_ge, c_isN, c_isnN, c_isB, c_isnB, i_bl, i_non, i_int, i_str, i_tup, i_lst, non_non, non_int, non_tup, non_bl, t_non, t_bl, t_int, t_tup, t_lst, ixD_tup, ixD_lst, slD_tup, slD_lst, f_lenT, f_lenL, f_tupT, f_tupL, f_lstT, f_lstL, f_int, f_abs, f_max, f_min, f_all, f_any, f_sum, f_sorted, y_int, y_bl, y_non, y_str, y_tup, y_lst, y_obj, k_ii, k_ib, k_it, k_il, k_is, k_tt, k_tl, k_ti, k_tb, k_ll, k_lt, k_bi, k_bb, k_bt, k_bl, k_nt, k_ss, k_st, k_cc, ks_nil, ks_cons, as_int, pg_cells, pg_at, pg_digits, pg_count, pg_fold, ps_at, ps_digits, ps_count, ps_fold, q_tup, q_lst, z_tt, z_ll, ea_obj, er_bl, if_true, if_false, Bool.false_eq_true, Nat.reduceAdd, Nat.reduceSub, Bool.not_true, Bool.not_false, decide_true, decide_false, ir_is_least_by, s_is_least_by, least_by_i hr ha hl, sz2, e]
theorem fm (a b : Nat) (h : 0 < b) : Int.fmod (a : Int) (b : Int) = ((a % b : Nat) : Int) := by rw [Int.fmod_eq_emod_of_nonneg _ (by omega), Int.natCast_emod]
theorem tail_by_i {x : Rw} (h : Sm x) (n : Nat) : d_tail_by [pr x, .int n] p = .ok (pr (least (tailF x n).1 (tailF x n).2)) p := by
  obtain ⟨hr, h1, h2⟩ := h
  have hp : 0 < x.2.length := List.length_pos_iff.mpr hr
  unfold d_tail_by
  by_cases c : n ≤ x.1.length
  · have c' : ((n : Int) ≤ (x.1.length : Int)) := by omega
    have sd : slc (tI x.1) (some (n : Int)) none = some (tI (x.1.drop n)) := sl_drop _ (by omega)
    have lb := least_by_i (p := p) (a := x.1.drop n) hr (by rw [List.length_drop]; omega) (by omega)
    unfold tailF
    rw [if_pos c]
    unfold pr at *
    simp -implicitDefEqProofs only [evFn, evSs, evS, evE, evT, evEs, evAnd, evOr, evAndT, evOrT, evO, evI, evOwn, R.bind_ok, R.of_some, se_d, se_u, se_o, sb_d, sb_u, sb_o, see, seeB, List.map_cons, List.map_nil, List.cons_append, List.nil_append, List.length_cons, List.length_nil, List.replicate_succ, List.replicate_zero, List.getElem?_cons_zero, List.getElem?_cons_succ, List.set_cons_zero, List.set_cons_succ, Option.join_some, Option.map_some, Option.map_none, Option.bind_some, setSl, tgSl, b_add, b_sub, b_mul, b_fdiv, b_mod, b_pow, b_addT, b_addL, b_mulT, b_mulL, deq_ii, deq_bb, c_eq, c_ne, c_lt, c_le, c_gt, c_ge, c_isN, c_isnN, c_isB, c_isnB, i_bl, i_non, i_int, i_str, i_tup, i_lst, non_non, non_int, non_tup, non_bl, t_non, t_bl, t_int, t_tup, t_lst, ixD_tup, ixD_lst, slD_tup, slD_lst, f_lenT, f_lenL, f_tupT, f_tupL, f_lstT, f_lstL, f_int, f_abs, f_max, f_min, f_all, f_any, f_sum, f_sorted, y_int, y_bl, y_non, y_str, y_tup, y_lst, y_obj, k_ii, k_ib, k_it, k_il, k_is, k_tt, k_tl, k_ti, k_tb, k_ll, k_lt, k_bi, k_bb, k_bt, k_bl, k_nt, k_ss, k_st, k_cc, ks_nil, ks_cons, as_int, pg_cells, pg_at, pg_digits, pg_count, pg_fold, ps_at, ps_digits, ps_count, ps_fold, q_tup, q_lst, z_tt, z_ll, ea_obj, er_bl, if_true, if_false, Bool.false_eq_true, Nat.reduceAdd, Nat.reduceSub, Bool.not_true, Bool.not_false, decide_true, decide_false, ir_tail_by, s_tail_by, len_tI, c', as_int, sd, lb]
  · have c' : ¬ ((n : Int) ≤ (x.1.length : Int)) := by omega
    have ne : ((x.2.length : Int)) ≠ 0 := by omega
    have e : ((n : Int) - (x.1.length : Int)).fmod (x.2.length : Int) = (((n - x.1.length) % x.2.length : Nat) : Int) := by
      rw [show ((n : Int) - (x.1.length : Int)) = ((n - x.1.length : Nat) : Int) by omega, fm _ _ hp]
    have hk := Nat.mod_lt (n - x.1.length) hp
    unfold tailF
    rw [if_neg c]
    generalize (n - x.1.length) % x.2.length = k at e hk
    have sd : slc (tI x.2) (some (k : Int)) none = some (tI (x.2.drop k)) := sl_drop _ (by omega)
    have st : slc (tI x.2) none (some (k : Int)) = some (tI (x.2.take k)) := sl_take _ (by omega)
    have ad : Mi.bin .add (tI (x.2.drop k)) (tI (x.2.take k)) = some (tI (rot x.2 k)) := add_tI (by rw [List.length_drop, List.length_take]; omega)
    have lb := least_by_i (p := p) (a := []) (r := rot x.2 k) (fun z => by
      have := congrArg List.length z
      unfold rot at this; simp at this; omega) (by simp) (by unfold rot; simp; omega)
    have lb : d_least_by [.tup [], tI (rot x.2 k)] p = .ok (pr (least [] (rot x.2 k))) p := lb
    unfold pr at *
    simp -implicitDefEqProofs only [evFn, evSs, evS, evE, evT, evEs, evAnd, evOr, evAndT, evOrT, evO, evI, evOwn, R.bind_ok, R.of_some, se_d, se_u, se_o, sb_d, sb_u, sb_o, see, seeB, List.map_cons, List.map_nil, List.cons_append, List.nil_append, List.length_cons, List.length_nil, List.replicate_succ, List.replicate_zero, List.getElem?_cons_zero, List.getElem?_cons_succ, List.set_cons_zero, List.set_cons_succ, Option.join_some, Option.map_some, Option.map_none, Option.bind_some, setSl, tgSl, b_add, b_sub, b_mul, b_fdiv, b_mod, b_pow, b_addT, b_addL, b_mulT, b_mulL, deq_ii, deq_bb, c_eq, c_ne, c_lt, c_le, c_gt, c_ge, c_isN, c_isnN, c_isB, c_isnB, i_bl, i_non, i_int, i_str, i_tup, i_lst, non_non, non_int, non_tup, non_bl, t_non, t_bl, t_int, t_tup, t_lst, ixD_tup, ixD_lst, slD_tup, slD_lst, f_lenT, f_lenL, f_tupT, f_tupL, f_lstT, f_lstL, f_int, f_abs, f_max, f_min, f_all, f_any, f_sum, f_sorted, y_int, y_bl, y_non, y_str, y_tup, y_lst, y_obj, k_ii, k_ib, k_it, k_il, k_is, k_tt, k_tl, k_ti, k_tb, k_ll, k_lt, k_bi, k_bb, k_bt, k_bl, k_nt, k_ss, k_st, k_cc, ks_nil, ks_cons, as_int, pg_cells, pg_at, pg_digits, pg_count, pg_fold, ps_at, ps_digits, ps_count, ps_fold, q_tup, q_lst, z_tt, z_ll, ea_obj, er_bl, if_true, if_false, Bool.false_eq_true, Nat.reduceAdd, Nat.reduceSub, Bool.not_true, Bool.not_false, decide_true, decide_false, ir_tail_by, s_tail_by, len_tI, c', ne, e, as_int, sd, st, ad, sz0, lb, ne_eq, not_false_eq_true]
theorem law_tail_i {x : Rw} (h : Sm x) (n : Nat) : d__law_tail [pr x, .int n] p = .ok (pr (tailF x n)) p := by
  obtain ⟨hr, h1, h2⟩ := h
  have hp : 0 < x.2.length := List.length_pos_iff.mpr hr
  unfold d__law_tail
  by_cases c : n ≤ x.1.length
  · have c' : ((n : Int) ≤ (x.1.length : Int)) := by omega
    have sd : slc (tI x.1) (some (n : Int)) none = some (tI (x.1.drop n)) := sl_drop _ (by omega)
    unfold tailF
    rw [if_pos c]
    unfold pr
    simp -implicitDefEqProofs only [evFn, evSs, evS, evE, evT, evEs, evAnd, evOr, evAndT, evOrT, evO, evI, evOwn, R.bind_ok, R.of_some, se_d, se_u, se_o, sb_d, sb_u, sb_o, see, seeB, List.map_cons, List.map_nil, List.cons_append, List.nil_append, List.length_cons, List.length_nil, List.replicate_succ, List.replicate_zero, List.getElem?_cons_zero, List.getElem?_cons_succ, List.set_cons_zero, List.set_cons_succ, Option.join_some, Option.map_some, Option.map_none, Option.bind_some, setSl, tgSl, b_add, b_sub, b_mul, b_fdiv, b_mod, b_pow, b_addT, b_addL, b_mulT, b_mulL, deq_ii, deq_bb, c_eq, c_ne, c_lt, c_le, c_gt, c_ge, c_isN, c_isnN, c_isB, c_isnB, i_bl, i_non, i_int, i_str, i_tup, i_lst, non_non, non_int, non_tup, non_bl, t_non, t_bl, t_int, t_tup, t_lst, ixD_tup, ixD_lst, slD_tup, slD_lst, f_lenT, f_lenL, f_tupT, f_tupL, f_lstT, f_lstL, f_int, f_abs, f_max, f_min, f_all, f_any, f_sum, f_sorted, y_int, y_bl, y_non, y_str, y_tup, y_lst, y_obj, k_ii, k_ib, k_it, k_il, k_is, k_tt, k_tl, k_ti, k_tb, k_ll, k_lt, k_bi, k_bb, k_bt, k_bl, k_nt, k_ss, k_st, k_cc, ks_nil, ks_cons, as_int, pg_cells, pg_at, pg_digits, pg_count, pg_fold, ps_at, ps_digits, ps_count, ps_fold, q_tup, q_lst, z_tt, z_ll, ea_obj, er_bl, if_true, if_false, Bool.false_eq_true, Nat.reduceAdd, Nat.reduceSub, Bool.not_true, Bool.not_false, decide_true, decide_false, ir__law_tail, s__law_tail, len_tI, c', as_int, sd, sz2]
  · have c' : ¬ ((n : Int) ≤ (x.1.length : Int)) := by omega
    have ne : ((x.2.length : Int)) ≠ 0 := by omega
    have e : ((n : Int) - (x.1.length : Int)).fmod (x.2.length : Int) = (((n - x.1.length) % x.2.length : Nat) : Int) := by
      rw [show ((n : Int) - (x.1.length : Int)) = ((n - x.1.length : Nat) : Int) by omega, fm _ _ hp]
    have hk := Nat.mod_lt (n - x.1.length) hp
    unfold tailF
    rw [if_neg c]
    generalize (n - x.1.length) % x.2.length = k at e hk
    have sd : slc (tI x.2) (some (k : Int)) none = some (tI (x.2.drop k)) := sl_drop _ (by omega)
    have st : slc (tI x.2) none (some (k : Int)) = some (tI (x.2.take k)) := sl_take _ (by omega)
    have ad : Mi.bin .add (tI (x.2.drop k)) (tI (x.2.take k)) = some (tI (rot x.2 k)) := add_tI (by rw [List.length_drop, List.length_take]; omega)
    unfold pr
    simp -implicitDefEqProofs only [evFn, evSs, evS, evE, evT, evEs, evAnd, evOr, evAndT, evOrT, evO, evI, evOwn, R.bind_ok, R.of_some, se_d, se_u, se_o, sb_d, sb_u, sb_o, see, seeB, List.map_cons, List.map_nil, List.cons_append, List.nil_append, List.length_cons, List.length_nil, List.replicate_succ, List.replicate_zero, List.getElem?_cons_zero, List.getElem?_cons_succ, List.set_cons_zero, List.set_cons_succ, Option.join_some, Option.map_some, Option.map_none, Option.bind_some, setSl, tgSl, b_add, b_sub, b_mul, b_fdiv, b_mod, b_pow, b_addT, b_addL, b_mulT, b_mulL, deq_ii, deq_bb, c_eq, c_ne, c_lt, c_le, c_gt, c_ge, c_isN, c_isnN, c_isB, c_isnB, i_bl, i_non, i_int, i_str, i_tup, i_lst, non_non, non_int, non_tup, non_bl, t_non, t_bl, t_int, t_tup, t_lst, ixD_tup, ixD_lst, slD_tup, slD_lst, f_lenT, f_lenL, f_tupT, f_tupL, f_lstT, f_lstL, f_int, f_abs, f_max, f_min, f_all, f_any, f_sum, f_sorted, y_int, y_bl, y_non, y_str, y_tup, y_lst, y_obj, k_ii, k_ib, k_it, k_il, k_is, k_tt, k_tl, k_ti, k_tb, k_ll, k_lt, k_bi, k_bb, k_bt, k_bl, k_nt, k_ss, k_st, k_cc, ks_nil, ks_cons, as_int, pg_cells, pg_at, pg_digits, pg_count, pg_fold, ps_at, ps_digits, ps_count, ps_fold, q_tup, q_lst, z_tt, z_ll, ea_obj, er_bl, if_true, if_false, Bool.false_eq_true, Nat.reduceAdd, Nat.reduceSub, Bool.not_true, Bool.not_false, decide_true, decide_false, ir__law_tail, s__law_tail, len_tI, c', ne, e, as_int, sd, st, ad, sz0, sz2, ne_eq, not_false_eq_true]
    rfl
/-- the bound as the text has it -/
theorem max_nat (a b : Nat) : (if (b : Int) > (a : Int) then (b : Int) else (a : Int)) = ((max a b : Nat) : Int) := by
  split <;> omega
theorem bnd_le {x y : Rw} (h : Sm x) (k : Sm y) : bnd x y ≤ 300000 := by
  unfold bnd
  have h1 := h.2.1; have h2 := h.2.2; have k1 := k.2.1; have k2 := k.2.2
  have : x.2.length * y.2.length ≤ 450 * 450 := Nat.mul_le_mul h2 k2
  omega
theorem unlike_by_i {x y : Rw} (h : Sm x) (k : Sm y) : d_unlike_by [pr x, pr y] p = .ok (optD (unl x y (bnd x y))) p := by
  have hb := bnd_le h k
  have mo : mulOk (x.2.length : Int) (y.2.length : Int) := mulOk_l ⟨by omega, by have := h.2.2; omega⟩
  have e : ((max x.1.length y.1.length : Nat) : Int) + (x.2.length : Int) * (y.2.length : Int) = ((bnd x y : Nat) : Int) := by unfold bnd; rw [Int.natCast_add, Int.natCast_mul]
  have r1 : rngOf 0 ((bnd x y : Nat) : Int) = some (rng 0 ((bnd x y : Nat) : Int)) := rngOf_ok (by omega) (by omega)
  have fnd := find_rng0 (bnd x y) fun i => decide (itm x i ≠ itm y i)
  unfold d_unlike_by
  simp -implicitDefEqProofs only [evFn, evSs, evS, evE, evT, evEs, evAnd, evOr, evAndT, evOrT, evO, evI, evOwn, R.bind_ok, R.of_some, se_d, se_u, se_o, sb_d, sb_u, sb_o, see, seeB, List.map_cons, List.map_nil, List.cons_append, List.nil_append, List.length_cons, List.length_nil, List.replicate_succ, List.replicate_zero, List.getElem?_cons_zero, List.getElem?_cons_succ, List.set_cons_zero, List.set_cons_succ, Option.join_some, Option.map_some, Option.map_none, Option.bind_some, setSl, tgSl, b_add, b_sub, b_mul, b_fdiv, b_mod, b_pow, b_addT, b_addL, b_mulT, b_mulL, deq_ii, deq_bb, c_eq, c_ne, c_lt, c_le, c_gt, c_ge, c_isN, c_isnN, c_isB, c_isnB, i_bl, i_non, i_int, i_str, i_tup, i_lst, non_non, non_int, non_tup, non_bl, t_non, t_bl, t_int, t_tup, t_lst, ixD_tup, ixD_lst, slD_tup, slD_lst, f_lenT, f_lenL, f_tupT, f_tupL, f_lstT, f_lstL, f_int, f_abs, f_max, f_min, f_all, f_any, f_sum, f_sorted, y_int, y_bl, y_non, y_str, y_tup, y_lst, y_obj, k_ii, k_ib, k_it, k_il, k_is, k_tt, k_tl, k_ti, k_tb, k_ll, k_lt, k_bi, k_bb, k_bt, k_bl, k_nt, k_ss, k_st, k_cc, ks_nil, ks_cons, as_int, pg_cells, pg_at, pg_digits, pg_count, pg_fold, ps_at, ps_digits, ps_count, ps_fold, q_tup, q_lst, z_tt, z_ll, ea_obj, er_bl, if_true, if_false, Bool.false_eq_true, Nat.reduceAdd, Nat.reduceSub, Bool.not_true, Bool.not_false, decide_true, decide_false, ir_unlike_by, s_unlike_by, ix0, ix1, len_tI, mo, max_nat, e, as_int, r1]
  rw [bind_assoc']
  refine loop_find_bind (e := fun z => [.d (pr x), .d (pr y), .d (.int ((bnd x y : Nat) : Int)), z]) (c := onI fun i => decide (itm x i ≠ itm y i)) (v := fun d => d) .u ?_ ?_ ?_
  · intro d hd z
    obtain ⟨i, hi, rfl⟩ := mem_rng0 hd
    by_cases c : itm x i = itm y i
    · simp -implicitDefEqProofs only [evFn, evSs, evS, evE, evT, evEs, evAnd, evOr, evAndT, evOrT, evO, evI, evOwn, R.bind_ok, R.of_some, se_d, se_u, se_o, sb_d, sb_u, sb_o, see, seeB, List.map_cons, List.map_nil, List.cons_append, List.nil_append, List.length_cons, List.length_nil, List.replicate_succ, List.replicate_zero, List.getElem?_cons_zero, List.getElem?_cons_succ, List.set_cons_zero, List.set_cons_succ, Option.join_some, Option.map_some, Option.map_none, Option.bind_some, setSl, tgSl, b_add, b_sub, b_mul, b_fdiv, b_mod, b_pow, b_addT, b_addL, b_mulT, b_mulL, deq_ii, deq_bb, c_eq, c_ne, c_lt, c_le, c_gt, c_ge, c_isN, c_isnN, c_isB, c_isnB, i_bl, i_non, i_int, i_str, i_tup, i_lst, non_non, non_int, non_tup, non_bl, t_non, t_bl, t_int, t_tup, t_lst, ixD_tup, ixD_lst, slD_tup, slD_lst, f_lenT, f_lenL, f_tupT, f_tupL, f_lstT, f_lstL, f_int, f_abs, f_max, f_min, f_all, f_any, f_sum, f_sorted, y_int, y_bl, y_non, y_str, y_tup, y_lst, y_obj, k_ii, k_ib, k_it, k_il, k_is, k_tt, k_tl, k_ti, k_tb, k_ll, k_lt, k_bi, k_bb, k_bt, k_bl, k_nt, k_ss, k_st, k_cc, ks_nil, ks_cons, as_int, pg_cells, pg_at, pg_digits, pg_count, pg_fold, ps_at, ps_digits, ps_count, ps_fold, q_tup, q_lst, z_tt, z_ll, ea_obj, er_bl, if_true, if_false, Bool.false_eq_true, Nat.reduceAdd, Nat.reduceSub, Bool.not_true, Bool.not_false, decide_true, decide_false, item_by_i h.1, item_by_i k.1, onI, Int.toNat_natCast, c, ne_eq, not_true_eq_false]
      have c' : item x.1 x.2 i = item y.1 y.2 i := c
      simp [c']
    · simp -implicitDefEqProofs only [evFn, evSs, evS, evE, evT, evEs, evAnd, evOr, evAndT, evOrT, evO, evI, evOwn, R.bind_ok, R.of_some, se_d, se_u, se_o, sb_d, sb_u, sb_o, see, seeB, List.map_cons, List.map_nil, List.cons_append, List.nil_append, List.length_cons, List.length_nil, List.replicate_succ, List.replicate_zero, List.getElem?_cons_zero, List.getElem?_cons_succ, List.set_cons_zero, List.set_cons_succ, Option.join_some, Option.map_some, Option.map_none, Option.bind_some, setSl, tgSl, b_add, b_sub, b_mul, b_fdiv, b_mod, b_pow, b_addT, b_addL, b_mulT, b_mulL, deq_ii, deq_bb, c_eq, c_ne, c_lt, c_le, c_gt, c_ge, c_isN, c_isnN, c_isB, c_isnB, i_bl, i_non, i_int, i_str, i_tup, i_lst, non_non, non_int, non_tup, non_bl, t_non, t_bl, t_int, t_tup, t_lst, ixD_tup, ixD_lst, slD_tup, slD_lst, f_lenT, f_lenL, f_tupT, f_tupL, f_lstT, f_lstL, f_int, f_abs, f_max, f_min, f_all, f_any, f_sum, f_sorted, y_int, y_bl, y_non, y_str, y_tup, y_lst, y_obj, k_ii, k_ib, k_it, k_il, k_is, k_tt, k_tl, k_ti, k_tb, k_ll, k_lt, k_bi, k_bb, k_bt, k_bl, k_nt, k_ss, k_st, k_cc, ks_nil, ks_cons, as_int, pg_cells, pg_at, pg_digits, pg_count, pg_fold, ps_at, ps_digits, ps_count, ps_fold, q_tup, q_lst, z_tt, z_ll, ea_obj, er_bl, if_true, if_false, Bool.false_eq_true, Nat.reduceAdd, Nat.reduceSub, Bool.not_true, Bool.not_false, decide_true, decide_false, item_by_i h.1, item_by_i k.1, onI, Int.toNat_natCast, c, ne_eq, not_false_eq_true]
      have c' : ¬ item x.1 x.2 i = item y.1 y.2 i := c
      simp [c']
  · intro d hd
    rw [fnd] at hd
    unfold unl
    cases q : (List.range (bnd x y)).find? (fun i => decide (itm x i ≠ itm y i)) with
    | none => rw [q] at hd; cases hd
    | some i => rw [q] at hd; cases hd; rfl
  · intro hd z'
    rw [fnd] at hd
    unfold unl
    cases q : (List.range (bnd x y)).find? (fun i => decide (itm x i ≠ itm y i)) with
    | some i => rw [q] at hd; cases hd
    | none => simp -implicitDefEqProofs only [evFn, evSs, evS, evE, evT, evEs, evAnd, evOr, evAndT, evOrT, evO, evI, evOwn, R.bind_ok, R.of_some, se_d, se_u, se_o, sb_d, sb_u, sb_o, see, seeB, List.map_cons, List.map_nil, List.cons_append, List.nil_append, List.length_cons, List.length_nil, List.replicate_succ, List.replicate_zero, List.getElem?_cons_zero, List.getElem?_cons_succ, List.set_cons_zero, List.set_cons_succ, Option.join_some, Option.map_some, Option.map_none, Option.bind_some, setSl, tgSl, b_add, b_sub, b_mul, b_fdiv, b_mod, b_pow, b_addT, b_addL, b_mulT, b_mulL, deq_ii, deq_bb, c_eq, c_ne, c_lt, c_le, c_gt, c_ge, c_isN, c_isnN, c_isB, c_isnB, i_bl, i_non, i_int, i_str, i_tup, i_lst, non_non, non_int, non_tup, non_bl, t_non, t_bl, t_int, t_tup, t_lst, ixD_tup, ixD_lst, slD_tup, slD_lst, f_lenT, f_lenL, f_tupT, f_tupL, f_lstT, f_lstL, f_int, f_abs, f_max, f_min, f_all, f_any, f_sum, f_sorted, y_int, y_bl, y_non, y_str, y_tup, y_lst, y_obj, k_ii, k_ib, k_it, k_il, k_is, k_tt, k_tl, k_ti, k_tb, k_ll, k_lt, k_bi, k_bb, k_bt, k_bl, k_nt, k_ss, k_st, k_cc, ks_nil, ks_cons, as_int, pg_cells, pg_at, pg_digits, pg_count, pg_fold, ps_at, ps_digits, ps_count, ps_fold, q_tup, q_lst, z_tt, z_ll, ea_obj, er_bl, if_true, if_false, Bool.false_eq_true, Nat.reduceAdd, Nat.reduceSub, Bool.not_true, Bool.not_false, decide_true, decide_false]; rfl
theorem law_first_i {x y : Rw} (h : Sm x) (k : Sm y) : d__law_first [pr x, pr y] p = .ok (optD (unl x y (bnd x y + 1))) p := by
  have hb := bnd_le h k
  have mo : mulOk (x.2.length : Int) (y.2.length : Int) := mulOk_l ⟨by omega, by have := h.2.2; omega⟩
  have e : ((max x.1.length y.1.length : Nat) : Int) + (x.2.length : Int) * (y.2.length : Int) + 1 = ((bnd x y + 1 : Nat) : Int) := by unfold bnd; rw [Int.natCast_add, Int.natCast_add, Int.natCast_mul]; rfl
  have r1 : rngOf 0 ((bnd x y + 1 : Nat) : Int) = some (rng 0 ((bnd x y + 1 : Nat) : Int)) := rngOf_ok (by omega) (by omega)
  have fnd := find_rng0 (bnd x y + 1) fun i => decide (itm x i ≠ itm y i)
  unfold d__law_first
  simp -implicitDefEqProofs only [evFn, evSs, evS, evE, evT, evEs, evAnd, evOr, evAndT, evOrT, evO, evI, evOwn, R.bind_ok, R.of_some, se_d, se_u, se_o, sb_d, sb_u, sb_o, see, seeB, List.map_cons, List.map_nil, List.cons_append, List.nil_append, List.length_cons, List.length_nil, List.replicate_succ, List.replicate_zero, List.getElem?_cons_zero, List.getElem?_cons_succ, List.set_cons_zero, List.set_cons_succ, Option.join_some, Option.map_some, Option.map_none, Option.bind_some, setSl, tgSl, b_add, b_sub, b_mul, b_fdiv, b_mod, b_pow, b_addT, b_addL, b_mulT, b_mulL, deq_ii, deq_bb, c_eq, c_ne, c_lt, c_le, c_gt, c_ge, c_isN, c_isnN, c_isB, c_isnB, i_bl, i_non, i_int, i_str, i_tup, i_lst, non_non, non_int, non_tup, non_bl, t_non, t_bl, t_int, t_tup, t_lst, ixD_tup, ixD_lst, slD_tup, slD_lst, f_lenT, f_lenL, f_tupT, f_tupL, f_lstT, f_lstL, f_int, f_abs, f_max, f_min, f_all, f_any, f_sum, f_sorted, y_int, y_bl, y_non, y_str, y_tup, y_lst, y_obj, k_ii, k_ib, k_it, k_il, k_is, k_tt, k_tl, k_ti, k_tb, k_ll, k_lt, k_bi, k_bb, k_bt, k_bl, k_nt, k_ss, k_st, k_cc, ks_nil, ks_cons, as_int, pg_cells, pg_at, pg_digits, pg_count, pg_fold, ps_at, ps_digits, ps_count, ps_fold, q_tup, q_lst, z_tt, z_ll, ea_obj, er_bl, if_true, if_false, Bool.false_eq_true, Nat.reduceAdd, Nat.reduceSub, Bool.not_true, Bool.not_false, decide_true, decide_false, ir__law_first, s__law_first, ix0, ix1, len_tI, mo, max_nat, e, as_int, r1]
  rw [bind_assoc']
  refine loop_find_bind (e := fun z => [.d (pr x), .d (pr y), z]) (c := onI fun i => decide (itm x i ≠ itm y i)) (v := fun d => d) .u ?_ ?_ ?_
  · intro d hd z
    obtain ⟨i, hi, rfl⟩ := mem_rng0 hd
    by_cases c : itm x i = itm y i
    · simp -implicitDefEqProofs only [evFn, evSs, evS, evE, evT, evEs, evAnd, evOr, evAndT, evOrT, evO, evI, evOwn, R.bind_ok, R.of_some, se_d, se_u, se_o, sb_d, sb_u, sb_o, see, seeB, List.map_cons, List.map_nil, List.cons_append, List.nil_append, List.length_cons, List.length_nil, List.replicate_succ, List.replicate_zero, List.getElem?_cons_zero, List.getElem?_cons_succ, List.set_cons_zero, List.set_cons_succ, Option.join_some, Option.map_some, Option.map_none, Option.bind_some, setSl, tgSl, b_add, b_sub, b_mul, b_fdiv, b_mod, b_pow, b_addT, b_addL, b_mulT, b_mulL, deq_ii, deq_bb, c_eq, c_ne, c_lt, c_le, c_gt, c_ge, c_isN, c_isnN, c_isB, c_isnB, i_bl, i_non, i_int, i_str, i_tup, i_lst, non_non, non_int, non_tup, non_bl, t_non, t_bl, t_int, t_tup, t_lst, ixD_tup, ixD_lst, slD_tup, slD_lst, f_lenT, f_lenL, f_tupT, f_tupL, f_lstT, f_lstL, f_int, f_abs, f_max, f_min, f_all, f_any, f_sum, f_sorted, y_int, y_bl, y_non, y_str, y_tup, y_lst, y_obj, k_ii, k_ib, k_it, k_il, k_is, k_tt, k_tl, k_ti, k_tb, k_ll, k_lt, k_bi, k_bb, k_bt, k_bl, k_nt, k_ss, k_st, k_cc, ks_nil, ks_cons, as_int, pg_cells, pg_at, pg_digits, pg_count, pg_fold, ps_at, ps_digits, ps_count, ps_fold, q_tup, q_lst, z_tt, z_ll, ea_obj, er_bl, if_true, if_false, Bool.false_eq_true, Nat.reduceAdd, Nat.reduceSub, Bool.not_true, Bool.not_false, decide_true, decide_false, law_item_i h.1, law_item_i k.1, onI, Int.toNat_natCast, c, ne_eq, not_true_eq_false]
      have c' : item x.1 x.2 i = item y.1 y.2 i := c
      simp [c']
    · simp -implicitDefEqProofs only [evFn, evSs, evS, evE, evT, evEs, evAnd, evOr, evAndT, evOrT, evO, evI, evOwn, R.bind_ok, R.of_some, se_d, se_u, se_o, sb_d, sb_u, sb_o, see, seeB, List.map_cons, List.map_nil, List.cons_append, List.nil_append, List.length_cons, List.length_nil, List.replicate_succ, List.replicate_zero, List.getElem?_cons_zero, List.getElem?_cons_succ, List.set_cons_zero, List.set_cons_succ, Option.join_some, Option.map_some, Option.map_none, Option.bind_some, setSl, tgSl, b_add, b_sub, b_mul, b_fdiv, b_mod, b_pow, b_addT, b_addL, b_mulT, b_mulL, deq_ii, deq_bb, c_eq, c_ne, c_lt, c_le, c_gt, c_ge, c_isN, c_isnN, c_isB, c_isnB, i_bl, i_non, i_int, i_str, i_tup, i_lst, non_non, non_int, non_tup, non_bl, t_non, t_bl, t_int, t_tup, t_lst, ixD_tup, ixD_lst, slD_tup, slD_lst, f_lenT, f_lenL, f_tupT, f_tupL, f_lstT, f_lstL, f_int, f_abs, f_max, f_min, f_all, f_any, f_sum, f_sorted, y_int, y_bl, y_non, y_str, y_tup, y_lst, y_obj, k_ii, k_ib, k_it, k_il, k_is, k_tt, k_tl, k_ti, k_tb, k_ll, k_lt, k_bi, k_bb, k_bt, k_bl, k_nt, k_ss, k_st, k_cc, ks_nil, ks_cons, as_int, pg_cells, pg_at, pg_digits, pg_count, pg_fold, ps_at, ps_digits, ps_count, ps_fold, q_tup, q_lst, z_tt, z_ll, ea_obj, er_bl, if_true, if_false, Bool.false_eq_true, Nat.reduceAdd, Nat.reduceSub, Bool.not_true, Bool.not_false, decide_true, decide_false, law_item_i h.1, law_item_i k.1, onI, Int.toNat_natCast, c, ne_eq, not_false_eq_true]
      have c' : ¬ item x.1 x.2 i = item y.1 y.2 i := c
      simp [c']
  · intro d hd
    rw [fnd] at hd
    unfold unl
    cases q : (List.range (bnd x y + 1)).find? (fun i => decide (itm x i ≠ itm y i)) with
    | none => rw [q] at hd; cases hd
    | some i => rw [q] at hd; cases hd; rfl
  · intro hd z'
    rw [fnd] at hd
    unfold unl
    cases q : (List.range (bnd x y + 1)).find? (fun i => decide (itm x i ≠ itm y i)) with
    | some i => rw [q] at hd; cases hd
    | none => simp -implicitDefEqProofs only [evFn, evSs, evS, evE, evT, evEs, evAnd, evOr, evAndT, evOrT, evO, evI, evOwn, R.bind_ok, R.of_some, se_d, se_u, se_o, sb_d, sb_u, sb_o, see, seeB, List.map_cons, List.map_nil, List.cons_append, List.nil_append, List.length_cons, List.length_nil, List.replicate_succ, List.replicate_zero, List.getElem?_cons_zero, List.getElem?_cons_succ, List.set_cons_zero, List.set_cons_succ, Option.join_some, Option.map_some, Option.map_none, Option.bind_some, setSl, tgSl, b_add, b_sub, b_mul, b_fdiv, b_mod, b_pow, b_addT, b_addL, b_mulT, b_mulL, deq_ii, deq_bb, c_eq, c_ne, c_lt, c_le, c_gt, c_ge, c_isN, c_isnN, c_isB, c_isnB, i_bl, i_non, i_int, i_str, i_tup, i_lst, non_non, non_int, non_tup, non_bl, t_non, t_bl, t_int, t_tup, t_lst, ixD_tup, ixD_lst, slD_tup, slD_lst, f_lenT, f_lenL, f_tupT, f_tupL, f_lstT, f_lstL, f_int, f_abs, f_max, f_min, f_all, f_any, f_sum, f_sorted, y_int, y_bl, y_non, y_str, y_tup, y_lst, y_obj, k_ii, k_ib, k_it, k_il, k_is, k_tt, k_tl, k_ti, k_tb, k_ll, k_lt, k_bi, k_bb, k_bt, k_bl, k_nt, k_ss, k_st, k_cc, ks_nil, ks_cons, as_int, pg_cells, pg_at, pg_digits, pg_count, pg_fold, ps_at, ps_digits, ps_count, ps_fold, q_tup, q_lst, z_tt, z_ll, ea_obj, er_bl, if_true, if_false, Bool.false_eq_true, Nat.reduceAdd, Nat.reduceSub, Bool.not_true, Bool.not_false, decide_true, decide_false]; rfl
/-- is the one below the other, by a place -/
def below (x y : Rw) : Option Nat → Bool
  | none => false
  | some i => decide (itm x i < itm y i)
theorem is_under_i {x y : Rw} (h : Sm x) (k : Sm y) : d_is_under [pr x, pr y] p = .ok (.bl (below x y (unl x y (bnd x y)))) p := by
  unfold d_is_under
  have u := unlike_by_i (p := p) h k
  cases q : unl x y (bnd x y) with
  | none =>
    rw [q] at u
    have u : d_unlike_by [pr x, pr y] p = .ok .non p := u
    simp -implicitDefEqProofs only [evFn, evSs, evS, evE, evT, evEs, evAnd, evOr, evAndT, evOrT, evO, evI, evOwn, R.bind_ok, R.of_some, se_d, se_u, se_o, sb_d, sb_u, sb_o, see, seeB, List.map_cons, List.map_nil, List.cons_append, List.nil_append, List.length_cons, List.length_nil, List.replicate_succ, List.replicate_zero, List.getElem?_cons_zero, List.getElem?_cons_succ, List.set_cons_zero, List.set_cons_succ, Option.join_some, Option.map_some, Option.map_none, Option.bind_some, setSl, tgSl, b_add, b_sub, b_mul, b_fdiv, b_mod, b_pow, b_addT, b_addL, b_mulT, b_mulL, deq_ii, deq_bb, c_eq, c_ne, c_lt, c_le, c_gt, c_ge, c_isN, c_isnN, c_isB, c_isnB, i_bl, i_non, i_int, i_str, i_tup, i_lst, non_non, non_int, non_tup, non_bl, t_non, t_bl, t_int, t_tup, t_lst, ixD_tup, ixD_lst, slD_tup, slD_lst, f_lenT, f_lenL, f_tupT, f_tupL, f_lstT, f_lstL, f_int, f_abs, f_max, f_min, f_all, f_any, f_sum, f_sorted, y_int, y_bl, y_non, y_str, y_tup, y_lst, y_obj, k_ii, k_ib, k_it, k_il, k_is, k_tt, k_tl, k_ti, k_tb, k_ll, k_lt, k_bi, k_bb, k_bt, k_bl, k_nt, k_ss, k_st, k_cc, ks_nil, ks_cons, as_int, pg_cells, pg_at, pg_digits, pg_count, pg_fold, ps_at, ps_digits, ps_count, ps_fold, q_tup, q_lst, z_tt, z_ll, ea_obj, er_bl, if_true, if_false, Bool.false_eq_true, Nat.reduceAdd, Nat.reduceSub, Bool.not_true, Bool.not_false, decide_true, decide_false, ir_is_under, s_is_under, u]
    rfl
  | some i =>
    rw [q] at u
    have u : d_unlike_by [pr x, pr y] p = .ok (.int (i : Nat)) p := u
    simp -implicitDefEqProofs only [evFn, evSs, evS, evE, evT, evEs, evAnd, evOr, evAndT, evOrT, evO, evI, evOwn, R.bind_ok, R.of_some, se_d, se_u, se_o, sb_d, sb_u, sb_o, see, seeB, List.map_cons, List.map_nil, List.cons_append, List.nil_append, List.length_cons, List.length_nil, List.replicate_succ, List.replicate_zero, List.getElem?_cons_zero, List.getElem?_cons_succ, List.set_cons_zero, List.set_cons_succ, Option.join_some, Option.map_some, Option.map_none, Option.bind_some, setSl, tgSl, b_add, b_sub, b_mul, b_fdiv, b_mod, b_pow, b_addT, b_addL, b_mulT, b_mulL, deq_ii, deq_bb, c_eq, c_ne, c_lt, c_le, c_gt, c_ge, c_isN, c_isnN, c_isB, c_isnB, i_bl, i_non, i_int, i_str, i_tup, i_lst, non_non, non_int, non_tup, non_bl, t_non, t_bl, t_int, t_tup, t_lst, ixD_tup, ixD_lst, slD_tup, slD_lst, f_lenT, f_lenL, f_tupT, f_tupL, f_lstT, f_lstL, f_int, f_abs, f_max, f_min, f_all, f_any, f_sum, f_sorted, y_int, y_bl, y_non, y_str, y_tup, y_lst, y_obj, k_ii, k_ib, k_it, k_il, k_is, k_tt, k_tl, k_ti, k_tb, k_ll, k_lt, k_bi, k_bb, k_bt, k_bl, k_nt, k_ss, k_st, k_cc, ks_nil, ks_cons, as_int, pg_cells, pg_at, pg_digits, pg_count, pg_fold, ps_at, ps_digits, ps_count, ps_fold, q_tup, q_lst, z_tt, z_ll, ea_obj, er_bl, if_true, if_false, Bool.false_eq_true, Nat.reduceAdd, Nat.reduceSub, Bool.not_true, Bool.not_false, decide_true, decide_false, ir_is_under, s_is_under, u, item_by_i h.1, item_by_i k.1]
    rfl
theorem tup_of {xs : W} : seqOf (tI xs) = some (xs.map D.int) := rfl
theorem map_fm {xs : W} {f : Int → Int} : (xs.map D.int).filterMap (fun d => match d with | .int v => some (D.int (f v)) | _ => none) = (xs.map f).map D.int := by
  induction xs with
  | nil => rfl
  | cons x xs ih => simp only [List.map_cons, List.filterMap_cons, ih]
theorem turned_by_i {x : Rw} (h : Sm x) (m : Int) : d_turned_by [pr x, .int m] p = .ok (pr (x.1.map (m - ·), x.2.map (m - ·))) p := by
  have l1 : (x.1.map D.int).length ≤ sizeLine := by rw [List.length_map]; exact len_line (by have := h.2.1; omega)
  have l2 : (x.2.map D.int).length ≤ sizeLine := by rw [List.length_map]; exact len_line (by have := h.2.2; omega)
  unfold d_turned_by
  simp -implicitDefEqProofs only [evFn, evSs, evS, evE, evT, evEs, evAnd, evOr, evAndT, evOrT, evO, evI, evOwn, R.bind_ok, R.of_some, se_d, se_u, se_o, sb_d, sb_u, sb_o, see, seeB, List.map_cons, List.map_nil, List.cons_append, List.nil_append, List.length_cons, List.length_nil, List.replicate_succ, List.replicate_zero, List.getElem?_cons_zero, List.getElem?_cons_succ, List.set_cons_zero, List.set_cons_succ, Option.join_some, Option.map_some, Option.map_none, Option.bind_some, setSl, tgSl, b_add, b_sub, b_mul, b_fdiv, b_mod, b_pow, b_addT, b_addL, b_mulT, b_mulL, deq_ii, deq_bb, c_eq, c_ne, c_lt, c_le, c_gt, c_ge, c_isN, c_isnN, c_isB, c_isnB, i_bl, i_non, i_int, i_str, i_tup, i_lst, non_non, non_int, non_tup, non_bl, t_non, t_bl, t_int, t_tup, t_lst, ixD_tup, ixD_lst, slD_tup, slD_lst, f_lenT, f_lenL, f_tupT, f_tupL, f_lstT, f_lstL, f_int, f_abs, f_max, f_min, f_all, f_any, f_sum, f_sorted, y_int, y_bl, y_non, y_str, y_tup, y_lst, y_obj, k_ii, k_ib, k_it, k_il, k_is, k_tt, k_tl, k_ti, k_tb, k_ll, k_lt, k_bi, k_bb, k_bt, k_bl, k_nt, k_ss, k_st, k_cc, ks_nil, ks_cons, as_int, pg_cells, pg_at, pg_digits, pg_count, pg_fold, ps_at, ps_digits, ps_count, ps_fold, q_tup, q_lst, z_tt, z_ll, ea_obj, er_bl, if_true, if_false, Bool.false_eq_true, Nat.reduceAdd, Nat.reduceSub, Bool.not_true, Bool.not_false, decide_true, decide_false, ir_turned_by, s_turned_by, ix0, ix1, tup_of, l1, l2, wipeD, asgTg]
  have cf : ∀ (xs : W) (k : List D → PenS → R D) (f : D → PenS → R (Option D)), (∀ d ∈ xs.map D.int, f d p = .ok (match d with | .int v => some (.int (m - v)) | _ => none) p) → (compLoop (fun d p => (f d p).calm) (xs.map D.int) p).bind k = k ((xs.map (m - ·)).map D.int) p := by
    intro xs k f hf
    rw [compF hf, map_fm]
  rw [bind_assoc', cf x.1]
  · simp -implicitDefEqProofs only [evFn, evSs, evS, evE, evT, evEs, evAnd, evOr, evAndT, evOrT, evO, evI, evOwn, R.bind_ok, R.of_some, se_d, se_u, se_o, sb_d, sb_u, sb_o, see, seeB, List.map_cons, List.map_nil, List.cons_append, List.nil_append, List.length_cons, List.length_nil, List.replicate_succ, List.replicate_zero, List.getElem?_cons_zero, List.getElem?_cons_succ, List.set_cons_zero, List.set_cons_succ, Option.join_some, Option.map_some, Option.map_none, Option.bind_some, setSl, tgSl, b_add, b_sub, b_mul, b_fdiv, b_mod, b_pow, b_addT, b_addL, b_mulT, b_mulL, deq_ii, deq_bb, c_eq, c_ne, c_lt, c_le, c_gt, c_ge, c_isN, c_isnN, c_isB, c_isnB, i_bl, i_non, i_int, i_str, i_tup, i_lst, non_non, non_int, non_tup, non_bl, t_non, t_bl, t_int, t_tup, t_lst, ixD_tup, ixD_lst, slD_tup, slD_lst, f_lenT, f_lenL, f_tupT, f_tupL, f_lstT, f_lstL, f_int, f_abs, f_max, f_min, f_all, f_any, f_sum, f_sorted, y_int, y_bl, y_non, y_str, y_tup, y_lst, y_obj, k_ii, k_ib, k_it, k_il, k_is, k_tt, k_tl, k_ti, k_tb, k_ll, k_lt, k_bi, k_bb, k_bt, k_bl, k_nt, k_ss, k_st, k_cc, ks_nil, ks_cons, as_int, pg_cells, pg_at, pg_digits, pg_count, pg_fold, ps_at, ps_digits, ps_count, ps_fold, q_tup, q_lst, z_tt, z_ll, ea_obj, er_bl, if_true, if_false, Bool.false_eq_true, Nat.reduceAdd, Nat.reduceSub, Bool.not_true, Bool.not_false, decide_true, decide_false]
    rw [cf x.2]
    · simp -implicitDefEqProofs only [evFn, evSs, evS, evE, evT, evEs, evAnd, evOr, evAndT, evOrT, evO, evI, evOwn, R.bind_ok, R.of_some, se_d, se_u, se_o, sb_d, sb_u, sb_o, see, seeB, List.map_cons, List.map_nil, List.cons_append, List.nil_append, List.length_cons, List.length_nil, List.replicate_succ, List.replicate_zero, List.getElem?_cons_zero, List.getElem?_cons_succ, List.set_cons_zero, List.set_cons_succ, Option.join_some, Option.map_some, Option.map_none, Option.bind_some, setSl, tgSl, b_add, b_sub, b_mul, b_fdiv, b_mod, b_pow, b_addT, b_addL, b_mulT, b_mulL, deq_ii, deq_bb, c_eq, c_ne, c_lt, c_le, c_gt, c_ge, c_isN, c_isnN, c_isB, c_isnB, i_bl, i_non, i_int, i_str, i_tup, i_lst, non_non, non_int, non_tup, non_bl, t_non, t_bl, t_int, t_tup, t_lst, ixD_tup, ixD_lst, slD_tup, slD_lst, f_lenT, f_lenL, f_tupT, f_tupL, f_lstT, f_lstL, f_int, f_abs, f_max, f_min, f_all, f_any, f_sum, f_sorted, y_int, y_bl, y_non, y_str, y_tup, y_lst, y_obj, k_ii, k_ib, k_it, k_il, k_is, k_tt, k_tl, k_ti, k_tb, k_ll, k_lt, k_bi, k_bb, k_bt, k_bl, k_nt, k_ss, k_st, k_cc, ks_nil, ks_cons, as_int, pg_cells, pg_at, pg_digits, pg_count, pg_fold, ps_at, ps_digits, ps_count, ps_fold, q_tup, q_lst, z_tt, z_ll, ea_obj, er_bl, if_true, if_false, Bool.false_eq_true, Nat.reduceAdd, Nat.reduceSub, Bool.not_true, Bool.not_false, decide_true, decide_false, sz2]; rfl
    · intro d hd
      obtain ⟨v, _, rfl⟩ := List.mem_map.mp hd
      simp -implicitDefEqProofs only [evFn, evSs, evS, evE, evT, evEs, evAnd, evOr, evAndT, evOrT, evO, evI, evOwn, R.bind_ok, R.of_some, se_d, se_u, se_o, sb_d, sb_u, sb_o, see, seeB, List.map_cons, List.map_nil, List.cons_append, List.nil_append, List.length_cons, List.length_nil, List.replicate_succ, List.replicate_zero, List.getElem?_cons_zero, List.getElem?_cons_succ, List.set_cons_zero, List.set_cons_succ, Option.join_some, Option.map_some, Option.map_none, Option.bind_some, setSl, tgSl, b_add, b_sub, b_mul, b_fdiv, b_mod, b_pow, b_addT, b_addL, b_mulT, b_mulL, deq_ii, deq_bb, c_eq, c_ne, c_lt, c_le, c_gt, c_ge, c_isN, c_isnN, c_isB, c_isnB, i_bl, i_non, i_int, i_str, i_tup, i_lst, non_non, non_int, non_tup, non_bl, t_non, t_bl, t_int, t_tup, t_lst, ixD_tup, ixD_lst, slD_tup, slD_lst, f_lenT, f_lenL, f_tupT, f_tupL, f_lstT, f_lstL, f_int, f_abs, f_max, f_min, f_all, f_any, f_sum, f_sorted, y_int, y_bl, y_non, y_str, y_tup, y_lst, y_obj, k_ii, k_ib, k_it, k_il, k_is, k_tt, k_tl, k_ti, k_tb, k_ll, k_lt, k_bi, k_bb, k_bt, k_bl, k_nt, k_ss, k_st, k_cc, ks_nil, ks_cons, as_int, pg_cells, pg_at, pg_digits, pg_count, pg_fold, ps_at, ps_digits, ps_count, ps_fold, q_tup, q_lst, z_tt, z_ll, ea_obj, er_bl, if_true, if_false, Bool.false_eq_true, Nat.reduceAdd, Nat.reduceSub, Bool.not_true, Bool.not_false, decide_true, decide_false]
  · intro d hd
    obtain ⟨v, _, rfl⟩ := List.mem_map.mp hd
    simp -implicitDefEqProofs only [evFn, evSs, evS, evE, evT, evEs, evAnd, evOr, evAndT, evOrT, evO, evI, evOwn, R.bind_ok, R.of_some, se_d, se_u, se_o, sb_d, sb_u, sb_o, see, seeB, List.map_cons, List.map_nil, List.cons_append, List.nil_append, List.length_cons, List.length_nil, List.replicate_succ, List.replicate_zero, List.getElem?_cons_zero, List.getElem?_cons_succ, List.set_cons_zero, List.set_cons_succ, Option.join_some, Option.map_some, Option.map_none, Option.bind_some, setSl, tgSl, b_add, b_sub, b_mul, b_fdiv, b_mod, b_pow, b_addT, b_addL, b_mulT, b_mulL, deq_ii, deq_bb, c_eq, c_ne, c_lt, c_le, c_gt, c_ge, c_isN, c_isnN, c_isB, c_isnB, i_bl, i_non, i_int, i_str, i_tup, i_lst, non_non, non_int, non_tup, non_bl, t_non, t_bl, t_int, t_tup, t_lst, ixD_tup, ixD_lst, slD_tup, slD_lst, f_lenT, f_lenL, f_tupT, f_tupL, f_lstT, f_lstL, f_int, f_abs, f_max, f_min, f_all, f_any, f_sum, f_sorted, y_int, y_bl, y_non, y_str, y_tup, y_lst, y_obj, k_ii, k_ib, k_it, k_il, k_is, k_tt, k_tl, k_ti, k_tb, k_ll, k_lt, k_bi, k_bb, k_bt, k_bl, k_nt, k_ss, k_st, k_cc, ks_nil, ks_cons, as_int, pg_cells, pg_at, pg_digits, pg_count, pg_fold, ps_at, ps_digits, ps_count, ps_fold, q_tup, q_lst, z_tt, z_ll, ea_obj, er_bl, if_true, if_false, Bool.false_eq_true, Nat.reduceAdd, Nat.reduceSub, Bool.not_true, Bool.not_false, decide_true, decide_false]
end
end Lk07

set_option Elab.async false
set_option linter.all false
set_option maxRecDepth 100000
set_option maxHeartbeats 1000000
namespace Lk07
open PySem PySem.Spec PyProof.Rows L2 Mi RowP
section
variable {p : PenS}
theorem is2_int (a b : Int) : d__law_is_2 [.int a, .int b] p = .ok (.bl (decide (a = b))) p := by
  unfold d__law_is_2; simp -implicitDefEqProofs only [evFn, evSs, evS, evE, evT, evEs, evAnd, evOr, evAndT, evOrT, evO, evI, evOwn, R.bind_ok, R.of_some, se_d, se_u, se_o, sb_d, sb_u, sb_o, see, seeB, List.map_cons, List.map_nil, List.cons_append, List.nil_append, List.length_cons, List.length_nil, List.replicate_succ, List.replicate_zero, List.getElem?_cons_zero, List.getElem?_cons_succ, List.set_cons_zero, List.set_cons_succ, Option.join_some, Option.map_some, Option.map_none, Option.bind_some, setSl, tgSl, b_add, b_sub, b_mul, b_fdiv, b_mod, b_pow, b_addT, b_addL, b_mulT, b_mulL, deq_ii, deq_bb, c_eq, c_ne, c_lt, c_le, c_gt, c_ge, c_isN, c_isnN, c_isB, c_isnB, i_bl, i_non, i_int, i_str, i_tup, i_lst, non_non, non_int, non_tup, non_bl, t_non, t_bl, t_int, t_tup, t_lst, ixD_tup, ixD_lst, slD_tup, slD_lst, f_lenT, f_lenL, f_tupT, f_tupL, f_lstT, f_lstL, f_int, f_abs, f_max, f_min, f_all, f_any, f_sum, f_sorted, y_int, y_bl, y_non, y_str, y_tup, y_lst, y_obj, k_ii, k_ib, k_it, k_il, k_is, k_tt, k_tl, k_ti, k_tb, k_ll, k_lt, k_bi, k_bb, k_bt, k_bl, k_nt, k_ss, k_st, k_cc, ks_nil, ks_cons, as_int, pg_cells, pg_at, pg_digits, pg_count, pg_fold, ps_at, ps_digits, ps_count, ps_fold, q_tup, q_lst, z_tt, z_ll, ea_obj, er_bl, if_true, if_false, Bool.false_eq_true, Nat.reduceAdd, Nat.reduceSub, Bool.not_true, Bool.not_false, decide_true, decide_false, ir__law_is_2]
theorem is4_int (a b : Int) : d__law_is_4 [.int a, .int b] p = .ok (.bl (decide (a = b))) p := by
  unfold d__law_is_4; simp -implicitDefEqProofs only [evFn, evSs, evS, evE, evT, evEs, evAnd, evOr, evAndT, evOrT, evO, evI, evOwn, R.bind_ok, R.of_some, se_d, se_u, se_o, sb_d, sb_u, sb_o, see, seeB, List.map_cons, List.map_nil, List.cons_append, List.nil_append, List.length_cons, List.length_nil, List.replicate_succ, List.replicate_zero, List.getElem?_cons_zero, List.getElem?_cons_succ, List.set_cons_zero, List.set_cons_succ, Option.join_some, Option.map_some, Option.map_none, Option.bind_some, setSl, tgSl, b_add, b_sub, b_mul, b_fdiv, b_mod, b_pow, b_addT, b_addL, b_mulT, b_mulL, deq_ii, deq_bb, c_eq, c_ne, c_lt, c_le, c_gt, c_ge, c_isN, c_isnN, c_isB, c_isnB, i_bl, i_non, i_int, i_str, i_tup, i_lst, non_non, non_int, non_tup, non_bl, t_non, t_bl, t_int, t_tup, t_lst, ixD_tup, ixD_lst, slD_tup, slD_lst, f_lenT, f_lenL, f_tupT, f_tupL, f_lstT, f_lstL, f_int, f_abs, f_max, f_min, f_all, f_any, f_sum, f_sorted, y_int, y_bl, y_non, y_str, y_tup, y_lst, y_obj, k_ii, k_ib, k_it, k_il, k_is, k_tt, k_tl, k_ti, k_tb, k_ll, k_lt, k_bi, k_bb, k_bt, k_bl, k_nt, k_ss, k_st, k_cc, ks_nil, ks_cons, as_int, pg_cells, pg_at, pg_digits, pg_count, pg_fold, ps_at, ps_digits, ps_count, ps_fold, q_tup, q_lst, z_tt, z_ll, ea_obj, er_bl, if_true, if_false, Bool.false_eq_true, Nat.reduceAdd, Nat.reduceSub, Bool.not_true, Bool.not_false, decide_true, decide_false, ir__law_is_4]
theorem is4_non : d__law_is_4 [.non, .non] p = .ok (.bl true) p := by
  unfold d__law_is_4
  simp -implicitDefEqProofs only [evFn, evSs, evS, evE, evT, evEs, evAnd, evOr, evAndT, evOrT, evO, evI, evOwn, R.bind_ok, R.of_some, se_d, se_u, se_o, sb_d, sb_u, sb_o, see, seeB, List.map_cons, List.map_nil, List.cons_append, List.nil_append, List.length_cons, List.length_nil, List.replicate_succ, List.replicate_zero, List.getElem?_cons_zero, List.getElem?_cons_succ, List.set_cons_zero, List.set_cons_succ, Option.join_some, Option.map_some, Option.map_none, Option.bind_some, setSl, tgSl, b_add, b_sub, b_mul, b_fdiv, b_mod, b_pow, b_addT, b_addL, b_mulT, b_mulL, deq_ii, deq_bb, c_eq, c_ne, c_lt, c_le, c_gt, c_ge, c_isN, c_isnN, c_isB, c_isnB, i_bl, i_non, i_int, i_str, i_tup, i_lst, non_non, non_int, non_tup, non_bl, t_non, t_bl, t_int, t_tup, t_lst, ixD_tup, ixD_lst, slD_tup, slD_lst, f_lenT, f_lenL, f_tupT, f_tupL, f_lstT, f_lstL, f_int, f_abs, f_max, f_min, f_all, f_any, f_sum, f_sorted, y_int, y_bl, y_non, y_str, y_tup, y_lst, y_obj, k_ii, k_ib, k_it, k_il, k_is, k_tt, k_tl, k_ti, k_tb, k_ll, k_lt, k_bi, k_bb, k_bt, k_bl, k_nt, k_ss, k_st, k_cc, ks_nil, ks_cons, as_int, pg_cells, pg_at, pg_digits, pg_count, pg_fold, ps_at, ps_digits, ps_count, ps_fold, q_tup, q_lst, z_tt, z_ll, ea_obj, er_bl, if_true, if_false, Bool.false_eq_true, Nat.reduceAdd, Nat.reduceSub, Bool.not_true, Bool.not_false, decide_true, decide_false, ir__law_is_4, k_nt]
theorem is4_opt (o : Option Nat) : d__law_is_4 [optD o, optD o] p = .ok (.bl true) p := by
  cases o with
  | none => exact is4_non
  | some k => show d__law_is_4 [.int k, .int k] p = _; rw [is4_int]; simp
theorem nil_lst : deq (.lst []) (.lst []) = some true := by
  unfold deq
  rw [if_pos (by decide)]
  rfl
theorem ix_tI (xs : W) {k : Nat} (h : k < xs.length) : idx (tI xs) (.int (k : Nat)) = some (.int (xs.getD k 0)) := by
  unfold tI; rw [ixD_tup, at_get _ (by omega) (by omega)]; rfl
theorem is3_tI {xs : W} (h : xs.length ≤ 1000) : d__law_is_3 [tI xs, tI xs] p = .ok (.bl true) p := by
  have r1 : rngOf 0 (xs.length : Int) = some (rng 0 (xs.length : Int)) := rngOf_ok (by omega) (by omega)
  have hl : (rng 0 (xs.length : Int)).length ≤ sizeLine := by rw [rng_length]; exact len_line (by omega)
  have yt : tyD (tI xs) = some (.b "tuple") := rfl
  unfold d__law_is_3
  simp -implicitDefEqProofs only [evFn, evSs, evS, evE, evT, evEs, evAnd, evOr, evAndT, evOrT, evO, evI, evOwn, R.bind_ok, R.of_some, se_d, se_u, se_o, sb_d, sb_u, sb_o, see, seeB, List.map_cons, List.map_nil, List.cons_append, List.nil_append, List.length_cons, List.length_nil, List.replicate_succ, List.replicate_zero, List.getElem?_cons_zero, List.getElem?_cons_succ, List.set_cons_zero, List.set_cons_succ, Option.join_some, Option.map_some, Option.map_none, Option.bind_some, setSl, tgSl, b_add, b_sub, b_mul, b_fdiv, b_mod, b_pow, b_addT, b_addL, b_mulT, b_mulL, deq_ii, deq_bb, c_eq, c_ne, c_lt, c_le, c_gt, c_ge, c_isN, c_isnN, c_isB, c_isnB, i_bl, i_non, i_int, i_str, i_tup, i_lst, non_non, non_int, non_tup, non_bl, t_non, t_bl, t_int, t_tup, t_lst, ixD_tup, ixD_lst, slD_tup, slD_lst, f_lenT, f_lenL, f_tupT, f_tupL, f_lstT, f_lstL, f_int, f_abs, f_max, f_min, f_all, f_any, f_sum, f_sorted, y_int, y_bl, y_non, y_str, y_tup, y_lst, y_obj, k_ii, k_ib, k_it, k_il, k_is, k_tt, k_tl, k_ti, k_tb, k_ll, k_lt, k_bi, k_bb, k_bt, k_bl, k_nt, k_ss, k_st, k_cc, ks_nil, ks_cons, as_int, pg_cells, pg_at, pg_digits, pg_count, pg_fold, ps_at, ps_digits, ps_count, ps_fold, q_tup, q_lst, z_tt, z_ll, ea_obj, er_bl, if_true, if_false, Bool.false_eq_true, Nat.reduceAdd, Nat.reduceSub, Bool.not_true, Bool.not_false, decide_true, decide_false, ir__law_is_3, s__law_is_3, yt, len_tI, as_int, r1, hl, wipeD, asgTg]
  rw [bind_assoc', compF (g := fun _ => none)]
  · simp -implicitDefEqProofs only [evFn, evSs, evS, evE, evT, evEs, evAnd, evOr, evAndT, evOrT, evO, evI, evOwn, R.bind_ok, R.of_some, se_d, se_u, se_o, sb_d, sb_u, sb_o, see, seeB, List.map_cons, List.map_nil, List.cons_append, List.nil_append, List.length_cons, List.length_nil, List.replicate_succ, List.replicate_zero, List.getElem?_cons_zero, List.getElem?_cons_succ, List.set_cons_zero, List.set_cons_succ, Option.join_some, Option.map_some, Option.map_none, Option.bind_some, setSl, tgSl, b_add, b_sub, b_mul, b_fdiv, b_mod, b_pow, b_addT, b_addL, b_mulT, b_mulL, deq_ii, deq_bb, c_eq, c_ne, c_lt, c_le, c_gt, c_ge, c_isN, c_isnN, c_isB, c_isnB, i_bl, i_non, i_int, i_str, i_tup, i_lst, non_non, non_int, non_tup, non_bl, t_non, t_bl, t_int, t_tup, t_lst, ixD_tup, ixD_lst, slD_tup, slD_lst, f_lenT, f_lenL, f_tupT, f_tupL, f_lstT, f_lstL, f_int, f_abs, f_max, f_min, f_all, f_any, f_sum, f_sorted, y_int, y_bl, y_non, y_str, y_tup, y_lst, y_obj, k_ii, k_ib, k_it, k_il, k_is, k_tt, k_tl, k_ti, k_tb, k_ll, k_lt, k_bi, k_bb, k_bt, k_bl, k_nt, k_ss, k_st, k_cc, ks_nil, ks_cons, as_int, pg_cells, pg_at, pg_digits, pg_count, pg_fold, ps_at, ps_digits, ps_count, ps_fold, q_tup, q_lst, z_tt, z_ll, ea_obj, er_bl, if_true, if_false, Bool.false_eq_true, Nat.reduceAdd, Nat.reduceSub, Bool.not_true, Bool.not_false, decide_true, decide_false, sz0]
    rw [show (rng 0 (xs.length : Int)).filterMap (fun _ => (none : Option D)) = [] by simp]
    simp -implicitDefEqProofs only [evFn, evSs, evS, evE, evT, evEs, evAnd, evOr, evAndT, evOrT, evO, evI, evOwn, R.bind_ok, R.of_some, se_d, se_u, se_o, sb_d, sb_u, sb_o, see, seeB, List.map_cons, List.map_nil, List.cons_append, List.nil_append, List.length_cons, List.length_nil, List.replicate_succ, List.replicate_zero, List.getElem?_cons_zero, List.getElem?_cons_succ, List.set_cons_zero, List.set_cons_succ, Option.join_some, Option.map_some, Option.map_none, Option.bind_some, setSl, tgSl, b_add, b_sub, b_mul, b_fdiv, b_mod, b_pow, b_addT, b_addL, b_mulT, b_mulL, deq_ii, deq_bb, c_eq, c_ne, c_lt, c_le, c_gt, c_ge, c_isN, c_isnN, c_isB, c_isnB, i_bl, i_non, i_int, i_str, i_tup, i_lst, non_non, non_int, non_tup, non_bl, t_non, t_bl, t_int, t_tup, t_lst, ixD_tup, ixD_lst, slD_tup, slD_lst, f_lenT, f_lenL, f_tupT, f_tupL, f_lstT, f_lstL, f_int, f_abs, f_max, f_min, f_all, f_any, f_sum, f_sorted, y_int, y_bl, y_non, y_str, y_tup, y_lst, y_obj, k_ii, k_ib, k_it, k_il, k_is, k_tt, k_tl, k_ti, k_tb, k_ll, k_lt, k_bi, k_bb, k_bt, k_bl, k_nt, k_ss, k_st, k_cc, ks_nil, ks_cons, as_int, pg_cells, pg_at, pg_digits, pg_count, pg_fold, ps_at, ps_digits, ps_count, ps_fold, q_tup, q_lst, z_tt, z_ll, ea_obj, er_bl, if_true, if_false, Bool.false_eq_true, Nat.reduceAdd, Nat.reduceSub, Bool.not_true, Bool.not_false, decide_true, decide_false, nil_lst]
  · intro d hd
    obtain ⟨k, hk, rfl⟩ := mem_rng0 hd
    simp -implicitDefEqProofs only [evFn, evSs, evS, evE, evT, evEs, evAnd, evOr, evAndT, evOrT, evO, evI, evOwn, R.bind_ok, R.of_some, se_d, se_u, se_o, sb_d, sb_u, sb_o, see, seeB, List.map_cons, List.map_nil, List.cons_append, List.nil_append, List.length_cons, List.length_nil, List.replicate_succ, List.replicate_zero, List.getElem?_cons_zero, List.getElem?_cons_succ, List.set_cons_zero, List.set_cons_succ, Option.join_some, Option.map_some, Option.map_none, Option.bind_some, setSl, tgSl, b_add, b_sub, b_mul, b_fdiv, b_mod, b_pow, b_addT, b_addL, b_mulT, b_mulL, deq_ii, deq_bb, c_eq, c_ne, c_lt, c_le, c_gt, c_ge, c_isN, c_isnN, c_isB, c_isnB, i_bl, i_non, i_int, i_str, i_tup, i_lst, non_non, non_int, non_tup, non_bl, t_non, t_bl, t_int, t_tup, t_lst, ixD_tup, ixD_lst, slD_tup, slD_lst, f_lenT, f_lenL, f_tupT, f_tupL, f_lstT, f_lstL, f_int, f_abs, f_max, f_min, f_all, f_any, f_sum, f_sorted, y_int, y_bl, y_non, y_str, y_tup, y_lst, y_obj, k_ii, k_ib, k_it, k_il, k_is, k_tt, k_tl, k_ti, k_tb, k_ll, k_lt, k_bi, k_bb, k_bt, k_bl, k_nt, k_ss, k_st, k_cc, ks_nil, ks_cons, as_int, pg_cells, pg_at, pg_digits, pg_count, pg_fold, ps_at, ps_digits, ps_count, ps_fold, q_tup, q_lst, z_tt, z_ll, ea_obj, er_bl, if_true, if_false, Bool.false_eq_true, Nat.reduceAdd, Nat.reduceSub, Bool.not_true, Bool.not_false, decide_true, decide_false, ix_tI xs hk, is2_int]
theorem is4_pr {x : Rw} (h1 : x.1.length ≤ 1000) (h2 : x.2.length ≤ 1000) : d__law_is_4 [pr x, pr x] p = .ok (.bl true) p := by
  have r1 : rngOf 0 2 = some (rng 0 2) := rngOf_ok (by omega) (by omega)
  have hl : (rng 0 2).length ≤ sizeLine := by rw [rng_length]; exact sz2
  have yt : tyD (pr x) = some (.b "tuple") := rfl
  have lt : bfn .len [pr x] = some (.int 2) := rfl
  unfold d__law_is_4
  simp -implicitDefEqProofs only [evFn, evSs, evS, evE, evT, evEs, evAnd, evOr, evAndT, evOrT, evO, evI, evOwn, R.bind_ok, R.of_some, se_d, se_u, se_o, sb_d, sb_u, sb_o, see, seeB, List.map_cons, List.map_nil, List.cons_append, List.nil_append, List.length_cons, List.length_nil, List.replicate_succ, List.replicate_zero, List.getElem?_cons_zero, List.getElem?_cons_succ, List.set_cons_zero, List.set_cons_succ, Option.join_some, Option.map_some, Option.map_none, Option.bind_some, setSl, tgSl, b_add, b_sub, b_mul, b_fdiv, b_mod, b_pow, b_addT, b_addL, b_mulT, b_mulL, deq_ii, deq_bb, c_eq, c_ne, c_lt, c_le, c_gt, c_ge, c_isN, c_isnN, c_isB, c_isnB, i_bl, i_non, i_int, i_str, i_tup, i_lst, non_non, non_int, non_tup, non_bl, t_non, t_bl, t_int, t_tup, t_lst, ixD_tup, ixD_lst, slD_tup, slD_lst, f_lenT, f_lenL, f_tupT, f_tupL, f_lstT, f_lstL, f_int, f_abs, f_max, f_min, f_all, f_any, f_sum, f_sorted, y_int, y_bl, y_non, y_str, y_tup, y_lst, y_obj, k_ii, k_ib, k_it, k_il, k_is, k_tt, k_tl, k_ti, k_tb, k_ll, k_lt, k_bi, k_bb, k_bt, k_bl, k_nt, k_ss, k_st, k_cc, ks_nil, ks_cons, as_int, pg_cells, pg_at, pg_digits, pg_count, pg_fold, ps_at, ps_digits, ps_count, ps_fold, q_tup, q_lst, z_tt, z_ll, ea_obj, er_bl, if_true, if_false, Bool.false_eq_true, Nat.reduceAdd, Nat.reduceSub, Bool.not_true, Bool.not_false, decide_true, decide_false, ir__law_is_4, s__law_is_4, yt, lt, as_int, r1, hl, wipeD, asgTg]
  rw [bind_assoc', compF (g := fun _ => none)]
  · simp -implicitDefEqProofs only [evFn, evSs, evS, evE, evT, evEs, evAnd, evOr, evAndT, evOrT, evO, evI, evOwn, R.bind_ok, R.of_some, se_d, se_u, se_o, sb_d, sb_u, sb_o, see, seeB, List.map_cons, List.map_nil, List.cons_append, List.nil_append, List.length_cons, List.length_nil, List.replicate_succ, List.replicate_zero, List.getElem?_cons_zero, List.getElem?_cons_succ, List.set_cons_zero, List.set_cons_succ, Option.join_some, Option.map_some, Option.map_none, Option.bind_some, setSl, tgSl, b_add, b_sub, b_mul, b_fdiv, b_mod, b_pow, b_addT, b_addL, b_mulT, b_mulL, deq_ii, deq_bb, c_eq, c_ne, c_lt, c_le, c_gt, c_ge, c_isN, c_isnN, c_isB, c_isnB, i_bl, i_non, i_int, i_str, i_tup, i_lst, non_non, non_int, non_tup, non_bl, t_non, t_bl, t_int, t_tup, t_lst, ixD_tup, ixD_lst, slD_tup, slD_lst, f_lenT, f_lenL, f_tupT, f_tupL, f_lstT, f_lstL, f_int, f_abs, f_max, f_min, f_all, f_any, f_sum, f_sorted, y_int, y_bl, y_non, y_str, y_tup, y_lst, y_obj, k_ii, k_ib, k_it, k_il, k_is, k_tt, k_tl, k_ti, k_tb, k_ll, k_lt, k_bi, k_bb, k_bt, k_bl, k_nt, k_ss, k_st, k_cc, ks_nil, ks_cons, as_int, pg_cells, pg_at, pg_digits, pg_count, pg_fold, ps_at, ps_digits, ps_count, ps_fold, q_tup, q_lst, z_tt, z_ll, ea_obj, er_bl, if_true, if_false, Bool.false_eq_true, Nat.reduceAdd, Nat.reduceSub, Bool.not_true, Bool.not_false, decide_true, decide_false, sz0]
    rw [show (rng 0 2).filterMap (fun _ => (none : Option D)) = [] by simp]
    simp -implicitDefEqProofs only [evFn, evSs, evS, evE, evT, evEs, evAnd, evOr, evAndT, evOrT, evO, evI, evOwn, R.bind_ok, R.of_some, se_d, se_u, se_o, sb_d, sb_u, sb_o, see, seeB, List.map_cons, List.map_nil, List.cons_append, List.nil_append, List.length_cons, List.length_nil, List.replicate_succ, List.replicate_zero, List.getElem?_cons_zero, List.getElem?_cons_succ, List.set_cons_zero, List.set_cons_succ, Option.join_some, Option.map_some, Option.map_none, Option.bind_some, setSl, tgSl, b_add, b_sub, b_mul, b_fdiv, b_mod, b_pow, b_addT, b_addL, b_mulT, b_mulL, deq_ii, deq_bb, c_eq, c_ne, c_lt, c_le, c_gt, c_ge, c_isN, c_isnN, c_isB, c_isnB, i_bl, i_non, i_int, i_str, i_tup, i_lst, non_non, non_int, non_tup, non_bl, t_non, t_bl, t_int, t_tup, t_lst, ixD_tup, ixD_lst, slD_tup, slD_lst, f_lenT, f_lenL, f_tupT, f_tupL, f_lstT, f_lstL, f_int, f_abs, f_max, f_min, f_all, f_any, f_sum, f_sorted, y_int, y_bl, y_non, y_str, y_tup, y_lst, y_obj, k_ii, k_ib, k_it, k_il, k_is, k_tt, k_tl, k_ti, k_tb, k_ll, k_lt, k_bi, k_bb, k_bt, k_bl, k_nt, k_ss, k_st, k_cc, ks_nil, ks_cons, as_int, pg_cells, pg_at, pg_digits, pg_count, pg_fold, ps_at, ps_digits, ps_count, ps_fold, q_tup, q_lst, z_tt, z_ll, ea_obj, er_bl, if_true, if_false, Bool.false_eq_true, Nat.reduceAdd, Nat.reduceSub, Bool.not_true, Bool.not_false, decide_true, decide_false, nil_lst]
  · intro d hd
    obtain ⟨k, hk, rfl⟩ := mem_rng0 (b := 2) hd
    rcases (show k = 0 ∨ k = 1 by omega) with rfl | rfl
    · have e : idx (pr x) (.int ((0 : Nat) : Int)) = some (tI x.1) := rfl
      simp -implicitDefEqProofs only [evFn, evSs, evS, evE, evT, evEs, evAnd, evOr, evAndT, evOrT, evO, evI, evOwn, R.bind_ok, R.of_some, se_d, se_u, se_o, sb_d, sb_u, sb_o, see, seeB, List.map_cons, List.map_nil, List.cons_append, List.nil_append, List.length_cons, List.length_nil, List.replicate_succ, List.replicate_zero, List.getElem?_cons_zero, List.getElem?_cons_succ, List.set_cons_zero, List.set_cons_succ, Option.join_some, Option.map_some, Option.map_none, Option.bind_some, setSl, tgSl, b_add, b_sub, b_mul, b_fdiv, b_mod, b_pow, b_addT, b_addL, b_mulT, b_mulL, deq_ii, deq_bb, c_eq, c_ne, c_lt, c_le, c_gt, c_ge, c_isN, c_isnN, c_isB, c_isnB, i_bl, i_non, i_int, i_str, i_tup, i_lst, non_non, non_int, non_tup, non_bl, t_non, t_bl, t_int, t_tup, t_lst, ixD_tup, ixD_lst, slD_tup, slD_lst, f_lenT, f_lenL, f_tupT, f_tupL, f_lstT, f_lstL, f_int, f_abs, f_max, f_min, f_all, f_any, f_sum, f_sorted, y_int, y_bl, y_non, y_str, y_tup, y_lst, y_obj, k_ii, k_ib, k_it, k_il, k_is, k_tt, k_tl, k_ti, k_tb, k_ll, k_lt, k_bi, k_bb, k_bt, k_bl, k_nt, k_ss, k_st, k_cc, ks_nil, ks_cons, as_int, pg_cells, pg_at, pg_digits, pg_count, pg_fold, ps_at, ps_digits, ps_count, ps_fold, q_tup, q_lst, z_tt, z_ll, ea_obj, er_bl, if_true, if_false, Bool.false_eq_true, Nat.reduceAdd, Nat.reduceSub, Bool.not_true, Bool.not_false, decide_true, decide_false, e, is3_tI h1]
    · have e : idx (pr x) (.int ((1 : Nat) : Int)) = some (tI x.2) := rfl
      simp -implicitDefEqProofs only [evFn, evSs, evS, evE, evT, evEs, evAnd, evOr, evAndT, evOrT, evO, evI, evOwn, R.bind_ok, R.of_some, se_d, se_u, se_o, sb_d, sb_u, sb_o, see, seeB, List.map_cons, List.map_nil, List.cons_append, List.nil_append, List.length_cons, List.length_nil, List.replicate_succ, List.replicate_zero, List.getElem?_cons_zero, List.getElem?_cons_succ, List.set_cons_zero, List.set_cons_succ, Option.join_some, Option.map_some, Option.map_none, Option.bind_some, setSl, tgSl, b_add, b_sub, b_mul, b_fdiv, b_mod, b_pow, b_addT, b_addL, b_mulT, b_mulL, deq_ii, deq_bb, c_eq, c_ne, c_lt, c_le, c_gt, c_ge, c_isN, c_isnN, c_isB, c_isnB, i_bl, i_non, i_int, i_str, i_tup, i_lst, non_non, non_int, non_tup, non_bl, t_non, t_bl, t_int, t_tup, t_lst, ixD_tup, ixD_lst, slD_tup, slD_lst, f_lenT, f_lenL, f_tupT, f_tupL, f_lstT, f_lstL, f_int, f_abs, f_max, f_min, f_all, f_any, f_sum, f_sorted, y_int, y_bl, y_non, y_str, y_tup, y_lst, y_obj, k_ii, k_ib, k_it, k_il, k_is, k_tt, k_tl, k_ti, k_tb, k_ll, k_lt, k_bi, k_bb, k_bt, k_bl, k_nt, k_ss, k_st, k_cc, ks_nil, ks_cons, as_int, pg_cells, pg_at, pg_digits, pg_count, pg_fold, ps_at, ps_digits, ps_count, ps_fold, q_tup, q_lst, z_tt, z_ll, ea_obj, er_bl, if_true, if_false, Bool.false_eq_true, Nat.reduceAdd, Nat.reduceSub, Bool.not_true, Bool.not_false, decide_true, decide_false, e, is3_tI h2]
theorem law_is_row_i {x : Rw} (h1 : x.1.length ≤ 1000) (h2 : x.2.length ≤ 1000) : d__law_is_row [ob x, pr x] p = .ok (.bl true) p := by
  have e : d__law_is_4 [.tup [tI x.1, tI x.2], pr x] p = .ok (.bl true) p := is4_pr h1 h2
  unfold d__law_is_row ob
  simp -implicitDefEqProofs only [evFn, evSs, evS, evE, evT, evEs, evAnd, evOr, evAndT, evOrT, evO, evI, evOwn, R.bind_ok, R.of_some, se_d, se_u, se_o, sb_d, sb_u, sb_o, see, seeB, List.map_cons, List.map_nil, List.cons_append, List.nil_append, List.length_cons, List.length_nil, List.replicate_succ, List.replicate_zero, List.getElem?_cons_zero, List.getElem?_cons_succ, List.set_cons_zero, List.set_cons_succ, Option.join_some, Option.map_some, Option.map_none, Option.bind_some, setSl, tgSl, b_add, b_sub, b_mul, b_fdiv, b_mod, b_pow, b_addT, b_addL, b_mulT, b_mulL, deq_ii, deq_bb, c_eq, c_ne, c_lt, c_le, c_gt, c_ge, c_isN, c_isnN, c_isB, c_isnB, i_bl, i_non, i_int, i_str, i_tup, i_lst, non_non, non_int, non_tup, non_bl, t_non, t_bl, t_int, t_tup, t_lst, ixD_tup, ixD_lst, slD_tup, slD_lst, f_lenT, f_lenL, f_tupT, f_tupL, f_lstT, f_lstL, f_int, f_abs, f_max, f_min, f_all, f_any, f_sum, f_sorted, y_int, y_bl, y_non, y_str, y_tup, y_lst, y_obj, k_ii, k_ib, k_it, k_il, k_is, k_tt, k_tl, k_ti, k_tb, k_ll, k_lt, k_bi, k_bb, k_bt, k_bl, k_nt, k_ss, k_st, k_cc, ks_nil, ks_cons, as_int, pg_cells, pg_at, pg_digits, pg_count, pg_fold, ps_at, ps_digits, ps_count, ps_fold, q_tup, q_lst, z_tt, z_ll, ea_obj, er_bl, if_true, if_false, Bool.false_eq_true, Nat.reduceAdd, Nat.reduceSub, Bool.not_true, Bool.not_false, decide_true, decide_false, ir__law_is_row, s__law_is_row, lk_a, lk_r, sz2, e]
theorem law_says_i (b : Bool) : d__law_says [.bl b, .bl b] p = .ok (.bl true) p := by
  unfold d__law_says
  cases b <;> simp -implicitDefEqProofs only [evFn, evSs, evS, evE, evT, evEs, evAnd, evOr, evAndT, evOrT, evO, evI, evOwn, R.bind_ok, R.of_some, se_d, se_u, se_o, sb_d, sb_u, sb_o, see, seeB, List.map_cons, List.map_nil, List.cons_append, List.nil_append, List.length_cons, List.length_nil, List.replicate_succ, List.replicate_zero, List.getElem?_cons_zero, List.getElem?_cons_succ, List.set_cons_zero, List.set_cons_succ, Option.join_some, Option.map_some, Option.map_none, Option.bind_some, setSl, tgSl, b_add, b_sub, b_mul, b_fdiv, b_mod, b_pow, b_addT, b_addL, b_mulT, b_mulL, deq_ii, deq_bb, c_eq, c_ne, c_lt, c_le, c_gt, c_ge, c_isN, c_isnN, c_isB, c_isnB, i_bl, i_non, i_int, i_str, i_tup, i_lst, non_non, non_int, non_tup, non_bl, t_non, t_bl, t_int, t_tup, t_lst, ixD_tup, ixD_lst, slD_tup, slD_lst, f_lenT, f_lenL, f_tupT, f_tupL, f_lstT, f_lstL, f_int, f_abs, f_max, f_min, f_all, f_any, f_sum, f_sorted, y_int, y_bl, y_non, y_str, y_tup, y_lst, y_obj, k_ii, k_ib, k_it, k_il, k_is, k_tt, k_tl, k_ti, k_tb, k_ll, k_lt, k_bi, k_bb, k_bt, k_bl, k_nt, k_ss, k_st, k_cc, ks_nil, ks_cons, as_int, pg_cells, pg_at, pg_digits, pg_count, pg_fold, ps_at, ps_digits, ps_count, ps_fold, q_tup, q_lst, z_tt, z_ll, ea_obj, er_bl, if_true, if_false, Bool.false_eq_true, Nat.reduceAdd, Nat.reduceSub, Bool.not_true, Bool.not_false, decide_true, decide_false, ir__law_says]
theorem law_made_row_i {x : Rw} (h1 : x.1.length ≤ 1000) (h2 : x.2.length ≤ 1000) : d__law_made_row [pr x] p = .ok (ob x) p := by
  unfold d__law_made_row
  simp -implicitDefEqProofs only [evFn, evSs, evS, evE, evT, evEs, evAnd, evOr, evAndT, evOrT, evO, evI, evOwn, R.bind_ok, R.of_some, se_d, se_u, se_o, sb_d, sb_u, sb_o, see, seeB, List.map_cons, List.map_nil, List.cons_append, List.nil_append, List.length_cons, List.length_nil, List.replicate_succ, List.replicate_zero, List.getElem?_cons_zero, List.getElem?_cons_succ, List.set_cons_zero, List.set_cons_succ, Option.join_some, Option.map_some, Option.map_none, Option.bind_some, setSl, tgSl, b_add, b_sub, b_mul, b_fdiv, b_mod, b_pow, b_addT, b_addL, b_mulT, b_mulL, deq_ii, deq_bb, c_eq, c_ne, c_lt, c_le, c_gt, c_ge, c_isN, c_isnN, c_isB, c_isnB, i_bl, i_non, i_int, i_str, i_tup, i_lst, non_non, non_int, non_tup, non_bl, t_non, t_bl, t_int, t_tup, t_lst, ixD_tup, ixD_lst, slD_tup, slD_lst, f_lenT, f_lenL, f_tupT, f_tupL, f_lstT, f_lstL, f_int, f_abs, f_max, f_min, f_all, f_any, f_sum, f_sorted, y_int, y_bl, y_non, y_str, y_tup, y_lst, y_obj, k_ii, k_ib, k_it, k_il, k_is, k_tt, k_tl, k_ti, k_tb, k_ll, k_lt, k_bi, k_bb, k_bt, k_bl, k_nt, k_ss, k_st, k_cc, ks_nil, ks_cons, as_int, pg_cells, pg_at, pg_digits, pg_count, pg_fold, ps_at, ps_digits, ps_count, ps_fold, q_tup, q_lst, z_tt, z_ll, ea_obj, er_bl, if_true, if_false, Bool.false_eq_true, Nat.reduceAdd, Nat.reduceSub, Bool.not_true, Bool.not_false, decide_true, decide_false, ir__law_made_row, s__law_made_row, ix0, ix1, row_ini h1 h2]
  rfl
theorem row_eq_i (x y : Rw) : d_Row___eq__ [ob x, ob y] p = .ok (.bl (decide (x = y))) p := by
  have e : deq (.tup [tI x.1, tI x.2]) (.tup [tI y.1, tI y.2]) = some (decide (x = y)) := deq_pr x y
  unfold d_Row___eq__ ob
  simp -implicitDefEqProofs only [evFn, evSs, evS, evE, evT, evEs, evAnd, evOr, evAndT, evOrT, evO, evI, evOwn, R.bind_ok, R.of_some, se_d, se_u, se_o, sb_d, sb_u, sb_o, see, seeB, List.map_cons, List.map_nil, List.cons_append, List.nil_append, List.length_cons, List.length_nil, List.replicate_succ, List.replicate_zero, List.getElem?_cons_zero, List.getElem?_cons_succ, List.set_cons_zero, List.set_cons_succ, Option.join_some, Option.map_some, Option.map_none, Option.bind_some, setSl, tgSl, b_add, b_sub, b_mul, b_fdiv, b_mod, b_pow, b_addT, b_addL, b_mulT, b_mulL, deq_ii, deq_bb, c_eq, c_ne, c_lt, c_le, c_gt, c_ge, c_isN, c_isnN, c_isB, c_isnB, i_bl, i_non, i_int, i_str, i_tup, i_lst, non_non, non_int, non_tup, non_bl, t_non, t_bl, t_int, t_tup, t_lst, ixD_tup, ixD_lst, slD_tup, slD_lst, f_lenT, f_lenL, f_tupT, f_tupL, f_lstT, f_lstL, f_int, f_abs, f_max, f_min, f_all, f_any, f_sum, f_sorted, y_int, y_bl, y_non, y_str, y_tup, y_lst, y_obj, k_ii, k_ib, k_it, k_il, k_is, k_tt, k_tl, k_ti, k_tb, k_ll, k_lt, k_bi, k_bb, k_bt, k_bl, k_nt, k_ss, k_st, k_cc, ks_nil, ks_cons, as_int, pg_cells, pg_at, pg_digits, pg_count, pg_fold, ps_at, ps_digits, ps_count, ps_fold, q_tup, q_lst, z_tt, z_ll, ea_obj, er_bl, if_true, if_false, Bool.false_eq_true, Nat.reduceAdd, Nat.reduceSub, Bool.not_true, Bool.not_false, decide_true, decide_false, ir_Row___eq__, s_Row___eq__, lk_a, lk_r, sz2, e]
/-! ### what stays good -/
theorem mem_turn {r : W} (h : r ≠ []) {v : Int} (hv : v ∈ turn r) : v ∈ r := by
  unfold turn at hv
  rcases List.mem_cons.mp hv with rfl | hv
  · rw [List.getLastD_eq_getLast?, List.getLast?_eq_some_getLast h]
    exact List.getLast_mem h
  · exact (List.dropLast_sublist r).subset hv
theorem strip_mem : ∀ (n : Nat) (a r : W), r ≠ [] → (∀ v ∈ (stripR n a r).1, v ∈ a) ∧ (∀ v ∈ (stripR n a r).2, v ∈ r) ∧ (stripR n a r).1.length ≤ a.length ∧ (stripR n a r).2.length = r.length ∧ (stripR n a r).2 ≠ []
  | 0, a, r, h => ⟨fun _ h => h, fun _ h => h, Nat.le_refl _, rfl, h⟩
  | n + 1, a, r, h => by
    unfold stripR
    split
    · obtain ⟨q1, q2, q3, q4, q5⟩ := strip_mem n a.dropLast (turn r) (by unfold turn; simp)
      refine ⟨fun v hv => (List.dropLast_sublist a).subset (q1 v hv), fun v hv => mem_turn h (q2 v hv), ?_, ?_, q5⟩
      · rw [List.length_dropLast] at q3; omega
      · rw [q4, turn_len h]
    · exact ⟨fun _ h => h, fun _ h => h, Nat.le_refl _, rfl, h⟩
theorem least_len {a r : W} (h : r ≠ []) : (least a r).1.length ≤ a.length ∧ (least a r).2.length ≤ r.length ∧ (least a r).2 ≠ [] ∧ (∀ v ∈ (least a r).1, v ∈ a) ∧ ∀ v ∈ (least a r).2, v ∈ r := by
  obtain ⟨q1, q2, q3, q4, q5⟩ := strip_mem a.length a (root r) (root_ok h).1
  exact ⟨q3, by rw [show (least a r).2.length = (root r).length from q4]; exact root_len h, q5, q1, fun v hv => List.mem_of_mem_take (q2 v hv)⟩
theorem Good.least {m : Int} {a r : W} (h : Good m (a, r)) : Good m (least a r) := by
  obtain ⟨h1, h2, h3, h4⟩ := h
  obtain ⟨q1, q2, q3, q4, q5⟩ := least_len (a := a) (r := r) h1
  exact ⟨q3, fun v hv => h2 v (q4 v hv), fun v hv => h3 v (q5 v hv), by simp only at h4; omega⟩
theorem rot_len (r : W) {k : Nat} (h : k ≤ r.length) : (rot r k).length = r.length := by unfold rot; simp; omega
theorem Good.tail {m : Int} {x : Rw} (h : Good m x) (n : Nat) : Good m (tailF x n) := by
  obtain ⟨h1, h2, h3, h4⟩ := h
  have hp : 0 < x.2.length := List.length_pos_iff.mpr h1
  unfold tailF
  split
  · exact ⟨h1, fun v hv => h2 v (List.mem_of_mem_drop hv), h3, by simp only [List.length_drop]; omega⟩
  · have hk := Nat.mod_lt (n - x.1.length) hp
    have hl := rot_len x.2 (Nat.le_of_lt hk)
    refine ⟨fun z => by rw [show rot x.2 ((n - x.1.length) % x.2.length) = [] from z] at hl; simp at hl; omega, fun v hv => by simp at hv, fun v hv => ?_, by simp only [hl, List.length_nil]; omega⟩
    rcases List.mem_append.mp hv with z | z
    · exact h3 v (List.mem_of_mem_drop z)
    · exact h3 v (List.mem_of_mem_take z)
theorem Good.turned {m : Int} {x : Rw} (h : Good m x) : Good m (x.1.map (m - ·), x.2.map (m - ·)) := by
  obtain ⟨h1, h2, h3, h4⟩ := h
  refine ⟨by simpa using h1, fun v hv => ?_, fun v hv => ?_, by simpa using h4⟩
  · obtain ⟨u, hu, rfl⟩ := List.mem_map.mp hv
    have := h2 u hu; omega
  · obtain ⟨u, hu, rfl⟩ := List.mem_map.mp hv
    have := h3 u hu; omega
theorem Good.l1 {m : Int} {x : Rw} (h : Good m x) : x.1.length ≤ 1000 := by have := h.2.2.2; omega
theorem Good.l2 {m : Int} {x : Rw} (h : Good m x) : x.2.length ≤ 1000 := by have := h.2.2.2; omega
theorem unp_pr {ρ : SEnv} {i j : Nat} {x : Rw} : tgSl ρ (.tp [i, j]) (pr x) = some ((ρ.set i (.d (tI x.1))).set j (.d (tI x.2))) := rfl
/-! ### the calls of the part -/
section
variable {m : Int} (hm : 1 ≤ m ∧ m ≤ 20)
include hm
theorem least_form_i {x : Rw} (h : Good m x) : d_least_form [.int m, ob x] p = .ok (ob (least x.1 x.2)) p := by
  have g := Good.least (a := x.1) (r := x.2) h
  have lb := least_by_i (p := p) (a := x.1) h.1 (by have := h.2.2.2; omega) (by have := h.2.2.2; omega)
  unfold d_least_form
  simp -implicitDefEqProofs only [evFn, evSs, evS, evE, evT, evEs, evAnd, evOr, evAndT, evOrT, evO, evI, evOwn, R.bind_ok, R.of_some, se_d, se_u, se_o, sb_d, sb_u, sb_o, see, seeB, List.map_cons, List.map_nil, List.cons_append, List.nil_append, List.length_cons, List.length_nil, List.replicate_succ, List.replicate_zero, List.getElem?_cons_zero, List.getElem?_cons_succ, List.set_cons_zero, List.set_cons_succ, Option.join_some, Option.map_some, Option.map_none, Option.bind_some, setSl, tgSl, b_add, b_sub, b_mul, b_fdiv, b_mod, b_pow, b_addT, b_addL, b_mulT, b_mulL, deq_ii, deq_bb, c_eq, c_ne, c_lt, c_le, c_gt, c_ge, c_isN, c_isnN, c_isB, c_isnB, i_bl, i_non, i_int, i_str, i_tup, i_lst, non_non, non_int, non_tup, non_bl, t_non, t_bl, t_int, t_tup, t_lst, ixD_tup, ixD_lst, slD_tup, slD_lst, f_lenT, f_lenL, f_tupT, f_tupL, f_lstT, f_lstL, f_int, f_abs, f_max, f_min, f_all, f_any, f_sum, f_sorted, y_int, y_bl, y_non, y_str, y_tup, y_lst, y_obj, k_ii, k_ib, k_it, k_il, k_is, k_tt, k_tl, k_ti, k_tb, k_ll, k_lt, k_bi, k_bb, k_bt, k_bl, k_nt, k_ss, k_st, k_cc, ks_nil, ks_cons, as_int, pg_cells, pg_at, pg_digits, pg_count, pg_fold, ps_at, ps_digits, ps_count, ps_fold, q_tup, q_lst, z_tt, z_ll, ea_obj, er_bl, if_true, if_false, Bool.false_eq_true, Nat.reduceAdd, Nat.reduceSub, Bool.not_true, Bool.not_false, decide_true, decide_false, ir_least_form, s_least_form, need_figure_i hm, need_row_i h]
  unfold pr at *
  simp -implicitDefEqProofs only [evFn, evSs, evS, evE, evT, evEs, evAnd, evOr, evAndT, evOrT, evO, evI, evOwn, R.bind_ok, R.of_some, se_d, se_u, se_o, sb_d, sb_u, sb_o, see, seeB, List.map_cons, List.map_nil, List.cons_append, List.nil_append, List.length_cons, List.length_nil, List.replicate_succ, List.replicate_zero, List.getElem?_cons_zero, List.getElem?_cons_succ, List.set_cons_zero, List.set_cons_succ, Option.join_some, Option.map_some, Option.map_none, Option.bind_some, setSl, tgSl, b_add, b_sub, b_mul, b_fdiv, b_mod, b_pow, b_addT, b_addL, b_mulT, b_mulL, deq_ii, deq_bb, c_eq, c_ne, c_lt, c_le, c_gt, c_ge, c_isN, c_isnN, c_isB, c_isnB, i_bl, i_non, i_int, i_str, i_tup, i_lst, non_non, non_int, non_tup, non_bl, t_non, t_bl, t_int, t_tup, t_lst, ixD_tup, ixD_lst, slD_tup, slD_lst, f_lenT, f_lenL, f_tupT, f_tupL, f_lstT, f_lstL, f_int, f_abs, f_max, f_min, f_all, f_any, f_sum, f_sorted, y_int, y_bl, y_non, y_str, y_tup, y_lst, y_obj, k_ii, k_ib, k_it, k_il, k_is, k_tt, k_tl, k_ti, k_tb, k_ll, k_lt, k_bi, k_bb, k_bt, k_bl, k_nt, k_ss, k_st, k_cc, ks_nil, ks_cons, as_int, pg_cells, pg_at, pg_digits, pg_count, pg_fold, ps_at, ps_digits, ps_count, ps_fold, q_tup, q_lst, z_tt, z_ll, ea_obj, er_bl, if_true, if_false, Bool.false_eq_true, Nat.reduceAdd, Nat.reduceSub, Bool.not_true, Bool.not_false, decide_true, decide_false, s_least_form, lb, row_ini g.l1 g.l2]
  rfl
theorem is_least_i {x : Rw} (h : Good m x) : d_is_least [.int m, ob x] p = .ok (.bl (decide (least x.1 x.2 = x))) p := by
  have lb := is_least_by_i (p := p) (a := x.1) h.1 (by have := h.2.2.2; omega) (by have := h.2.2.2; omega)
  unfold d_is_least
  simp -implicitDefEqProofs only [evFn, evSs, evS, evE, evT, evEs, evAnd, evOr, evAndT, evOrT, evO, evI, evOwn, R.bind_ok, R.of_some, se_d, se_u, se_o, sb_d, sb_u, sb_o, see, seeB, List.map_cons, List.map_nil, List.cons_append, List.nil_append, List.length_cons, List.length_nil, List.replicate_succ, List.replicate_zero, List.getElem?_cons_zero, List.getElem?_cons_succ, List.set_cons_zero, List.set_cons_succ, Option.join_some, Option.map_some, Option.map_none, Option.bind_some, setSl, tgSl, b_add, b_sub, b_mul, b_fdiv, b_mod, b_pow, b_addT, b_addL, b_mulT, b_mulL, deq_ii, deq_bb, c_eq, c_ne, c_lt, c_le, c_gt, c_ge, c_isN, c_isnN, c_isB, c_isnB, i_bl, i_non, i_int, i_str, i_tup, i_lst, non_non, non_int, non_tup, non_bl, t_non, t_bl, t_int, t_tup, t_lst, ixD_tup, ixD_lst, slD_tup, slD_lst, f_lenT, f_lenL, f_tupT, f_tupL, f_lstT, f_lstL, f_int, f_abs, f_max, f_min, f_all, f_any, f_sum, f_sorted, y_int, y_bl, y_non, y_str, y_tup, y_lst, y_obj, k_ii, k_ib, k_it, k_il, k_is, k_tt, k_tl, k_ti, k_tb, k_ll, k_lt, k_bi, k_bb, k_bt, k_bl, k_nt, k_ss, k_st, k_cc, ks_nil, ks_cons, as_int, pg_cells, pg_at, pg_digits, pg_count, pg_fold, ps_at, ps_digits, ps_count, ps_fold, q_tup, q_lst, z_tt, z_ll, ea_obj, er_bl, if_true, if_false, Bool.false_eq_true, Nat.reduceAdd, Nat.reduceSub, Bool.not_true, Bool.not_false, decide_true, decide_false, ir_is_least, s_is_least, need_figure_i hm, need_row_i h]
  unfold pr
  simp -implicitDefEqProofs only [evFn, evSs, evS, evE, evT, evEs, evAnd, evOr, evAndT, evOrT, evO, evI, evOwn, R.bind_ok, R.of_some, se_d, se_u, se_o, sb_d, sb_u, sb_o, see, seeB, List.map_cons, List.map_nil, List.cons_append, List.nil_append, List.length_cons, List.length_nil, List.replicate_succ, List.replicate_zero, List.getElem?_cons_zero, List.getElem?_cons_succ, List.set_cons_zero, List.set_cons_succ, Option.join_some, Option.map_some, Option.map_none, Option.bind_some, setSl, tgSl, b_add, b_sub, b_mul, b_fdiv, b_mod, b_pow, b_addT, b_addL, b_mulT, b_mulL, deq_ii, deq_bb, c_eq, c_ne, c_lt, c_le, c_gt, c_ge, c_isN, c_isnN, c_isB, c_isnB, i_bl, i_non, i_int, i_str, i_tup, i_lst, non_non, non_int, non_tup, non_bl, t_non, t_bl, t_int, t_tup, t_lst, ixD_tup, ixD_lst, slD_tup, slD_lst, f_lenT, f_lenL, f_tupT, f_tupL, f_lstT, f_lstL, f_int, f_abs, f_max, f_min, f_all, f_any, f_sum, f_sorted, y_int, y_bl, y_non, y_str, y_tup, y_lst, y_obj, k_ii, k_ib, k_it, k_il, k_is, k_tt, k_tl, k_ti, k_tb, k_ll, k_lt, k_bi, k_bb, k_bt, k_bl, k_nt, k_ss, k_st, k_cc, ks_nil, ks_cons, as_int, pg_cells, pg_at, pg_digits, pg_count, pg_fold, ps_at, ps_digits, ps_count, ps_fold, q_tup, q_lst, z_tt, z_ll, ea_obj, er_bl, if_true, if_false, Bool.false_eq_true, Nat.reduceAdd, Nat.reduceSub, Bool.not_true, Bool.not_false, decide_true, decide_false, s_is_least, lb]
theorem item_at_i {x : Rw} (h : Good m x) (n : Nat) : d_item_at [.int m, ob x, .int n] p = .ok (.int (itm x n)) p := by
  unfold d_item_at
  simp -implicitDefEqProofs only [evFn, evSs, evS, evE, evT, evEs, evAnd, evOr, evAndT, evOrT, evO, evI, evOwn, R.bind_ok, R.of_some, se_d, se_u, se_o, sb_d, sb_u, sb_o, see, seeB, List.map_cons, List.map_nil, List.cons_append, List.nil_append, List.length_cons, List.length_nil, List.replicate_succ, List.replicate_zero, List.getElem?_cons_zero, List.getElem?_cons_succ, List.set_cons_zero, List.set_cons_succ, Option.join_some, Option.map_some, Option.map_none, Option.bind_some, setSl, tgSl, b_add, b_sub, b_mul, b_fdiv, b_mod, b_pow, b_addT, b_addL, b_mulT, b_mulL, deq_ii, deq_bb, c_eq, c_ne, c_lt, c_le, c_gt, c_ge, c_isN, c_isnN, c_isB, c_isnB, i_bl, i_non, i_int, i_str, i_tup, i_lst, non_non, non_int, non_tup, non_bl, t_non, t_bl, t_int, t_tup, t_lst, ixD_tup, ixD_lst, slD_tup, slD_lst, f_lenT, f_lenL, f_tupT, f_tupL, f_lstT, f_lstL, f_int, f_abs, f_max, f_min, f_all, f_any, f_sum, f_sorted, y_int, y_bl, y_non, y_str, y_tup, y_lst, y_obj, k_ii, k_ib, k_it, k_il, k_is, k_tt, k_tl, k_ti, k_tb, k_ll, k_lt, k_bi, k_bb, k_bt, k_bl, k_nt, k_ss, k_st, k_cc, ks_nil, ks_cons, as_int, pg_cells, pg_at, pg_digits, pg_count, pg_fold, ps_at, ps_digits, ps_count, ps_fold, q_tup, q_lst, z_tt, z_ll, ea_obj, er_bl, if_true, if_false, Bool.false_eq_true, Nat.reduceAdd, Nat.reduceSub, Bool.not_true, Bool.not_false, decide_true, decide_false, ir_item_at, s_item_at, need_figure_i hm, need_row_i h, need_index_i (show (0 : Int) ≤ (n : Int) by omega), item_by_i h.1]
  rfl
theorem tail_of_i {x : Rw} (h : Good m x) (n : Nat) : d_tail_of [.int m, ob x, .int n] p = .ok (ob (least (tailF x n).1 (tailF x n).2)) p := by
  have g := Good.least (a := (tailF x n).1) (r := (tailF x n).2) (h.tail n)
  have tb := tail_by_i (p := p) h.sm n
  unfold d_tail_of
  simp -implicitDefEqProofs only [evFn, evSs, evS, evE, evT, evEs, evAnd, evOr, evAndT, evOrT, evO, evI, evOwn, R.bind_ok, R.of_some, se_d, se_u, se_o, sb_d, sb_u, sb_o, see, seeB, List.map_cons, List.map_nil, List.cons_append, List.nil_append, List.length_cons, List.length_nil, List.replicate_succ, List.replicate_zero, List.getElem?_cons_zero, List.getElem?_cons_succ, List.set_cons_zero, List.set_cons_succ, Option.join_some, Option.map_some, Option.map_none, Option.bind_some, setSl, tgSl, b_add, b_sub, b_mul, b_fdiv, b_mod, b_pow, b_addT, b_addL, b_mulT, b_mulL, deq_ii, deq_bb, c_eq, c_ne, c_lt, c_le, c_gt, c_ge, c_isN, c_isnN, c_isB, c_isnB, i_bl, i_non, i_int, i_str, i_tup, i_lst, non_non, non_int, non_tup, non_bl, t_non, t_bl, t_int, t_tup, t_lst, ixD_tup, ixD_lst, slD_tup, slD_lst, f_lenT, f_lenL, f_tupT, f_tupL, f_lstT, f_lstL, f_int, f_abs, f_max, f_min, f_all, f_any, f_sum, f_sorted, y_int, y_bl, y_non, y_str, y_tup, y_lst, y_obj, k_ii, k_ib, k_it, k_il, k_is, k_tt, k_tl, k_ti, k_tb, k_ll, k_lt, k_bi, k_bb, k_bt, k_bl, k_nt, k_ss, k_st, k_cc, ks_nil, ks_cons, as_int, pg_cells, pg_at, pg_digits, pg_count, pg_fold, ps_at, ps_digits, ps_count, ps_fold, q_tup, q_lst, z_tt, z_ll, ea_obj, er_bl, if_true, if_false, Bool.false_eq_true, Nat.reduceAdd, Nat.reduceSub, Bool.not_true, Bool.not_false, decide_true, decide_false, ir_tail_of, s_tail_of, need_figure_i hm, need_row_i h, need_index_i (show (0 : Int) ≤ (n : Int) by omega), tb]
  unfold pr
  simp -implicitDefEqProofs only [evFn, evSs, evS, evE, evT, evEs, evAnd, evOr, evAndT, evOrT, evO, evI, evOwn, R.bind_ok, R.of_some, se_d, se_u, se_o, sb_d, sb_u, sb_o, see, seeB, List.map_cons, List.map_nil, List.cons_append, List.nil_append, List.length_cons, List.length_nil, List.replicate_succ, List.replicate_zero, List.getElem?_cons_zero, List.getElem?_cons_succ, List.set_cons_zero, List.set_cons_succ, Option.join_some, Option.map_some, Option.map_none, Option.bind_some, setSl, tgSl, b_add, b_sub, b_mul, b_fdiv, b_mod, b_pow, b_addT, b_addL, b_mulT, b_mulL, deq_ii, deq_bb, c_eq, c_ne, c_lt, c_le, c_gt, c_ge, c_isN, c_isnN, c_isB, c_isnB, i_bl, i_non, i_int, i_str, i_tup, i_lst, non_non, non_int, non_tup, non_bl, t_non, t_bl, t_int, t_tup, t_lst, ixD_tup, ixD_lst, slD_tup, slD_lst, f_lenT, f_lenL, f_tupT, f_tupL, f_lstT, f_lstL, f_int, f_abs, f_max, f_min, f_all, f_any, f_sum, f_sorted, y_int, y_bl, y_non, y_str, y_tup, y_lst, y_obj, k_ii, k_ib, k_it, k_il, k_is, k_tt, k_tl, k_ti, k_tb, k_ll, k_lt, k_bi, k_bb, k_bt, k_bl, k_nt, k_ss, k_st, k_cc, ks_nil, ks_cons, as_int, pg_cells, pg_at, pg_digits, pg_count, pg_fold, ps_at, ps_digits, ps_count, ps_fold, q_tup, q_lst, z_tt, z_ll, ea_obj, er_bl, if_true, if_false, Bool.false_eq_true, Nat.reduceAdd, Nat.reduceSub, Bool.not_true, Bool.not_false, decide_true, decide_false, s_tail_of, row_ini g.l1 g.l2]
  rfl
theorem first_unlike_i {x y : Rw} (h : Good m x) (k : Good m y) : d_first_unlike [.int m, ob x, ob y] p = .ok (optD (unl x y (bnd x y))) p := by
  unfold d_first_unlike
  simp -implicitDefEqProofs only [evFn, evSs, evS, evE, evT, evEs, evAnd, evOr, evAndT, evOrT, evO, evI, evOwn, R.bind_ok, R.of_some, se_d, se_u, se_o, sb_d, sb_u, sb_o, see, seeB, List.map_cons, List.map_nil, List.cons_append, List.nil_append, List.length_cons, List.length_nil, List.replicate_succ, List.replicate_zero, List.getElem?_cons_zero, List.getElem?_cons_succ, List.set_cons_zero, List.set_cons_succ, Option.join_some, Option.map_some, Option.map_none, Option.bind_some, setSl, tgSl, b_add, b_sub, b_mul, b_fdiv, b_mod, b_pow, b_addT, b_addL, b_mulT, b_mulL, deq_ii, deq_bb, c_eq, c_ne, c_lt, c_le, c_gt, c_ge, c_isN, c_isnN, c_isB, c_isnB, i_bl, i_non, i_int, i_str, i_tup, i_lst, non_non, non_int, non_tup, non_bl, t_non, t_bl, t_int, t_tup, t_lst, ixD_tup, ixD_lst, slD_tup, slD_lst, f_lenT, f_lenL, f_tupT, f_tupL, f_lstT, f_lstL, f_int, f_abs, f_max, f_min, f_all, f_any, f_sum, f_sorted, y_int, y_bl, y_non, y_str, y_tup, y_lst, y_obj, k_ii, k_ib, k_it, k_il, k_is, k_tt, k_tl, k_ti, k_tb, k_ll, k_lt, k_bi, k_bb, k_bt, k_bl, k_nt, k_ss, k_st, k_cc, ks_nil, ks_cons, as_int, pg_cells, pg_at, pg_digits, pg_count, pg_fold, ps_at, ps_digits, ps_count, ps_fold, q_tup, q_lst, z_tt, z_ll, ea_obj, er_bl, if_true, if_false, Bool.false_eq_true, Nat.reduceAdd, Nat.reduceSub, Bool.not_true, Bool.not_false, decide_true, decide_false, ir_first_unlike, s_first_unlike, need_figure_i hm, need_row_i h, need_row_i k, unlike_by_i h.sm k.sm]
theorem row_less_i {x y : Rw} (h : Good m x) (k : Good m y) : d_row_less [.int m, ob x, ob y] p = .ok (.bl (below x y (unl x y (bnd x y)))) p := by
  unfold d_row_less
  simp -implicitDefEqProofs only [evFn, evSs, evS, evE, evT, evEs, evAnd, evOr, evAndT, evOrT, evO, evI, evOwn, R.bind_ok, R.of_some, se_d, se_u, se_o, sb_d, sb_u, sb_o, see, seeB, List.map_cons, List.map_nil, List.cons_append, List.nil_append, List.length_cons, List.length_nil, List.replicate_succ, List.replicate_zero, List.getElem?_cons_zero, List.getElem?_cons_succ, List.set_cons_zero, List.set_cons_succ, Option.join_some, Option.map_some, Option.map_none, Option.bind_some, setSl, tgSl, b_add, b_sub, b_mul, b_fdiv, b_mod, b_pow, b_addT, b_addL, b_mulT, b_mulL, deq_ii, deq_bb, c_eq, c_ne, c_lt, c_le, c_gt, c_ge, c_isN, c_isnN, c_isB, c_isnB, i_bl, i_non, i_int, i_str, i_tup, i_lst, non_non, non_int, non_tup, non_bl, t_non, t_bl, t_int, t_tup, t_lst, ixD_tup, ixD_lst, slD_tup, slD_lst, f_lenT, f_lenL, f_tupT, f_tupL, f_lstT, f_lstL, f_int, f_abs, f_max, f_min, f_all, f_any, f_sum, f_sorted, y_int, y_bl, y_non, y_str, y_tup, y_lst, y_obj, k_ii, k_ib, k_it, k_il, k_is, k_tt, k_tl, k_ti, k_tb, k_ll, k_lt, k_bi, k_bb, k_bt, k_bl, k_nt, k_ss, k_st, k_cc, ks_nil, ks_cons, as_int, pg_cells, pg_at, pg_digits, pg_count, pg_fold, ps_at, ps_digits, ps_count, ps_fold, q_tup, q_lst, z_tt, z_ll, ea_obj, er_bl, if_true, if_false, Bool.false_eq_true, Nat.reduceAdd, Nat.reduceSub, Bool.not_true, Bool.not_false, decide_true, decide_false, ir_row_less, s_row_less, need_figure_i hm, need_row_i h, need_row_i k, is_under_i h.sm k.sm]
theorem turned_row_i {x : Rw} (h : Good m x) : d_turned_row [.int m, ob x] p = .ok (ob (x.1.map (m - ·), x.2.map (m - ·))) p := by
  have g := h.turned
  unfold d_turned_row
  simp -implicitDefEqProofs only [evFn, evSs, evS, evE, evT, evEs, evAnd, evOr, evAndT, evOrT, evO, evI, evOwn, R.bind_ok, R.of_some, se_d, se_u, se_o, sb_d, sb_u, sb_o, see, seeB, List.map_cons, List.map_nil, List.cons_append, List.nil_append, List.length_cons, List.length_nil, List.replicate_succ, List.replicate_zero, List.getElem?_cons_zero, List.getElem?_cons_succ, List.set_cons_zero, List.set_cons_succ, Option.join_some, Option.map_some, Option.map_none, Option.bind_some, setSl, tgSl, b_add, b_sub, b_mul, b_fdiv, b_mod, b_pow, b_addT, b_addL, b_mulT, b_mulL, deq_ii, deq_bb, c_eq, c_ne, c_lt, c_le, c_gt, c_ge, c_isN, c_isnN, c_isB, c_isnB, i_bl, i_non, i_int, i_str, i_tup, i_lst, non_non, non_int, non_tup, non_bl, t_non, t_bl, t_int, t_tup, t_lst, ixD_tup, ixD_lst, slD_tup, slD_lst, f_lenT, f_lenL, f_tupT, f_tupL, f_lstT, f_lstL, f_int, f_abs, f_max, f_min, f_all, f_any, f_sum, f_sorted, y_int, y_bl, y_non, y_str, y_tup, y_lst, y_obj, k_ii, k_ib, k_it, k_il, k_is, k_tt, k_tl, k_ti, k_tb, k_ll, k_lt, k_bi, k_bb, k_bt, k_bl, k_nt, k_ss, k_st, k_cc, ks_nil, ks_cons, as_int, pg_cells, pg_at, pg_digits, pg_count, pg_fold, ps_at, ps_digits, ps_count, ps_fold, q_tup, q_lst, z_tt, z_ll, ea_obj, er_bl, if_true, if_false, Bool.false_eq_true, Nat.reduceAdd, Nat.reduceSub, Bool.not_true, Bool.not_false, decide_true, decide_false, ir_turned_row, s_turned_row, need_figure_i hm, need_row_i h, turned_by_i h.sm]
  unfold pr
  simp -implicitDefEqProofs only [evFn, evSs, evS, evE, evT, evEs, evAnd, evOr, evAndT, evOrT, evO, evI, evOwn, R.bind_ok, R.of_some, se_d, se_u, se_o, sb_d, sb_u, sb_o, see, seeB, List.map_cons, List.map_nil, List.cons_append, List.nil_append, List.length_cons, List.length_nil, List.replicate_succ, List.replicate_zero, List.getElem?_cons_zero, List.getElem?_cons_succ, List.set_cons_zero, List.set_cons_succ, Option.join_some, Option.map_some, Option.map_none, Option.bind_some, setSl, tgSl, b_add, b_sub, b_mul, b_fdiv, b_mod, b_pow, b_addT, b_addL, b_mulT, b_mulL, deq_ii, deq_bb, c_eq, c_ne, c_lt, c_le, c_gt, c_ge, c_isN, c_isnN, c_isB, c_isnB, i_bl, i_non, i_int, i_str, i_tup, i_lst, non_non, non_int, non_tup, non_bl, t_non, t_bl, t_int, t_tup, t_lst, ixD_tup, ixD_lst, slD_tup, slD_lst, f_lenT, f_lenL, f_tupT, f_tupL, f_lstT, f_lstL, f_int, f_abs, f_max, f_min, f_all, f_any, f_sum, f_sorted, y_int, y_bl, y_non, y_str, y_tup, y_lst, y_obj, k_ii, k_ib, k_it, k_il, k_is, k_tt, k_tl, k_ti, k_tb, k_ll, k_lt, k_bi, k_bb, k_bt, k_bl, k_nt, k_ss, k_st, k_cc, ks_nil, ks_cons, as_int, pg_cells, pg_at, pg_digits, pg_count, pg_fold, ps_at, ps_digits, ps_count, ps_fold, q_tup, q_lst, z_tt, z_ll, ea_obj, er_bl, if_true, if_false, Bool.false_eq_true, Nat.reduceAdd, Nat.reduceSub, Bool.not_true, Bool.not_false, decide_true, decide_false, s_turned_row, row_ini g.l1 g.l2]
  rfl
end
end
end Lk07

set_option Elab.async false
set_option linter.all false
set_option maxRecDepth 100000
set_option maxHeartbeats 1000000
namespace Lk07
open PySem PySem.Spec PyProof.Rows L2 Mi RowP
section
variable {p : PenS}
/-! ### the law's own least form -/
theorem find_root {w : W} (h : w ≠ []) : (List.range' 1 w.length).find? (isP w) = some (rootN w) := by
  obtain ⟨h1, h2, h3, h4⟩ := rootN_ok h
  cases q : (List.range' 1 w.length).find? (isP w) with
  | none =>
    have := List.find?_eq_none.mp q (rootN w) (by rw [List.mem_range']; exact ⟨rootN w - 1, by omega, by omega⟩)
    rw [h3] at this; simp at this
  | some k =>
    have hk := List.find?_some q
    have hm := List.mem_of_find?_eq_some q
    rw [List.mem_range'] at hm
    obtain ⟨i, hi, rfl⟩ := hm
    congr 1
    rcases Nat.lt_trichotomy (1 + 1 * i) (rootN w) with z | z | z
    · rw [h4 _ (by omega) z] at hk; cases hk
    · exact z
    · -- the root stands ahead of it
      rw [List.find?_eq_some_iff_append] at q
      obtain ⟨_, as, bs, e, hno⟩ := q
      have hasl : as.length = i := by
        have e1 : (List.range' 1 w.length)[as.length]? = some (1 + 1 * i) := by rw [e]; simp
        have hl2 : as.length < w.length := by
          have := congrArg List.length e
          simp at this; omega
        rw [List.getElem?_range' hl2] at e1
        simp at e1; omega
      have hl : (List.range' 1 w.length)[rootN w - 1]? = some (rootN w) := by
        rw [List.getElem?_range' (by omega)]
        congr 1; omega
      rw [e, List.getElem?_append_left (by omega)] at hl
      have := hno _ (List.mem_of_getElem? hl)
      rw [h3] at this; simp at this
theorem stripR_stay {a r : W} (h : ¬ (a ≠ [] ∧ a.getLastD 0 = r.getLastD 0)) : ∀ n, stripR n a r = (a, r)
  | 0 => rfl
  | n + 1 => by unfold stripR; rw [if_neg h]
/-- laps that do nothing any more -/
theorem loop_strip {f : D → SEnv → PenS → R (Fl × SEnv)} {s : Sl} {u : Sl} (B : Nat) (hf : ∀ d a r z, r ≠ [] → a.length ≤ B → r.length ≤ B → f d [.d (tI a), .d (tI r), s, z, u] p =
      .ok (.nx, if a ≠ [] ∧ a.getLastD 0 = r.getLastD 0 then [.d (tI a.dropLast), .d (tI (turn r)), s, .d d, u] else [.d (tI a), .d (tI r), s, .d d, u]) p) :
    ∀ (ds : List D) (a r : W) (z : Sl), r ≠ [] → a.length ≤ B → r.length ≤ B → ∃ z', forLoop f ds [.d (tI a), .d (tI r), s, z, u] p = .ok (.nx, [.d (tI (stripR ds.length a r).1), .d (tI (stripR ds.length a r).2), s, z', u]) p
  | [], a, r, z, _, _, _ => ⟨z, rfl⟩
  | d :: ds, a, r, z, hr, h1, h2 => by
    simp only [forLoop, hf d a r z hr h1 h2, R.bind_ok, List.length_cons]
    by_cases c : a ≠ [] ∧ a.getLastD 0 = r.getLastD 0
    · rw [if_pos c]
      have : stripR (ds.length + 1) a r = stripR ds.length a.dropLast (turn r) := by conv => lhs; unfold stripR; rw [if_pos c]
      rw [this]
      exact loop_strip B hf ds a.dropLast (turn r) (.d d) (by unfold turn; simp) (by rw [List.length_dropLast]; omega) (by rw [turn_len hr]; exact h2)
    · rw [if_neg c]
      obtain ⟨z', e⟩ := loop_strip B hf ds a r (.d d) hr h1 h2
      refine ⟨z', ?_⟩
      rw [e, stripR_stay c, stripR_stay c]
theorem loop_strip_bind {β : Type} {f : D → SEnv → PenS → R (Fl × SEnv)} {s : Sl} {u : Sl} {k : Fl × SEnv → PenS → R β} {res : R β} (B : Nat) {ds : List D} {a r : W} {z : Sl} (hf : ∀ d a r z, r ≠ [] → a.length ≤ B → r.length ≤ B → f d [.d (tI a), .d (tI r), s, z, u] p =
      .ok (.nx, if a ≠ [] ∧ a.getLastD 0 = r.getLastD 0 then [.d (tI a.dropLast), .d (tI (turn r)), s, .d d, u] else [.d (tI a), .d (tI r), s, .d d, u]) p) (h0 : r ≠ []) (h1 : a.length ≤ B) (h2 : r.length ≤ B)
    (h : ∀ z', k (.nx, [.d (tI (stripR ds.length a r).1), .d (tI (stripR ds.length a r).2), s, z', u]) p = res) : (forLoop f ds [.d (tI a), .d (tI r), s, z, u] p).bind k = res := by
  obtain ⟨z', e⟩ := loop_strip B hf ds a r z h0 h1 h2
  rw [e]
  exact h z'
theorem filt_rng (n : Nat) (f : Nat → Bool) : (rng 1 (((n : Nat) : Int) + 1)).filterMap (fun d => match d with | .int k => if f k.toNat = true then some (D.int k) else none | _ => none) = ((List.range' 1 n).filter f).map fun k => D.int (k : Nat) := by
  have e : rng 1 (((n : Nat) : Int) + 1) = (List.range' 1 n).map fun k => D.int (k : Nat) := by
    have := rng_nat 1 (n + 1)
    rw [Nat.add_sub_cancel] at this
    exact this
  rw [e, List.filterMap_map]
  induction List.range' 1 n with
  | nil => rfl
  | cons k l ih =>
    simp only [List.filterMap_cons, Function.comp_apply, Int.toNat_natCast, List.filter_cons]
    by_cases c : f k = true
    · simp only [c, if_true, List.map_cons, ih]
    · have c' : f k = false := by simpa using c
      simp only [c', Bool.false_eq_true, if_false, ih]
theorem law_row_least_i {a r : W} (hr : r ≠ []) (ha : a.length ≤ 450) (hl : r.length ≤ 450) : d__law_row_least [tI a, tI r] p = .ok (pr (least a r)) p := by
  have hp : 0 < r.length := List.length_pos_iff.mpr hr
  have r1 : rngOf 1 ((r.length : Int) + 1) = some (rng 1 ((r.length : Int) + 1)) := rngOf_ok (by omega) (by omega)
  have hlen : (rng 1 ((r.length : Int) + 1)).length ≤ sizeLine := by rw [rng_length]; exact len_line (by omega)
  have r2 : rngOf 0 (a.length : Int) = some (rng 0 (a.length : Int)) := rngOf_ok (by omega) (by omega)
  unfold d__law_row_least
  simp -implicitDefEqProofs only [evFn, evSs, evS, evE, evT, evEs, evAnd, evOr, evAndT, evOrT, evO, evI, evOwn, R.bind_ok, R.of_some, se_d, se_u, se_o, sb_d, sb_u, sb_o, see, seeB, List.map_cons, List.map_nil, List.cons_append, List.nil_append, List.length_cons, List.length_nil, List.replicate_succ, List.replicate_zero, List.getElem?_cons_zero, List.getElem?_cons_succ, List.set_cons_zero, List.set_cons_succ, Option.join_some, Option.map_some, Option.map_none, Option.bind_some, setSl, tgSl, b_add, b_sub, b_mul, b_fdiv, b_mod, b_pow, b_addT, b_addL, b_mulT, b_mulL, deq_ii, deq_bb, c_eq, c_ne, c_lt, c_le, c_gt, c_ge, c_isN, c_isnN, c_isB, c_isnB, i_bl, i_non, i_int, i_str, i_tup, i_lst, non_non, non_int, non_tup, non_bl, t_non, t_bl, t_int, t_tup, t_lst, ixD_tup, ixD_lst, slD_tup, slD_lst, f_lenT, f_lenL, f_tupT, f_tupL, f_lstT, f_lstL, f_int, f_abs, f_max, f_min, f_all, f_any, f_sum, f_sorted, y_int, y_bl, y_non, y_str, y_tup, y_lst, y_obj, k_ii, k_ib, k_it, k_il, k_is, k_tt, k_tl, k_ti, k_tb, k_ll, k_lt, k_bi, k_bb, k_bt, k_bl, k_nt, k_ss, k_st, k_cc, ks_nil, ks_cons, as_int, pg_cells, pg_at, pg_digits, pg_count, pg_fold, ps_at, ps_digits, ps_count, ps_fold, q_tup, q_lst, z_tt, z_ll, ea_obj, er_bl, if_true, if_false, Bool.false_eq_true, Nat.reduceAdd, Nat.reduceSub, Bool.not_true, Bool.not_false, decide_true, decide_false, ir__law_row_least, len_tI, as_int, r1, hlen, wipeD, asgTg]
  rw [bind_assoc', bind_assoc', compF (g := fun d => match d with | .int k => if isP r k.toNat = true then some (D.int k) else none | _ => none)]
  · rw [filt_rng]
    have i0 : idx (D.lst (((List.range' 1 r.length).filter (isP r)).map fun k => D.int (k : Nat))) (.int 0) = some (.int (rootN r : Nat)) := by
      have h0 : (((List.range' 1 r.length).filter (isP r)))[0]? = some (rootN r) := by
        rw [← List.head?_eq_getElem?, List.head?_filter, find_root hr]
      have hlt : 0 < ((List.range' 1 r.length).filter (isP r)).length := (List.getElem?_eq_some_iff.mp h0).1
      rw [ixD_lst, atI_nn (by omega) (by rw [List.length_map]; omega), List.getElem?_map]
      show Option.map _ (((List.range' 1 r.length).filter (isP r)))[0]? = _
      rw [h0]; rfl
    have st : slc (tI r) none (some ((rootN r : Nat) : Int)) = some (tI (root r)) := sl_take r (by omega)
    simp -implicitDefEqProofs only [evFn, evSs, evS, evE, evT, evEs, evAnd, evOr, evAndT, evOrT, evO, evI, evOwn, R.bind_ok, R.of_some, se_d, se_u, se_o, sb_d, sb_u, sb_o, see, seeB, List.map_cons, List.map_nil, List.cons_append, List.nil_append, List.length_cons, List.length_nil, List.replicate_succ, List.replicate_zero, List.getElem?_cons_zero, List.getElem?_cons_succ, List.set_cons_zero, List.set_cons_succ, Option.join_some, Option.map_some, Option.map_none, Option.bind_some, setSl, tgSl, b_add, b_sub, b_mul, b_fdiv, b_mod, b_pow, b_addT, b_addL, b_mulT, b_mulL, deq_ii, deq_bb, c_eq, c_ne, c_lt, c_le, c_gt, c_ge, c_isN, c_isnN, c_isB, c_isnB, i_bl, i_non, i_int, i_str, i_tup, i_lst, non_non, non_int, non_tup, non_bl, t_non, t_bl, t_int, t_tup, t_lst, ixD_tup, ixD_lst, slD_tup, slD_lst, f_lenT, f_lenL, f_tupT, f_tupL, f_lstT, f_lstL, f_int, f_abs, f_max, f_min, f_all, f_any, f_sum, f_sorted, y_int, y_bl, y_non, y_str, y_tup, y_lst, y_obj, k_ii, k_ib, k_it, k_il, k_is, k_tt, k_tl, k_ti, k_tb, k_ll, k_lt, k_bi, k_bb, k_bt, k_bl, k_nt, k_ss, k_st, k_cc, ks_nil, ks_cons, as_int, pg_cells, pg_at, pg_digits, pg_count, pg_fold, ps_at, ps_digits, ps_count, ps_fold, q_tup, q_lst, z_tt, z_ll, ea_obj, er_bl, if_true, if_false, Bool.false_eq_true, Nat.reduceAdd, Nat.reduceSub, Bool.not_true, Bool.not_false, decide_true, decide_false, len_tI, i0, as_int, st, r2]
    have rl := root_len hr
    rw [bind_assoc']
    refine loop_strip_bind 450 ?_ (root_ok hr).1 ha (by omega) fun z' => ?_
    · intro d a r z hr h1 h2
      have nl : deq (tI a) (D.tup []) = some (decide (a = [])) := by rw [nil_tI, deq_tI]
      by_cases c1 : a = []
      · subst c1
        simp -implicitDefEqProofs only [evFn, evSs, evS, evE, evT, evEs, evAnd, evOr, evAndT, evOrT, evO, evI, evOwn, R.bind_ok, R.of_some, se_d, se_u, se_o, sb_d, sb_u, sb_o, see, seeB, List.map_cons, List.map_nil, List.cons_append, List.nil_append, List.length_cons, List.length_nil, List.replicate_succ, List.replicate_zero, List.getElem?_cons_zero, List.getElem?_cons_succ, List.set_cons_zero, List.set_cons_succ, Option.join_some, Option.map_some, Option.map_none, Option.bind_some, setSl, tgSl, b_add, b_sub, b_mul, b_fdiv, b_mod, b_pow, b_addT, b_addL, b_mulT, b_mulL, deq_ii, deq_bb, c_eq, c_ne, c_lt, c_le, c_gt, c_ge, c_isN, c_isnN, c_isB, c_isnB, i_bl, i_non, i_int, i_str, i_tup, i_lst, non_non, non_int, non_tup, non_bl, t_non, t_bl, t_int, t_tup, t_lst, ixD_tup, ixD_lst, slD_tup, slD_lst, f_lenT, f_lenL, f_tupT, f_tupL, f_lstT, f_lstL, f_int, f_abs, f_max, f_min, f_all, f_any, f_sum, f_sorted, y_int, y_bl, y_non, y_str, y_tup, y_lst, y_obj, k_ii, k_ib, k_it, k_il, k_is, k_tt, k_tl, k_ti, k_tb, k_ll, k_lt, k_bi, k_bb, k_bt, k_bl, k_nt, k_ss, k_st, k_cc, ks_nil, ks_cons, as_int, pg_cells, pg_at, pg_digits, pg_count, pg_fold, ps_at, ps_digits, ps_count, ps_fold, q_tup, q_lst, z_tt, z_ll, ea_obj, er_bl, if_true, if_false, Bool.false_eq_true, Nat.reduceAdd, Nat.reduceSub, Bool.not_true, Bool.not_false, decide_true, decide_false, sz0, nl, tgSl]
        simp
      · have l1 := ix_last a c1
        have l2 := ix_last r hr
        by_cases c2 : a.getLastD 0 = r.getLastD 0
        · have i1 := sl_init a c1
          have i2 := sl_last r hr
          have i3 := sl_init r hr
          have ad : Mi.bin .add (tI [r.getLastD 0]) (tI r.dropLast) = some (tI (turn r)) := by
            rw [add_tI (by rw [List.length_dropLast]; simp; omega)]; rfl
          simp -implicitDefEqProofs only [evFn, evSs, evS, evE, evT, evEs, evAnd, evOr, evAndT, evOrT, evO, evI, evOwn, R.bind_ok, R.of_some, se_d, se_u, se_o, sb_d, sb_u, sb_o, see, seeB, List.map_cons, List.map_nil, List.cons_append, List.nil_append, List.length_cons, List.length_nil, List.replicate_succ, List.replicate_zero, List.getElem?_cons_zero, List.getElem?_cons_succ, List.set_cons_zero, List.set_cons_succ, Option.join_some, Option.map_some, Option.map_none, Option.bind_some, setSl, tgSl, b_add, b_sub, b_mul, b_fdiv, b_mod, b_pow, b_addT, b_addL, b_mulT, b_mulL, deq_ii, deq_bb, c_eq, c_ne, c_lt, c_le, c_gt, c_ge, c_isN, c_isnN, c_isB, c_isnB, i_bl, i_non, i_int, i_str, i_tup, i_lst, non_non, non_int, non_tup, non_bl, t_non, t_bl, t_int, t_tup, t_lst, ixD_tup, ixD_lst, slD_tup, slD_lst, f_lenT, f_lenL, f_tupT, f_tupL, f_lstT, f_lstL, f_int, f_abs, f_max, f_min, f_all, f_any, f_sum, f_sorted, y_int, y_bl, y_non, y_str, y_tup, y_lst, y_obj, k_ii, k_ib, k_it, k_il, k_is, k_tt, k_tl, k_ti, k_tb, k_ll, k_lt, k_bi, k_bb, k_bt, k_bl, k_nt, k_ss, k_st, k_cc, ks_nil, ks_cons, as_int, pg_cells, pg_at, pg_digits, pg_count, pg_fold, ps_at, ps_digits, ps_count, ps_fold, q_tup, q_lst, z_tt, z_ll, ea_obj, er_bl, if_true, if_false, Bool.false_eq_true, Nat.reduceAdd, Nat.reduceSub, Bool.not_true, Bool.not_false, decide_true, decide_false, sz0, sz2, nl, c1, as_int, l1, l2, c2, i1, i2, i3, ad]
          rw [if_pos ⟨c1, trivial⟩]
        · simp -implicitDefEqProofs only [evFn, evSs, evS, evE, evT, evEs, evAnd, evOr, evAndT, evOrT, evO, evI, evOwn, R.bind_ok, R.of_some, se_d, se_u, se_o, sb_d, sb_u, sb_o, see, seeB, List.map_cons, List.map_nil, List.cons_append, List.nil_append, List.length_cons, List.length_nil, List.replicate_succ, List.replicate_zero, List.getElem?_cons_zero, List.getElem?_cons_succ, List.set_cons_zero, List.set_cons_succ, Option.join_some, Option.map_some, Option.map_none, Option.bind_some, setSl, tgSl, b_add, b_sub, b_mul, b_fdiv, b_mod, b_pow, b_addT, b_addL, b_mulT, b_mulL, deq_ii, deq_bb, c_eq, c_ne, c_lt, c_le, c_gt, c_ge, c_isN, c_isnN, c_isB, c_isnB, i_bl, i_non, i_int, i_str, i_tup, i_lst, non_non, non_int, non_tup, non_bl, t_non, t_bl, t_int, t_tup, t_lst, ixD_tup, ixD_lst, slD_tup, slD_lst, f_lenT, f_lenL, f_tupT, f_tupL, f_lstT, f_lstL, f_int, f_abs, f_max, f_min, f_all, f_any, f_sum, f_sorted, y_int, y_bl, y_non, y_str, y_tup, y_lst, y_obj, k_ii, k_ib, k_it, k_il, k_is, k_tt, k_tl, k_ti, k_tb, k_ll, k_lt, k_bi, k_bb, k_bt, k_bl, k_nt, k_ss, k_st, k_cc, ks_nil, ks_cons, as_int, pg_cells, pg_at, pg_digits, pg_count, pg_fold, ps_at, ps_digits, ps_count, ps_fold, q_tup, q_lst, z_tt, z_ll, ea_obj, er_bl, if_true, if_false, Bool.false_eq_true, Nat.reduceAdd, Nat.reduceSub, Bool.not_true, Bool.not_false, decide_true, decide_false, sz0, nl, c1, as_int, l1, l2, c2]
          rw [if_neg (fun h => h.2)]
    · rw [show (rng 0 (a.length : Int)).length = a.length by rw [rng_length]; omega]
      simp -implicitDefEqProofs only [evFn, evSs, evS, evE, evT, evEs, evAnd, evOr, evAndT, evOrT, evO, evI, evOwn, R.bind_ok, R.of_some, se_d, se_u, se_o, sb_d, sb_u, sb_o, see, seeB, List.map_cons, List.map_nil, List.cons_append, List.nil_append, List.length_cons, List.length_nil, List.replicate_succ, List.replicate_zero, List.getElem?_cons_zero, List.getElem?_cons_succ, List.set_cons_zero, List.set_cons_succ, Option.join_some, Option.map_some, Option.map_none, Option.bind_some, setSl, tgSl, b_add, b_sub, b_mul, b_fdiv, b_mod, b_pow, b_addT, b_addL, b_mulT, b_mulL, deq_ii, deq_bb, c_eq, c_ne, c_lt, c_le, c_gt, c_ge, c_isN, c_isnN, c_isB, c_isnB, i_bl, i_non, i_int, i_str, i_tup, i_lst, non_non, non_int, non_tup, non_bl, t_non, t_bl, t_int, t_tup, t_lst, ixD_tup, ixD_lst, slD_tup, slD_lst, f_lenT, f_lenL, f_tupT, f_tupL, f_lstT, f_lstL, f_int, f_abs, f_max, f_min, f_all, f_any, f_sum, f_sorted, y_int, y_bl, y_non, y_str, y_tup, y_lst, y_obj, k_ii, k_ib, k_it, k_il, k_is, k_tt, k_tl, k_ti, k_tb, k_ll, k_lt, k_bi, k_bb, k_bt, k_bl, k_nt, k_ss, k_st, k_cc, ks_nil, ks_cons, as_int, pg_cells, pg_at, pg_digits, pg_count, pg_fold, ps_at, ps_digits, ps_count, ps_fold, q_tup, q_lst, z_tt, z_ll, ea_obj, er_bl, if_true, if_false, Bool.false_eq_true, Nat.reduceAdd, Nat.reduceSub, Bool.not_true, Bool.not_false, decide_true, decide_false, sz2]
      rfl
  · intro d hd
    obtain ⟨k, k1, k2, rfl⟩ := mem_rng (a := 1) (b := r.length + 1) hd
    have kn : (k : Int) ≠ 0 := by omega
    have e1 : Int.fmod (r.length : Int) (k : Int) = ((r.length % k : Nat) : Int) := fm _ _ (by omega)
    have e2 : Int.fdiv (r.length : Int) (k : Int) = ((r.length / k : Nat) : Int) := by rw [Int.fdiv_eq_ediv_of_nonneg _ (by omega), Int.natCast_ediv]
    have hdv : r.length / k ≤ r.length := Nat.div_le_self _ _
    have dv : divOk (r.length : Int) (k : Int) := div_ok (by omega)
    have mt : Mi.bin .mul (tI (r.take k)) (.int ((r.length / k : Nat) : Int)) = some (tI (pw (r.take k) (r.length / k))) := mul_tI (Int.natCast_nonneg _) (Int.ofNat_le.mpr (show r.length / k ≤ 1000 by omega)) (by rw [List.length_take]; omega)
    have st : slc (tI r) none (some (k : Int)) = some (tI (r.take k)) := sl_take r (by omega)
    by_cases c1 : r.length % k = 0
    · have c1' : ((r.length % k : Nat) : Int) = 0 := by omega
      by_cases c2 : pw (r.take k) (r.length / k) = r
      · have : isP r k = true := by unfold isP; simp [c1, c2]
        simp -implicitDefEqProofs only [evFn, evSs, evS, evE, evT, evEs, evAnd, evOr, evAndT, evOrT, evO, evI, evOwn, R.bind_ok, R.of_some, se_d, se_u, se_o, sb_d, sb_u, sb_o, see, seeB, List.map_cons, List.map_nil, List.cons_append, List.nil_append, List.length_cons, List.length_nil, List.replicate_succ, List.replicate_zero, List.getElem?_cons_zero, List.getElem?_cons_succ, List.set_cons_zero, List.set_cons_succ, Option.join_some, Option.map_some, Option.map_none, Option.bind_some, setSl, tgSl, b_add, b_sub, b_mul, b_fdiv, b_mod, b_pow, b_addT, b_addL, b_mulT, b_mulL, deq_ii, deq_bb, c_eq, c_ne, c_lt, c_le, c_gt, c_ge, c_isN, c_isnN, c_isB, c_isnB, i_bl, i_non, i_int, i_str, i_tup, i_lst, non_non, non_int, non_tup, non_bl, t_non, t_bl, t_int, t_tup, t_lst, ixD_tup, ixD_lst, slD_tup, slD_lst, f_lenT, f_lenL, f_tupT, f_tupL, f_lstT, f_lstL, f_int, f_abs, f_max, f_min, f_all, f_any, f_sum, f_sorted, y_int, y_bl, y_non, y_str, y_tup, y_lst, y_obj, k_ii, k_ib, k_it, k_il, k_is, k_tt, k_tl, k_ti, k_tb, k_ll, k_lt, k_bi, k_bb, k_bt, k_bl, k_nt, k_ss, k_st, k_cc, ks_nil, ks_cons, as_int, pg_cells, pg_at, pg_digits, pg_count, pg_fold, ps_at, ps_digits, ps_count, ps_fold, q_tup, q_lst, z_tt, z_ll, ea_obj, er_bl, if_true, if_false, Bool.false_eq_true, Nat.reduceAdd, Nat.reduceSub, Bool.not_true, Bool.not_false, decide_true, decide_false, len_tI, kn, e1, e2, c1', dv, st, mt, deq_tI, c2, ne_eq, not_false_eq_true, Int.toNat_natCast, this]
      · have : isP r k = false := by unfold isP; simp [c1, c2]
        simp -implicitDefEqProofs only [evFn, evSs, evS, evE, evT, evEs, evAnd, evOr, evAndT, evOrT, evO, evI, evOwn, R.bind_ok, R.of_some, se_d, se_u, se_o, sb_d, sb_u, sb_o, see, seeB, List.map_cons, List.map_nil, List.cons_append, List.nil_append, List.length_cons, List.length_nil, List.replicate_succ, List.replicate_zero, List.getElem?_cons_zero, List.getElem?_cons_succ, List.set_cons_zero, List.set_cons_succ, Option.join_some, Option.map_some, Option.map_none, Option.bind_some, setSl, tgSl, b_add, b_sub, b_mul, b_fdiv, b_mod, b_pow, b_addT, b_addL, b_mulT, b_mulL, deq_ii, deq_bb, c_eq, c_ne, c_lt, c_le, c_gt, c_ge, c_isN, c_isnN, c_isB, c_isnB, i_bl, i_non, i_int, i_str, i_tup, i_lst, non_non, non_int, non_tup, non_bl, t_non, t_bl, t_int, t_tup, t_lst, ixD_tup, ixD_lst, slD_tup, slD_lst, f_lenT, f_lenL, f_tupT, f_tupL, f_lstT, f_lstL, f_int, f_abs, f_max, f_min, f_all, f_any, f_sum, f_sorted, y_int, y_bl, y_non, y_str, y_tup, y_lst, y_obj, k_ii, k_ib, k_it, k_il, k_is, k_tt, k_tl, k_ti, k_tb, k_ll, k_lt, k_bi, k_bb, k_bt, k_bl, k_nt, k_ss, k_st, k_cc, ks_nil, ks_cons, as_int, pg_cells, pg_at, pg_digits, pg_count, pg_fold, ps_at, ps_digits, ps_count, ps_fold, q_tup, q_lst, z_tt, z_ll, ea_obj, er_bl, if_true, if_false, Bool.false_eq_true, Nat.reduceAdd, Nat.reduceSub, Bool.not_true, Bool.not_false, decide_true, decide_false, len_tI, kn, e1, e2, c1', dv, st, mt, deq_tI, c2, ne_eq, not_false_eq_true, Int.toNat_natCast, this]
    · have c1' : ¬ ((r.length % k : Nat) : Int) = 0 := by omega
      have : isP r k = false := by unfold isP; simp [c1]
      simp -implicitDefEqProofs only [evFn, evSs, evS, evE, evT, evEs, evAnd, evOr, evAndT, evOrT, evO, evI, evOwn, R.bind_ok, R.of_some, se_d, se_u, se_o, sb_d, sb_u, sb_o, see, seeB, List.map_cons, List.map_nil, List.cons_append, List.nil_append, List.length_cons, List.length_nil, List.replicate_succ, List.replicate_zero, List.getElem?_cons_zero, List.getElem?_cons_succ, List.set_cons_zero, List.set_cons_succ, Option.join_some, Option.map_some, Option.map_none, Option.bind_some, setSl, tgSl, b_add, b_sub, b_mul, b_fdiv, b_mod, b_pow, b_addT, b_addL, b_mulT, b_mulL, deq_ii, deq_bb, c_eq, c_ne, c_lt, c_le, c_gt, c_ge, c_isN, c_isnN, c_isB, c_isnB, i_bl, i_non, i_int, i_str, i_tup, i_lst, non_non, non_int, non_tup, non_bl, t_non, t_bl, t_int, t_tup, t_lst, ixD_tup, ixD_lst, slD_tup, slD_lst, f_lenT, f_lenL, f_tupT, f_tupL, f_lstT, f_lstL, f_int, f_abs, f_max, f_min, f_all, f_any, f_sum, f_sorted, y_int, y_bl, y_non, y_str, y_tup, y_lst, y_obj, k_ii, k_ib, k_it, k_il, k_is, k_tt, k_tl, k_ti, k_tb, k_ll, k_lt, k_bi, k_bb, k_bt, k_bl, k_nt, k_ss, k_st, k_cc, ks_nil, ks_cons, as_int, pg_cells, pg_at, pg_digits, pg_count, pg_fold, ps_at, ps_digits, ps_count, ps_fold, q_tup, q_lst, z_tt, z_ll, ea_obj, er_bl, if_true, if_false, Bool.false_eq_true, Nat.reduceAdd, Nat.reduceSub, Bool.not_true, Bool.not_false, decide_true, decide_false, len_tI, kn, e1, c1', ne_eq, not_false_eq_true, Int.toNat_natCast, this]
end
end Lk07

set_option Elab.async false
set_option linter.all false
set_option maxRecDepth 100000
set_option maxHeartbeats 1000000
namespace Lk07
open PySem PySem.Spec PyProof.Rows L2 Mi RowP
section
variable {p : PenS}
theorem joined_row_i {m : Int} (hm : 1 ≤ m ∧ m ≤ 20) {x : Rw} {w : W} (h : Good m x) (g : Good m (w ++ x.1, x.2)) {d : D} (hd : d = tI w ∨ d = .lst (w.map D.int)) :
    d_joined_row [.int m, d, ob x] p = .ok (ob (least (w ++ x.1) x.2)) p := by
  have gl := g.least
  have hg2 := g.2.1
  have hg4 := g.2.2.2
  simp only [List.length_append] at hg4
  have fg : ∀ p, d_are_figures [tI w, .int m] p = .ok (.bl true) p := fun p => by
    rw [are_figures_i (by omega)]
    have : (w.all fun v => decide (0 ≤ v ∧ v ≤ m)) = true := List.all_eq_true.mpr fun v hv => decide_eq_true (hg2 v (List.mem_append_left _ hv))
    rw [this]
  have ad : Mi.bin .add (tI w) (tI x.1) = some (tI (w ++ x.1)) := add_tI (by omega)
  have lb := least_by_i (p := p) (a := w ++ x.1) (r := x.2) h.1 (by rw [List.length_append]; omega) (by omega)
  have tp : bfn .tuple [d] = some (tI w) := by rcases hd with rfl | rfl <;> rfl
  have hy : tyD d = some (.b "tuple") ∨ tyD d = some (.b "list") := by
    rcases hd with rfl | rfl
    · exact .inl rfl
    · exact .inr rfl
  unfold d_joined_row
  rcases hy with hy | hy
  · simp -implicitDefEqProofs only [evFn, evSs, evS, evE, evT, evEs, evAnd, evOr, evAndT, evOrT, evO, evI, evOwn, R.bind_ok, R.of_some, se_d, se_u, se_o, sb_d, sb_u, sb_o, see, seeB, List.map_cons, List.map_nil, List.cons_append, List.nil_append, List.length_cons, List.length_nil, List.replicate_succ, List.replicate_zero, List.getElem?_cons_zero, List.getElem?_cons_succ, List.set_cons_zero, List.set_cons_succ, Option.join_some, Option.map_some, Option.map_none, Option.bind_some, setSl, tgSl, b_add, b_sub, b_mul, b_fdiv, b_mod, b_pow, b_addT, b_addL, b_mulT, b_mulL, deq_ii, deq_bb, c_eq, c_ne, c_lt, c_le, c_gt, c_ge, c_isN, c_isnN, c_isB, c_isnB, i_bl, i_non, i_int, i_str, i_tup, i_lst, non_non, non_int, non_tup, non_bl, t_non, t_bl, t_int, t_tup, t_lst, ixD_tup, ixD_lst, slD_tup, slD_lst, f_lenT, f_lenL, f_tupT, f_tupL, f_lstT, f_lstL, f_int, f_abs, f_max, f_min, f_all, f_any, f_sum, f_sorted, y_int, y_bl, y_non, y_str, y_tup, y_lst, y_obj, k_ii, k_ib, k_it, k_il, k_is, k_tt, k_tl, k_ti, k_tb, k_ll, k_lt, k_bi, k_bb, k_bt, k_bl, k_nt, k_ss, k_st, k_cc, ks_nil, ks_cons, as_int, pg_cells, pg_at, pg_digits, pg_count, pg_fold, ps_at, ps_digits, ps_count, ps_fold, q_tup, q_lst, z_tt, z_ll, ea_obj, er_bl, if_true, if_false, Bool.false_eq_true, Nat.reduceAdd, Nat.reduceSub, Bool.not_true, Bool.not_false, decide_true, decide_false, ir_joined_row, s_joined_row, need_figure_i hm, hy, tp, fg, need_row_i h]
    unfold pr at *
    simp -implicitDefEqProofs only [evFn, evSs, evS, evE, evT, evEs, evAnd, evOr, evAndT, evOrT, evO, evI, evOwn, R.bind_ok, R.of_some, se_d, se_u, se_o, sb_d, sb_u, sb_o, see, seeB, List.map_cons, List.map_nil, List.cons_append, List.nil_append, List.length_cons, List.length_nil, List.replicate_succ, List.replicate_zero, List.getElem?_cons_zero, List.getElem?_cons_succ, List.set_cons_zero, List.set_cons_succ, Option.join_some, Option.map_some, Option.map_none, Option.bind_some, setSl, tgSl, b_add, b_sub, b_mul, b_fdiv, b_mod, b_pow, b_addT, b_addL, b_mulT, b_mulL, deq_ii, deq_bb, c_eq, c_ne, c_lt, c_le, c_gt, c_ge, c_isN, c_isnN, c_isB, c_isnB, i_bl, i_non, i_int, i_str, i_tup, i_lst, non_non, non_int, non_tup, non_bl, t_non, t_bl, t_int, t_tup, t_lst, ixD_tup, ixD_lst, slD_tup, slD_lst, f_lenT, f_lenL, f_tupT, f_tupL, f_lstT, f_lstL, f_int, f_abs, f_max, f_min, f_all, f_any, f_sum, f_sorted, y_int, y_bl, y_non, y_str, y_tup, y_lst, y_obj, k_ii, k_ib, k_it, k_il, k_is, k_tt, k_tl, k_ti, k_tb, k_ll, k_lt, k_bi, k_bb, k_bt, k_bl, k_nt, k_ss, k_st, k_cc, ks_nil, ks_cons, as_int, pg_cells, pg_at, pg_digits, pg_count, pg_fold, ps_at, ps_digits, ps_count, ps_fold, q_tup, q_lst, z_tt, z_ll, ea_obj, er_bl, if_true, if_false, Bool.false_eq_true, Nat.reduceAdd, Nat.reduceSub, Bool.not_true, Bool.not_false, decide_true, decide_false, s_joined_row, tp, ad, lb, row_ini gl.l1 gl.l2]
    rfl
  · simp -implicitDefEqProofs only [evFn, evSs, evS, evE, evT, evEs, evAnd, evOr, evAndT, evOrT, evO, evI, evOwn, R.bind_ok, R.of_some, se_d, se_u, se_o, sb_d, sb_u, sb_o, see, seeB, List.map_cons, List.map_nil, List.cons_append, List.nil_append, List.length_cons, List.length_nil, List.replicate_succ, List.replicate_zero, List.getElem?_cons_zero, List.getElem?_cons_succ, List.set_cons_zero, List.set_cons_succ, Option.join_some, Option.map_some, Option.map_none, Option.bind_some, setSl, tgSl, b_add, b_sub, b_mul, b_fdiv, b_mod, b_pow, b_addT, b_addL, b_mulT, b_mulL, deq_ii, deq_bb, c_eq, c_ne, c_lt, c_le, c_gt, c_ge, c_isN, c_isnN, c_isB, c_isnB, i_bl, i_non, i_int, i_str, i_tup, i_lst, non_non, non_int, non_tup, non_bl, t_non, t_bl, t_int, t_tup, t_lst, ixD_tup, ixD_lst, slD_tup, slD_lst, f_lenT, f_lenL, f_tupT, f_tupL, f_lstT, f_lstL, f_int, f_abs, f_max, f_min, f_all, f_any, f_sum, f_sorted, y_int, y_bl, y_non, y_str, y_tup, y_lst, y_obj, k_ii, k_ib, k_it, k_il, k_is, k_tt, k_tl, k_ti, k_tb, k_ll, k_lt, k_bi, k_bb, k_bt, k_bl, k_nt, k_ss, k_st, k_cc, ks_nil, ks_cons, as_int, pg_cells, pg_at, pg_digits, pg_count, pg_fold, ps_at, ps_digits, ps_count, ps_fold, q_tup, q_lst, z_tt, z_ll, ea_obj, er_bl, if_true, if_false, Bool.false_eq_true, Nat.reduceAdd, Nat.reduceSub, Bool.not_true, Bool.not_false, decide_true, decide_false, ir_joined_row, s_joined_row, need_figure_i hm, hy, tp, fg, need_row_i h]
    unfold pr at *
    simp -implicitDefEqProofs only [evFn, evSs, evS, evE, evT, evEs, evAnd, evOr, evAndT, evOrT, evO, evI, evOwn, R.bind_ok, R.of_some, se_d, se_u, se_o, sb_d, sb_u, sb_o, see, seeB, List.map_cons, List.map_nil, List.cons_append, List.nil_append, List.length_cons, List.length_nil, List.replicate_succ, List.replicate_zero, List.getElem?_cons_zero, List.getElem?_cons_succ, List.set_cons_zero, List.set_cons_succ, Option.join_some, Option.map_some, Option.map_none, Option.bind_some, setSl, tgSl, b_add, b_sub, b_mul, b_fdiv, b_mod, b_pow, b_addT, b_addL, b_mulT, b_mulL, deq_ii, deq_bb, c_eq, c_ne, c_lt, c_le, c_gt, c_ge, c_isN, c_isnN, c_isB, c_isnB, i_bl, i_non, i_int, i_str, i_tup, i_lst, non_non, non_int, non_tup, non_bl, t_non, t_bl, t_int, t_tup, t_lst, ixD_tup, ixD_lst, slD_tup, slD_lst, f_lenT, f_lenL, f_tupT, f_tupL, f_lstT, f_lstL, f_int, f_abs, f_max, f_min, f_all, f_any, f_sum, f_sorted, y_int, y_bl, y_non, y_str, y_tup, y_lst, y_obj, k_ii, k_ib, k_it, k_il, k_is, k_tt, k_tl, k_ti, k_tb, k_ll, k_lt, k_bi, k_bb, k_bt, k_bl, k_nt, k_ss, k_st, k_cc, ks_nil, ks_cons, as_int, pg_cells, pg_at, pg_digits, pg_count, pg_fold, ps_at, ps_digits, ps_count, ps_fold, q_tup, q_lst, z_tt, z_ll, ea_obj, er_bl, if_true, if_false, Bool.false_eq_true, Nat.reduceAdd, Nat.reduceSub, Bool.not_true, Bool.not_false, decide_true, decide_false, s_joined_row, tp, ad, lb, row_ini gl.l1 gl.l2]
    rfl
end
/-! ### what is drawn -/
theorem comp_draw {f : D → PenS → R (Option D)} {b : Int} : ∀ {ds : List D} {p : PenS}, (∀ d ∈ ds, ∀ p, PInv p → ∃ v p', f d p = .ok (some (.int v)) p' ∧ PInv p' ∧ 0 ≤ v ∧ v < b) → PInv p →
    ∃ (ws : W) (p' : PenS), compLoop (fun d p => (f d p).calm) ds p = .ok (ws.map D.int) p' ∧ PInv p' ∧ ws.length = ds.length ∧ ∀ v ∈ ws, 0 ≤ v ∧ v < b
  | [], p, _, hp => ⟨[], p, rfl, hp, rfl, fun v hv => by simp at hv⟩
  | d :: ds, p, h, hp => by
    obtain ⟨v, p1, e1, h1, h2⟩ := h d (by simp) p hp
    obtain ⟨ws, p2, e2, h3, h4, h5⟩ := comp_draw (ds := ds) (fun d hd => h d (by simp [hd])) h1
    refine ⟨v :: ws, p2, ?_, h3, by simp [h4], fun u hu => ?_⟩
    · simp only [compLoop, e1, calm_ok', R.bind_ok, e2]
      rfl
    · rcases List.mem_cons.mp hu with rfl | hu
      · exact h2
      · exact h5 u hu
theorem log_small {n : Int} (h : n.natAbs < 2 ^ 64) : n.natAbs.log2 < 9000 := by
  by_cases h0 : n.natAbs = 0
  · rw [h0]; decide
  · have := (Nat.log2_lt h0).mpr h
    omega
theorem draw' {p : PenS} (hp : PInv p) {many : Int} (h1 : 1 ≤ many) (h2 : many < 1000000) : ∃ v p', d__law_draw [.pen, .int many] p = .ok (.int v) p' ∧ PInv p' ∧ 0 ≤ v ∧ v < many := draw hp h1 (log_small (by omega))
theorem pick {p : PenS} (hp : PInv p) {xs : List D} (h1 : xs ≠ []) (h2 : xs.length < 1000) : ∃ v p', v ∈ xs ∧ d__law_pick [.pen, .lst xs] p = .ok v p' ∧ PInv p' := by
  have hl : 0 < xs.length := List.length_pos_iff.mpr h1
  obtain ⟨k, p', e, hp', k1, k2⟩ := draw' hp (many := (xs.length : Int)) (by omega) (by omega)
  have ix : idx (.lst xs) (.int k) = some (xs[k.toNat]'(by omega)) := by
    rw [ixD_lst, atI_nn k1 k2, List.getElem?_eq_getElem (by omega)]
  refine ⟨_, p', List.getElem_mem (h := show k.toNat < xs.length by omega), ?_, hp'⟩
  unfold d__law_pick
  simp -implicitDefEqProofs only [evFn, evSs, evS, evE, evT, evEs, evAnd, evOr, evAndT, evOrT, evO, evI, evOwn, R.bind_ok, R.of_some, se_d, se_u, se_o, sb_d, sb_u, sb_o, see, seeB, List.map_cons, List.map_nil, List.cons_append, List.nil_append, List.length_cons, List.length_nil, List.replicate_succ, List.replicate_zero, List.getElem?_cons_zero, List.getElem?_cons_succ, List.set_cons_zero, List.set_cons_succ, Option.join_some, Option.map_some, Option.map_none, Option.bind_some, setSl, tgSl, b_add, b_sub, b_mul, b_fdiv, b_mod, b_pow, b_addT, b_addL, b_mulT, b_mulL, deq_ii, deq_bb, c_eq, c_ne, c_lt, c_le, c_gt, c_ge, c_isN, c_isnN, c_isB, c_isnB, i_bl, i_non, i_int, i_str, i_tup, i_lst, non_non, non_int, non_tup, non_bl, t_non, t_bl, t_int, t_tup, t_lst, ixD_tup, ixD_lst, slD_tup, slD_lst, f_lenT, f_lenL, f_tupT, f_tupL, f_lstT, f_lstL, f_int, f_abs, f_max, f_min, f_all, f_any, f_sum, f_sorted, y_int, y_bl, y_non, y_str, y_tup, y_lst, y_obj, k_ii, k_ib, k_it, k_il, k_is, k_tt, k_tl, k_ti, k_tb, k_ll, k_lt, k_bi, k_bb, k_bt, k_bl, k_nt, k_ss, k_st, k_cc, ks_nil, ks_cons, as_int, pg_cells, pg_at, pg_digits, pg_count, pg_fold, ps_at, ps_digits, ps_count, ps_fold, q_tup, q_lst, z_tt, z_ll, ea_obj, er_bl, if_true, if_false, Bool.false_eq_true, Nat.reduceAdd, Nat.reduceSub, Bool.not_true, Bool.not_false, decide_true, decide_false, ir__law_pick, s__law_pick, e, ix]
/-- figures to m -/
def Fig (m : Int) (x : Rw) : Prop := x.2 ≠ [] ∧ (∀ v ∈ x.1, 0 ≤ v ∧ v ≤ m) ∧ ∀ v ∈ x.2, 0 ≤ v ∧ v ≤ m
theorem Fig.good {m : Int} {x : Rw} (h : Fig m x) (hl : x.1.length + x.2.length ≤ 400) : Good m x := ⟨h.1, h.2.1, h.2.2, hl⟩
theorem pw_mem {u : W} {k : Nat} {v : Int} (h : v ∈ pw u k) : v ∈ u := by
  unfold pw at h
  obtain ⟨l, hl, hv⟩ := List.mem_flatten.mp h
  rw [List.eq_of_mem_replicate hl] at hv
  exact hv
theorem drawn_items {p : PenS} (hp : PInv p) {m most : Int} (hm : 1 ≤ m ∧ m ≤ 20) (h1 : 1 ≤ most) (h2 : most ≤ 20) : ∃ x p', d__law_drawn_items [.pen, .int m, .int most] p = .ok (pr x) p' ∧ PInv p' ∧ Fig m x ∧ (x.1.length : Int) ≤ most ∧ (x.2.length : Int) ≤ 2 * most := by
  obtain ⟨k1, p1, e1, hp1, a1, a2⟩ := draw' hp (many := most + 1) (by omega) (by omega)
  have r1 : rngOf 0 k1 = some (rng 0 k1) := rngOf_ok (by omega) (by omega)
  have l1 : (rng 0 k1).length ≤ sizeLine := by rw [rng_length]; exact len_line (by omega)
  have dr : ∀ (f : D → PenS → R (Option D)) (ds : List D) (p : PenS), (∀ d ∈ ds, ∀ p, f d p = (d__law_draw [.pen, .int (m + 1)] p).bind fun x p => .ok (some x) p) → PInv p → ∃ (ws : W) (p' : PenS), compLoop (fun d p => (f d p).calm) ds p = .ok (ws.map D.int) p' ∧ PInv p' ∧ ws.length = ds.length ∧ ∀ v ∈ ws, 0 ≤ v ∧ v < m + 1 :=
    fun f ds p hf hp => comp_draw (fun d hd p hp => by
      obtain ⟨v, p', e, q⟩ := draw' hp (many := m + 1) (by omega) (by omega)
      exact ⟨v, p', by rw [hf d hd, e]; rfl, q⟩) hp
  -- the word ahead
  obtain ⟨a, p2, ea, hp2, la, fa⟩ := dr (fun d p => (d__law_draw [.pen, .int (m + 1)] p).bind fun x p => .ok (some x) p) (rng 0 k1) p1 (fun _ _ _ => rfl) hp1
  obtain ⟨k3, p3, e3, hp3, b1, b2⟩ := draw' hp2 (many := most) (by omega) (by omega)
  have r3 : rngOf 0 (1 + k3) = some (rng 0 (1 + k3)) := rngOf_ok (by omega) (by omega)
  have l3 : (rng 0 (1 + k3)).length ≤ sizeLine := by rw [rng_length]; exact len_line (by omega)
  obtain ⟨r, p4, er, hp4, lr, fr⟩ := dr (fun d p => (d__law_draw [.pen, .int (m + 1)] p).bind fun x p => .ok (some x) p) (rng 0 (1 + k3)) p3 (fun _ _ _ => rfl) hp3
  obtain ⟨t, p5, ht, e5, hp5⟩ := pick hp4 (xs := [.int 1, .int 1, .int 2]) (by simp) (by simp)
  rw [rng_length] at la lr
  have hk : ∃ k : Nat, (k = 1 ∨ k = 2) ∧ t = .int (k : Nat) := by
    simp only [List.mem_cons, List.not_mem_nil, or_false] at ht
    rcases ht with rfl | rfl | rfl
    · exact ⟨1, .inl rfl, rfl⟩
    · exact ⟨1, .inl rfl, rfl⟩
    · exact ⟨2, .inr rfl, rfl⟩
  obtain ⟨k, hk, rfl⟩ := hk
  have mt : Mi.bin .mul (tI r) (.int (k : Nat)) = some (tI (pw r k)) := mul_tI (by omega) (by omega) (by omega)
  have pl := pw_len r k
  have hkl : k * r.length ≤ 2 * r.length := Nat.mul_le_mul_right _ (by omega)
  have hkg : 1 * r.length ≤ k * r.length := Nat.mul_le_mul_right _ (by omega)
  refine ⟨(a, pw r k), p5, ?_, hp5, ⟨fun z => ?_, fun v hv => ?_, fun v hv => ?_⟩, by show ((a.length : Nat) : Int) ≤ most; omega, by show (((pw r k).length : Nat) : Int) ≤ 2 * most; omega⟩
  · unfold d__law_drawn_items
    simp -implicitDefEqProofs only [evFn, evSs, evS, evE, evT, evEs, evAnd, evOr, evAndT, evOrT, evO, evI, evOwn, R.bind_ok, R.of_some, se_d, se_u, se_o, sb_d, sb_u, sb_o, see, seeB, List.map_cons, List.map_nil, List.cons_append, List.nil_append, List.length_cons, List.length_nil, List.replicate_succ, List.replicate_zero, List.getElem?_cons_zero, List.getElem?_cons_succ, List.set_cons_zero, List.set_cons_succ, Option.join_some, Option.map_some, Option.map_none, Option.bind_some, setSl, tgSl, b_add, b_sub, b_mul, b_fdiv, b_mod, b_pow, b_addT, b_addL, b_mulT, b_mulL, deq_ii, deq_bb, c_eq, c_ne, c_lt, c_le, c_gt, c_ge, c_isN, c_isnN, c_isB, c_isnB, i_bl, i_non, i_int, i_str, i_tup, i_lst, non_non, non_int, non_tup, non_bl, t_non, t_bl, t_int, t_tup, t_lst, ixD_tup, ixD_lst, slD_tup, slD_lst, f_lenT, f_lenL, f_tupT, f_tupL, f_lstT, f_lstL, f_int, f_abs, f_max, f_min, f_all, f_any, f_sum, f_sorted, y_int, y_bl, y_non, y_str, y_tup, y_lst, y_obj, k_ii, k_ib, k_it, k_il, k_is, k_tt, k_tl, k_ti, k_tb, k_ll, k_lt, k_bi, k_bb, k_bt, k_bl, k_nt, k_ss, k_st, k_cc, ks_nil, ks_cons, as_int, pg_cells, pg_at, pg_digits, pg_count, pg_fold, ps_at, ps_digits, ps_count, ps_fold, q_tup, q_lst, z_tt, z_ll, ea_obj, er_bl, if_true, if_false, Bool.false_eq_true, Nat.reduceAdd, Nat.reduceSub, Bool.not_true, Bool.not_false, decide_true, decide_false, ir__law_drawn_items, s__law_drawn_items, e1, as_int, r1, l1, wipeD, asgTg]
    rw [ea]
    simp -implicitDefEqProofs only [evFn, evSs, evS, evE, evT, evEs, evAnd, evOr, evAndT, evOrT, evO, evI, evOwn, R.bind_ok, R.of_some, se_d, se_u, se_o, sb_d, sb_u, sb_o, see, seeB, List.map_cons, List.map_nil, List.cons_append, List.nil_append, List.length_cons, List.length_nil, List.replicate_succ, List.replicate_zero, List.getElem?_cons_zero, List.getElem?_cons_succ, List.set_cons_zero, List.set_cons_succ, Option.join_some, Option.map_some, Option.map_none, Option.bind_some, setSl, tgSl, b_add, b_sub, b_mul, b_fdiv, b_mod, b_pow, b_addT, b_addL, b_mulT, b_mulL, deq_ii, deq_bb, c_eq, c_ne, c_lt, c_le, c_gt, c_ge, c_isN, c_isnN, c_isB, c_isnB, i_bl, i_non, i_int, i_str, i_tup, i_lst, non_non, non_int, non_tup, non_bl, t_non, t_bl, t_int, t_tup, t_lst, ixD_tup, ixD_lst, slD_tup, slD_lst, f_lenT, f_lenL, f_tupT, f_tupL, f_lstT, f_lstL, f_int, f_abs, f_max, f_min, f_all, f_any, f_sum, f_sorted, y_int, y_bl, y_non, y_str, y_tup, y_lst, y_obj, k_ii, k_ib, k_it, k_il, k_is, k_tt, k_tl, k_ti, k_tb, k_ll, k_lt, k_bi, k_bb, k_bt, k_bl, k_nt, k_ss, k_st, k_cc, ks_nil, ks_cons, as_int, pg_cells, pg_at, pg_digits, pg_count, pg_fold, ps_at, ps_digits, ps_count, ps_fold, q_tup, q_lst, z_tt, z_ll, ea_obj, er_bl, if_true, if_false, Bool.false_eq_true, Nat.reduceAdd, Nat.reduceSub, Bool.not_true, Bool.not_false, decide_true, decide_false, s__law_drawn_items, e3, as_int, r3, l3, wipeD, asgTg]
    rw [er]
    have e5' : d__law_pick [.pen, .lst [.int 1, .int 1, .int 2]] p4 = .ok (.int (k : Nat)) p5 := e5
    have fe : ∀ xs : W, D.tup (xs.map D.int) = tI xs := fun _ => rfl
    simp -implicitDefEqProofs only [evFn, evSs, evS, evE, evT, evEs, evAnd, evOr, evAndT, evOrT, evO, evI, evOwn, R.bind_ok, R.of_some, se_d, se_u, se_o, sb_d, sb_u, sb_o, see, seeB, List.map_cons, List.map_nil, List.cons_append, List.nil_append, List.length_cons, List.length_nil, List.replicate_succ, List.replicate_zero, List.getElem?_cons_zero, List.getElem?_cons_succ, List.set_cons_zero, List.set_cons_succ, Option.join_some, Option.map_some, Option.map_none, Option.bind_some, setSl, tgSl, b_add, b_sub, b_mul, b_fdiv, b_mod, b_pow, b_addT, b_addL, b_mulT, b_mulL, deq_ii, deq_bb, c_eq, c_ne, c_lt, c_le, c_gt, c_ge, c_isN, c_isnN, c_isB, c_isnB, i_bl, i_non, i_int, i_str, i_tup, i_lst, non_non, non_int, non_tup, non_bl, t_non, t_bl, t_int, t_tup, t_lst, ixD_tup, ixD_lst, slD_tup, slD_lst, f_lenT, f_lenL, f_tupT, f_tupL, f_lstT, f_lstL, f_int, f_abs, f_max, f_min, f_all, f_any, f_sum, f_sorted, y_int, y_bl, y_non, y_str, y_tup, y_lst, y_obj, k_ii, k_ib, k_it, k_il, k_is, k_tt, k_tl, k_ti, k_tb, k_ll, k_lt, k_bi, k_bb, k_bt, k_bl, k_nt, k_ss, k_st, k_cc, ks_nil, ks_cons, as_int, pg_cells, pg_at, pg_digits, pg_count, pg_fold, ps_at, ps_digits, ps_count, ps_fold, q_tup, q_lst, z_tt, z_ll, ea_obj, er_bl, if_true, if_false, Bool.false_eq_true, Nat.reduceAdd, Nat.reduceSub, Bool.not_true, Bool.not_false, decide_true, decide_false, s__law_drawn_items, sz3, sz2, e5', fe, mt]
    rfl
  · have : (pw r k).length = 0 := by rw [show pw r k = [] from z]; rfl
    omega
  · have := fa v hv; omega
  · have := fr v (pw_mem hv); omega
theorem map_item {β : Type} {x : Rw} {f : D → PenS → R (Option D)} {n : Nat} {p : PenS} (hf : ∀ i : Nat, i < n → f (.int i) p = .ok (some (.int (itm x i))) p) (k : List D → PenS → R β) :
    (compLoop (fun d p => (f d p).calm) (rng 0 (n : Int)) p).bind k = k (((List.range n).map (itm x)).map D.int) p := by
  rw [compF (g := fun d => match d with | .int i => some (.int (itm x i.toNat)) | _ => none)]
  · congr 1
    have e : rng 0 (n : Int) = (List.range n).map fun i => D.int (i : Nat) := by
      have := rng_nat 0 n
      rw [Nat.sub_zero, ← List.range_eq_range'] at this
      exact this
    rw [e, List.filterMap_map, List.map_map]
    induction List.range n with
    | nil => rfl
    | cons i l ih => simp only [List.filterMap_cons, Function.comp_apply, Int.toNat_natCast, List.map_cons, ih]
  · intro d hd
    obtain ⟨i, hi, rfl⟩ := mem_rng0 hd
    rw [hf i hi]
    rfl
theorem itm_mem {m : Int} {x : Rw} (h : Fig m x) (i : Nat) : 0 ≤ itm x i ∧ itm x i ≤ m := by
  have hp : 0 < x.2.length := List.length_pos_iff.mpr h.1
  unfold itm item
  split
  · rename_i c
    rw [gD _ c]
    exact h.2.1 _ (List.getElem_mem c)
  · unfold cyc
    have hk := Nat.mod_lt (i - x.1.length) hp
    rw [gD _ hk]
    exact h.2.2 _ (List.getElem_mem hk)
theorem beside_row {p : PenS} (hp : PInv p) {m : Int} (hm : 1 ≤ m ∧ m ≤ 20) {x : Rw} (hx : Fig m x) : ∃ y p', d__law_beside_row [.pen, .int m, pr x] p = .ok (pr y) p' ∧ PInv p' ∧ Fig m y ∧ y.1.length ≤ 10 ∧ y.2.length ≤ 6 := by
  obtain ⟨k1, p1, e1, hp1, a1, a2⟩ := draw' hp (many := 8) (by omega) (by omega)
  obtain ⟨o, p2, e2, hp2, fo, lo1, lo2⟩ := drawn_items hp1 hm (most := 3) (by omega) (by omega)
  obtain ⟨n, rfl⟩ : ∃ n : Nat, k1 = (n : Int) := ⟨k1.toNat, by omega⟩
  have r1 : rngOf 0 (n : Int) = some (rng 0 (n : Int)) := rngOf_ok (by omega) (by omega)
  have l1 : (rng 0 (n : Int)).length ≤ sizeLine := by rw [rng_length]; exact len_line (by omega)
  have wl : ((List.range n).map (itm x)).length = n := by simp
  have ad : Mi.bin .add (tI ((List.range n).map (itm x))) (tI o.1) = some (tI ((List.range n).map (itm x) ++ o.1)) := add_tI (by omega)
  refine ⟨((List.range n).map (itm x) ++ o.1, o.2), p2, ?_, hp2, ⟨fo.1, fun v hv => ?_, fo.2.2⟩, by simp only [List.length_append, wl]; omega, by simp only; omega⟩
  · unfold d__law_beside_row
    simp -implicitDefEqProofs only [evFn, evSs, evS, evE, evT, evEs, evAnd, evOr, evAndT, evOrT, evO, evI, evOwn, R.bind_ok, R.of_some, se_d, se_u, se_o, sb_d, sb_u, sb_o, see, seeB, List.map_cons, List.map_nil, List.cons_append, List.nil_append, List.length_cons, List.length_nil, List.replicate_succ, List.replicate_zero, List.getElem?_cons_zero, List.getElem?_cons_succ, List.set_cons_zero, List.set_cons_succ, Option.join_some, Option.map_some, Option.map_none, Option.bind_some, setSl, tgSl, b_add, b_sub, b_mul, b_fdiv, b_mod, b_pow, b_addT, b_addL, b_mulT, b_mulL, deq_ii, deq_bb, c_eq, c_ne, c_lt, c_le, c_gt, c_ge, c_isN, c_isnN, c_isB, c_isnB, i_bl, i_non, i_int, i_str, i_tup, i_lst, non_non, non_int, non_tup, non_bl, t_non, t_bl, t_int, t_tup, t_lst, ixD_tup, ixD_lst, slD_tup, slD_lst, f_lenT, f_lenL, f_tupT, f_tupL, f_lstT, f_lstL, f_int, f_abs, f_max, f_min, f_all, f_any, f_sum, f_sorted, y_int, y_bl, y_non, y_str, y_tup, y_lst, y_obj, k_ii, k_ib, k_it, k_il, k_is, k_tt, k_tl, k_ti, k_tb, k_ll, k_lt, k_bi, k_bb, k_bt, k_bl, k_nt, k_ss, k_st, k_cc, ks_nil, ks_cons, as_int, pg_cells, pg_at, pg_digits, pg_count, pg_fold, ps_at, ps_digits, ps_count, ps_fold, q_tup, q_lst, z_tt, z_ll, ea_obj, er_bl, if_true, if_false, Bool.false_eq_true, Nat.reduceAdd, Nat.reduceSub, Bool.not_true, Bool.not_false, decide_true, decide_false, ir__law_beside_row, s__law_beside_row, e1, e2, as_int, r1, l1, wipeD, asgTg]
    simp only [bind_assoc']
    rw [map_item (x := x)]
    · have fe : ∀ xs : W, D.tup (xs.map D.int) = tI xs := fun _ => rfl
      simp -implicitDefEqProofs only [evFn, evSs, evS, evE, evT, evEs, evAnd, evOr, evAndT, evOrT, evO, evI, evOwn, R.bind_ok, R.of_some, se_d, se_u, se_o, sb_d, sb_u, sb_o, see, seeB, List.map_cons, List.map_nil, List.cons_append, List.nil_append, List.length_cons, List.length_nil, List.replicate_succ, List.replicate_zero, List.getElem?_cons_zero, List.getElem?_cons_succ, List.set_cons_zero, List.set_cons_succ, Option.join_some, Option.map_some, Option.map_none, Option.bind_some, setSl, tgSl, b_add, b_sub, b_mul, b_fdiv, b_mod, b_pow, b_addT, b_addL, b_mulT, b_mulL, deq_ii, deq_bb, c_eq, c_ne, c_lt, c_le, c_gt, c_ge, c_isN, c_isnN, c_isB, c_isnB, i_bl, i_non, i_int, i_str, i_tup, i_lst, non_non, non_int, non_tup, non_bl, t_non, t_bl, t_int, t_tup, t_lst, ixD_tup, ixD_lst, slD_tup, slD_lst, f_lenT, f_lenL, f_tupT, f_tupL, f_lstT, f_lstL, f_int, f_abs, f_max, f_min, f_all, f_any, f_sum, f_sorted, y_int, y_bl, y_non, y_str, y_tup, y_lst, y_obj, k_ii, k_ib, k_it, k_il, k_is, k_tt, k_tl, k_ti, k_tb, k_ll, k_lt, k_bi, k_bb, k_bt, k_bl, k_nt, k_ss, k_st, k_cc, ks_nil, ks_cons, as_int, pg_cells, pg_at, pg_digits, pg_count, pg_fold, ps_at, ps_digits, ps_count, ps_fold, q_tup, q_lst, z_tt, z_ll, ea_obj, er_bl, if_true, if_false, Bool.false_eq_true, Nat.reduceAdd, Nat.reduceSub, Bool.not_true, Bool.not_false, decide_true, decide_false, s__law_beside_row, fe, ix0, ix1, ad, sz2]
      rfl
    · intro i hi
      simp -implicitDefEqProofs only [evFn, evSs, evS, evE, evT, evEs, evAnd, evOr, evAndT, evOrT, evO, evI, evOwn, R.bind_ok, R.of_some, se_d, se_u, se_o, sb_d, sb_u, sb_o, see, seeB, List.map_cons, List.map_nil, List.cons_append, List.nil_append, List.length_cons, List.length_nil, List.replicate_succ, List.replicate_zero, List.getElem?_cons_zero, List.getElem?_cons_succ, List.set_cons_zero, List.set_cons_succ, Option.join_some, Option.map_some, Option.map_none, Option.bind_some, setSl, tgSl, b_add, b_sub, b_mul, b_fdiv, b_mod, b_pow, b_addT, b_addL, b_mulT, b_mulL, deq_ii, deq_bb, c_eq, c_ne, c_lt, c_le, c_gt, c_ge, c_isN, c_isnN, c_isB, c_isnB, i_bl, i_non, i_int, i_str, i_tup, i_lst, non_non, non_int, non_tup, non_bl, t_non, t_bl, t_int, t_tup, t_lst, ixD_tup, ixD_lst, slD_tup, slD_lst, f_lenT, f_lenL, f_tupT, f_tupL, f_lstT, f_lstL, f_int, f_abs, f_max, f_min, f_all, f_any, f_sum, f_sorted, y_int, y_bl, y_non, y_str, y_tup, y_lst, y_obj, k_ii, k_ib, k_it, k_il, k_is, k_tt, k_tl, k_ti, k_tb, k_ll, k_lt, k_bi, k_bb, k_bt, k_bl, k_nt, k_ss, k_st, k_cc, ks_nil, ks_cons, as_int, pg_cells, pg_at, pg_digits, pg_count, pg_fold, ps_at, ps_digits, ps_count, ps_fold, q_tup, q_lst, z_tt, z_ll, ea_obj, er_bl, if_true, if_false, Bool.false_eq_true, Nat.reduceAdd, Nat.reduceSub, Bool.not_true, Bool.not_false, decide_true, decide_false, law_item_i hx.1]
      rfl
  · rcases List.mem_append.mp hv with z | z
    · obtain ⟨i, _, rfl⟩ := List.mem_map.mp z
      exact itm_mem hx i
    · exact fo.2.1 v z
end Lk07

set_option Elab.async false
set_option linter.all false
set_option maxRecDepth 100000
set_option maxHeartbeats 1000000
namespace Lk07
open PySem PySem.Spec PyProof.Rows L2 Mi RowP
/-! ### tails, joined rows, plainly -/
theorem rot_cyc {r : W} (hr : r ≠ []) {k : Nat} (hk : k < r.length) (i : Nat) : cyc (rot r k) i = cyc r (i + k) := by
  have hp : 0 < r.length := List.length_pos_iff.mpr hr
  have hl := rot_len r (Nat.le_of_lt hk)
  have hi : i % r.length < r.length := Nat.mod_lt _ hp
  have e : (i + k) % r.length = (i % r.length + k) % r.length := by rw [Nat.add_mod, Nat.mod_eq_of_lt hk]
  unfold cyc
  rw [hl, e]
  generalize i % r.length = j at hi
  unfold rot
  by_cases c : j < r.length - k
  · rw [gDl (by rw [List.length_drop]; exact c), Nat.mod_eq_of_lt (by omega), gD _ (by rw [List.length_drop]; exact c), gD _ (by omega), List.getElem_drop]
    congr 1; omega
  · rw [gDr (by rw [List.length_drop]; omega), List.length_drop, show (j + k) % r.length = j + k - r.length by rw [Nat.mod_eq_sub_mod (by omega), Nat.mod_eq_of_lt (by omega)]]
    rw [gD _ (by rw [List.length_take]; omega), gD _ (by omega), List.getElem_take]
    congr 1; omega
theorem itm_tail {x : Rw} (hx : x.2 ≠ []) (n i : Nat) : itm (tailF x n) i = itm x (n + i) := by
  have hp : 0 < x.2.length := List.length_pos_iff.mpr hx
  unfold itm tailF
  by_cases c : n ≤ x.1.length
  · rw [if_pos c]
    unfold item
    simp only [List.length_drop]
    by_cases d : i < x.1.length - n
    · rw [if_pos d, if_pos (by omega), gD _ (by rw [List.length_drop]; exact d), gD _ (by omega), List.getElem_drop]
    · rw [if_neg d, if_neg (by omega)]
      congr 1; omega
  · rw [if_neg c]
    have hk := Nat.mod_lt (n - x.1.length) hp
    unfold item
    simp only [List.length_nil, Nat.not_lt_zero, if_false, Nat.sub_zero]
    rw [if_neg (by omega), rot_cyc hx hk]
    unfold cyc
    congr 1
    rw [Nat.add_mod, Nat.mod_mod, ← Nat.add_mod]
    congr 1; omega
theorem itm_join {x t : Rw} {n : Nat} (h : ∀ i, itm t i = itm x (n + i)) (i : Nat) : itm ((List.range n).map (itm x) ++ t.1, t.2) i = itm x i := by
  show item ((List.range n).map (itm x) ++ t.1) t.2 i = itm x i
  by_cases c : i < n
  · unfold item
    rw [if_pos (by simp; omega), gDl (by simpa using c), gD _ (by simpa using c), List.getElem_map, List.getElem_range]
  · have := h (i - n)
    rw [show n + (i - n) = i by omega] at this
    rw [← this]
    show item _ _ i = item t.1 t.2 (i - n)
    unfold item
    simp only [List.length_append, List.length_map, List.length_range]
    by_cases d : i < n + t.1.length
    · rw [if_pos d, if_pos (by omega), gDr (by simp; omega)]
      simp
    · rw [if_neg d, if_neg (by omega)]
      congr 1; omega
theorem least_iff {x y : Rw} (hx : x.2 ≠ []) (hy : y.2 ≠ []) : least x.1 x.2 = least y.1 y.2 ↔ ∀ n, itm x n = itm y n := canon hx hy
theorem itm_least {x : Rw} (hx : x.2 ≠ []) (i : Nat) : itm (least x.1 x.2) i = itm x i := (least_ok hx).2 i
/-! ### first unlike places -/
theorem itm_perk {x : Rw} {n : Nat} (h : x.1.length ≤ n) (k : Nat) : itm x (n + k * x.2.length) = itm x n := item_perk h k
theorem alike {x y : Rw} (hx : x.2 ≠ []) (hy : y.2 ≠ []) (h : ∀ i, i < bnd x y → itm x i = itm y i) : ∀ n, itm x n = itm y n := by
  have hp : 0 < x.2.length := List.length_pos_iff.mpr hx
  have hq : 0 < y.2.length := List.length_pos_iff.mpr hy
  have hpq : 0 < x.2.length * y.2.length := Nat.mul_pos hp hq
  intro n
  induction n using Nat.strongRecOn with
  | _ n ih =>
    by_cases c : n < bnd x y
    · exact h n c
    · unfold bnd at c
      have e1 := itm_perk (x := x) (n := n - x.2.length * y.2.length) (by omega) y.2.length
      have e2 := itm_perk (x := y) (n := n - x.2.length * y.2.length) (by omega) x.2.length
      rw [Nat.mul_comm y.2.length x.2.length, Nat.sub_add_cancel (by omega)] at e1
      rw [Nat.sub_add_cancel (by omega)] at e2
      rw [e1, e2]
      exact ih _ (by omega)
theorem unl_none {x y : Rw} {n : Nat} : unl x y n = none ↔ ∀ i, i < n → itm x i = itm y i := by
  unfold unl
  rw [List.find?_eq_none]
  simp only [List.mem_range, decide_eq_true_eq]
  exact ⟨fun h i hi => Classical.byContradiction fun c => h i hi c, fun h i hi c => c (h i hi)⟩
theorem unl_some {x y : Rw} {n i : Nat} : unl x y n = some i ↔ i < n ∧ itm x i ≠ itm y i ∧ ∀ j, j < i → itm x j = itm y j := by
  unfold unl
  rw [List.find?_range_eq_some]
  simp only [decide_eq_true_eq, List.mem_range, Bool.not_eq_true', decide_eq_false_iff_not, ne_eq, Decidable.not_not]
  constructor
  · rintro ⟨h1, h2, h3⟩; exact ⟨h2, h1, h3⟩
  · rintro ⟨h1, h2, h3⟩; exact ⟨h2, h1, h3⟩
theorem unl_bnd {x y : Rw} (hx : x.2 ≠ []) (hy : y.2 ≠ []) : unl x y (bnd x y + 1) = unl x y (bnd x y) := by
  cases q : unl x y (bnd x y) with
  | none => exact unl_none.mpr fun i _ => alike hx hy (unl_none.mp q) i
  | some i =>
    obtain ⟨h1, h2, h3⟩ := unl_some.mp q
    exact unl_some.mpr ⟨by omega, h2, h3⟩
theorem unl_all {x y : Rw} (hx : x.2 ≠ []) (hy : y.2 ≠ []) : unl x y (bnd x y) = none ↔ ∀ n, itm x n = itm y n :=
  ⟨fun h => alike hx hy (unl_none.mp h), fun h => unl_none.mpr fun i _ => h i⟩
def trn (m : Int) (x : Rw) : Rw := (x.1.map (m - ·), x.2.map (m - ·))
theorem itm_trn {m : Int} {x : Rw} (hx : x.2 ≠ []) (i : Nat) : itm (trn m x) i = m - itm x i := by
  have hp : 0 < x.2.length := List.length_pos_iff.mpr hx
  unfold itm trn item cyc
  simp only [List.length_map]
  split
  · rename_i c; rw [gD _ (by simpa using c), gD _ c, List.getElem_map]
  · have hk := Nat.mod_lt (i - x.1.length) hp
    rw [gD _ (by simpa using hk), gD _ hk, List.getElem_map]
theorem bnd_trn {m : Int} {x y : Rw} : bnd (trn m y) (trn m x) = bnd x y := by
  unfold bnd trn
  simp only [List.length_map]
  rw [Nat.max_comm, Nat.mul_comm]
theorem unl_trn {m : Int} {x y : Rw} (hx : x.2 ≠ []) (hy : y.2 ≠ []) : unl (trn m y) (trn m x) (bnd (trn m y) (trn m x)) = unl x y (bnd x y) := by
  rw [bnd_trn]
  unfold unl
  congr 1
  funext i
  rw [itm_trn hx, itm_trn hy]
  by_cases c : itm x i = itm y i
  · simp [c]
  · have : ¬ m - itm y i = m - itm x i := by omega
    simp [c, this]
theorem below_trn {m : Int} {x y : Rw} (hx : x.2 ≠ []) (hy : y.2 ≠ []) (o : Option Nat) : below (trn m y) (trn m x) o = below x y o := by
  cases o with
  | none => rfl
  | some i =>
    unfold below
    simp only [itm_trn hx, itm_trn hy]
    by_cases c : itm x i < itm y i
    · have : m - itm y i < m - itm x i := by omega
      simp [c, this]
    · have : ¬ m - itm y i < m - itm x i := by omega
      simp [c, this]
/-! ### of three places the least two are one -/
def plc (o : Option Nat) : Nat := match o with
  | none => 100
  | some i => i
def Plc (x y : Rw) (v : Nat) : Prop := v ≤ 100 ∧ (∀ j, j < v → itm x j = itm y j) ∧ (v < 100 → itm x v ≠ itm y v)
theorem plc_tri {x y z : Rw} {a b c : Nat} (h1 : Plc x y a) (h2 : Plc y z b) (h3 : Plc x z c) : min a b ≤ c ∧ min a c ≤ b ∧ min b c ≤ a := by
  refine ⟨?_, ?_, ?_⟩
  · rcases Nat.lt_or_ge c (min a b) with h | h
    · exact absurd ((h1.2.1 c (by omega)).trans (h2.2.1 c (by omega))) (h3.2.2 (by have := h1.1; omega))
    · exact h
  · rcases Nat.lt_or_ge b (min a c) with h | h
    · exact absurd ((h1.2.1 b (by omega)).symm.trans (h3.2.1 b (by omega))) (h2.2.2 (by have := h1.1; omega))
    · exact h
  · rcases Nat.lt_or_ge a (min b c) with h | h
    · exact absurd ((h3.2.1 a (by omega)).trans (h2.2.1 a (by omega)).symm) (h1.2.2 (by have := h2.1; omega))
    · exact h
theorem sort3 {a b c : Int} (h1 : min a b ≤ c) (h2 : min a c ≤ b) (h3 : min b c ≤ a) : ∃ u v, [a, b, c].mergeSort (fun x y => decide (x ≤ y)) = [u, u, v] := by
  have pm := List.mergeSort_perm [a, b, c] (fun x y => decide (x ≤ y))
  have so := List.pairwise_mergeSort (le := fun x y : Int => decide (x ≤ y)) (fun x y z h k => by simp at *; omega) (fun x y => by simp; omega) [a, b, c]
  have hl := pm.length_eq
  generalize [a, b, c].mergeSort (fun x y => decide (x ≤ y)) = l at pm so hl
  match l, hl with
  | [u, w, v], _ =>
    simp only [List.pairwise_cons, List.mem_cons, List.not_mem_nil, or_false, forall_eq_or_imp, forall_eq, decide_eq_true_eq] at so
    refine ⟨u, v, ?_⟩
    by_cases c1 : u = w
    · subst c1; rfl
    · exfalso
      have hc := pm.count_eq u
      have hm : u ∈ [a, b, c] := pm.subset (by simp)
      have ha : a ∈ [u, w, v] := pm.symm.subset (by simp)
      have hb : b ∈ [u, w, v] := pm.symm.subset (by simp)
      have hcc : c ∈ [u, w, v] := pm.symm.subset (by simp)
      simp only [List.mem_cons, List.not_mem_nil, or_false] at hm ha hb hcc
      simp only [List.count_cons, List.count_nil, beq_iff_eq] at hc
      have g1 : ∀ x, x = u ∨ x = w ∨ x = v → u ≤ x := fun x hx => by rcases hx with rfl | rfl | rfl <;> omega
      have := g1 a ha; have := g1 b hb; have := g1 c hcc
      have wv : w ≠ u := Ne.symm c1
      have vu : v ≠ u := by omega
      simp only [wv, vu, if_true, if_false] at hc
      split at hc <;> split at hc <;> split at hc <;> omega
end Lk07

set_option Elab.async false
set_option linter.all false
set_option maxRecDepth 100000
set_option maxHeartbeats 2000000
namespace Lk07
open PySem PySem.Spec PyProof.Rows L2 Mi RowP
def headS : ISs → IS
  | .cons a _ => a
  | _ => .pas
def forB : IS → ISs
  | .for_ _ _ b => b
  | _ => .nil
theorem evSs_nx {S : Sem0} {a : IS} {r : ISs} {ρ ρ1 : SEnv} {p p1 : PenS} {res : R (Fl × SEnv)} (h1 : evS S a ρ p = .ok (.nx, ρ1) p1) (h2 : evSs S r ρ1 p1 = res) : evSs S (.cons a r) ρ p = res := by
  rw [evSs_cons, h1]; exact h2
theorem evSs_nil {S : Sem0} {ρ : SEnv} {p : PenS} : evSs S .nil ρ p = .ok (.nx, ρ) p := by rw [evSs]
theorem ea_ob (a b : Rw) : eqArgs 0 (ob a) (ob b) = some [ob a, ob b] := rfl
abbrev B1 : ISs := forB (headS (dropSs 5 ir__law_right))
/-- rows that the law makes -/
def Row0 (m : Int) (x : Rw) : Prop := Fig m x ∧ x.1.length ≤ 20 ∧ x.2.length ≤ 20
theorem Row0.good {m : Int} {x : Rw} (h : Row0 m x) : Good m x := h.1.good (by have := h.2.1; have := h.2.2; omega)
theorem body1 {p : PenS} (hp : PInv p) {m : Int} (hm : 1 ≤ m ∧ m ≤ 20) {x : Rw} (hx : Row0 m x) (P Rr z3 z5 z8 z9 z10 z11 z12 z13 z14 z15 z16 z17 z18 z19 z20 z21 : Sl) :
    ∃ y3 y5 y6 y7 y8 y9 y10 y11 y12 y13 y14 y15 y16 y17 y18 y19 y20 y21 p', evSs S__law_right B1 [.d .pen, .d (.int m), P, z3, Rr, z5, .d (ob x), .d (pr x), z8, z9, z10, z11, z12, z13, z14, z15, z16, z17, z18, z19, z20, z21] p =
      .ok (.nx, [.d .pen, .d (.int m), P, y3, Rr, y5, y6, y7, y8, y9, y10, y11, y12, y13, y14, y15, y16, y17, y18, y19, y20, y21]) p' ∧ PInv p' := by
  have gx := hx.good
  have hx2 : x.2 ≠ [] := gx.1
  obtain ⟨a', p1, e1, hp1, a1, a2⟩ := draw' hp (many := 12) (by omega) (by omega)
  obtain ⟨a, rfl⟩ : ∃ n : Nat, a' = (n : Int) := ⟨a'.toNat, by omega⟩
  obtain ⟨f', p2, e2, hp2, f1, f2⟩ := draw' hp1 (many := 9) (by omega) (by omega)
  obtain ⟨f, rfl⟩ : ∃ n : Nat, f' = (n : Int) := ⟨f'.toNat, by omega⟩
  have ra : rngOf 0 (a : Int) = some (rng 0 (a : Int)) := rngOf_ok (by omega) (by omega)
  have la : (rng 0 (a : Int)).length ≤ sizeLine := by rw [rng_length]; exact len_line (by omega)
  have rf : rngOf 0 (f : Int) = some (rng 0 (f : Int)) := rngOf_ok (by omega) (by omega)
  have lf : (rng 0 (f : Int)).length ≤ sizeLine := by rw [rng_length]; exact len_line (by omega)
  obtain ⟨v, p3, hv, e3, hp3⟩ := pick hp2 (xs := [.lst (((List.range a).map (itm x)).map D.int), tI ((List.range a).map (itm x))]) (by simp) (by simp)
  obtain ⟨more, p4, e4, hp4, lm, fm4⟩ := comp_draw (f := fun d p => (d__law_draw [.pen, .int (m + 1)] p).bind fun x p => .ok (some x) p) (b := m + 1) (ds := rng 0 (f : Int)) (p := p3) (fun d hd p hp => by
      obtain ⟨v, p', e, q⟩ := draw' hp (many := m + 1) (by omega) (by omega)
      exact ⟨v, p', by rw [e]; rfl, q⟩) hp3
  rw [rng_length] at lm
  -- tails
  have gt : ∀ n, Good m (least (tailF x n).1 (tailF x n).2) := fun n => Good.least (a := (tailF x n).1) (r := (tailF x n).2) (gx.tail n)
  have it : ∀ n i, itm (least (tailF x n).1 (tailF x n).2) i = itm x (n + i) := fun n i => by rw [itm_least (gx.tail n).1, itm_tail hx2]
  have jn : least (((List.range a).map (itm x)) ++ (least (tailF x a).1 (tailF x a).2).1) (least (tailF x a).1 (tailF x a).2).2 = least x.1 x.2 :=
    (least_iff (x := (((List.range a).map (itm x)) ++ (least (tailF x a).1 (tailF x a).2).1, (least (tailF x a).1 (tailF x a).2).2)) (gt a).1 hx2).mpr fun i => itm_join (it a) i
  have tt : least (tailF (least (tailF x a).1 (tailF x a).2) f).1 (tailF (least (tailF x a).1 (tailF x a).2) f).2 = least (tailF x (a + f)).1 (tailF x (a + f)).2 :=
    (least_iff ((gt a).tail f).1 (gx.tail (a + f)).1).mpr fun i => by rw [itm_tail (gt a).1, it, itm_tail hx2]; rw [Nat.add_assoc]
  -- sizes
  have tlen : (least (tailF x a).1 (tailF x a).2).1.length + (least (tailF x a).1 (tailF x a).2).2.length ≤ 60 := by
    obtain ⟨q1, q2, _⟩ := least_len (a := (tailF x a).1) (r := (tailF x a).2) (gx.tail a).1
    have : (tailF x a).1.length + (tailF x a).2.length ≤ 60 := by
      have h1 := hx.2.1; have h2 := hx.2.2
      unfold tailF
      split
      · simp only [List.length_drop]; omega
      · have hk := Nat.mod_lt (a - x.1.length) (List.length_pos_iff.mpr hx2)
        simp only [rot_len x.2 (Nat.le_of_lt hk), List.length_nil]; omega
    omega
  have gj : Good m (((List.range a).map (itm x)) ++ (least (tailF x a).1 (tailF x a).2).1, (least (tailF x a).1 (tailF x a).2).2) := by
    refine ⟨(gt a).1, fun u hu => ?_, (gt a).2.2.1, by simp only [List.length_append, List.length_map, List.length_range]; omega⟩
    rcases List.mem_append.mp hu with z | z
    · obtain ⟨i, _, rfl⟩ := List.mem_map.mp z; exact itm_mem hx.1 i
    · exact (gt a).2.1 u z
  have gm : Good m (more ++ x.1, x.2) := by
    refine ⟨hx2, fun u hu => ?_, gx.2.2.1, by simp only [List.length_append]; have := hx.2.1; have := hx.2.2; omega⟩
    rcases List.mem_append.mp hu with z | z
    · have := fm4 u z; omega
    · exact gx.2.1 u z
  have gl : Good m (least x.1 x.2) := Good.least (a := x.1) (r := x.2) gx
  have glm : Good m (least (more ++ x.1) x.2) := Good.least gm
  -- what the calls give
  have lt1 : x.1.length ≤ 450 := by have := hx.2.1; omega
  have lt2 : x.2.length ≤ 450 := by have := hx.2.2; omega
  have c1 : ∀ p, d__law_row_least [tI x.1, tI x.2] p = .ok (pr (least x.1 x.2)) p := fun p => law_row_least_i hx2 lt1 lt2
  have c2 : ∀ p, d__law_is_row [ob (least x.1 x.2), pr (least x.1 x.2)] p = .ok (.bl true) p := fun p => law_is_row_i gl.l1 gl.l2
  have c3 : ∀ p, d_joined_row [.int m, v, ob (least (tailF x a).1 (tailF x a).2)] p = .ok (ob (least x.1 x.2)) p := fun p => by
    rw [joined_row_i hm (gt a) gj (by
      simp only [List.mem_cons, List.not_mem_nil, or_false] at hv
      rcases hv with rfl | rfl
      · exact .inr rfl
      · exact .inl rfl), jn]
  have c4 : deq (pr (least x.1 x.2)) (pr x) = some (decide (least x.1 x.2 = x)) := deq_pr _ _
  have c5 : ∀ p, d__law_tail [pr x, .int (a : Int)] p = .ok (pr (tailF x a)) p := fun p => law_tail_i gx.sm a
  have c6 : ∀ p, d__law_row_least [tI (tailF x a).1, tI (tailF x a).2] p = .ok (pr (least (tailF x a).1 (tailF x a).2)) p := fun p => law_row_least_i (gx.tail a).1 (gx.tail a).sm.2.1 (gx.tail a).sm.2.2
  have c7 : ∀ p, d__law_is_row [ob (least (tailF x a).1 (tailF x a).2), pr (least (tailF x a).1 (tailF x a).2)] p = .ok (.bl true) p := fun p => law_is_row_i (gt a).l1 (gt a).l2
  have c8 : Mi.bin .add (tI more) (tI x.1) = some (tI (more ++ x.1)) := add_tI (by have := hx.2.1; omega)
  have c9 : ∀ p, d__law_row_least [tI (more ++ x.1), tI x.2] p = .ok (pr (least (more ++ x.1) x.2)) p := fun p => law_row_least_i hx2 (by rw [List.length_append]; have := hx.2.1; omega) lt2
  have c10 : ∀ p, d_joined_row [.int m, tI more, ob x] p = .ok (ob (least (more ++ x.1) x.2)) p := fun p => joined_row_i hm gx gm (.inl rfl)
  have c11 : ∀ p, d__law_is_row [ob (least (more ++ x.1) x.2), pr (least (more ++ x.1) x.2)] p = .ok (.bl true) p := fun p => law_is_row_i glm.l1 glm.l2
  have c12 : ∀ p, d_tail_of [.int m, ob (least (tailF x a).1 (tailF x a).2), .int (f : Int)] p = .ok (ob (least (tailF x (a + f)).1 (tailF x (a + f)).2)) p := fun p => by rw [tail_of_i hm (gt a), tt]
  have c13 : ∀ p, d_tail_of [.int m, ob x, .int ((a : Int) + (f : Int))] p = .ok (ob (least (tailF x (a + f)).1 (tailF x (a + f)).2)) p := fun p => tail_of_i hm gx (a + f)
  have c14 : ∀ p, d__law_item [pr x, .int (a : Int)] p = .ok (.int (itm x a)) p := fun p => law_item_i hx2
  have fe : ∀ xs : W, D.tup (xs.map D.int) = tI xs := fun _ => rfl
  refine ⟨z3, z5, .d (ob x), .d (pr x), .d (.lst (((List.range a).map (itm x)).map D.int)), .d (pr (least x.1 x.2)), .d (pr (tailF x a)), .d (tI more), z12, z13, .d (.int (a : Int)), .d (.int (f : Int)), z16, z17, z18, z19, z20, z21, p4, ?_, hp4⟩
  rw [show B1 = .cons (headS B1) (.cons (headS (dropSs 1 B1)) (.cons (headS (dropSs 2 B1)) (.cons (headS (dropSs 3 B1)) (.cons (headS (dropSs 4 B1)) (.cons (headS (dropSs 5 B1)) (.cons (headS (dropSs 6 B1)) (.cons (headS (dropSs 7 B1)) (.cons (headS (dropSs 8 B1)) (.cons (headS (dropSs 9 B1)) .nil))))))))) from rfl]
  refine evSs_nx (by simp -implicitDefEqProofs only [evFn, evSs, evS, evE, evT, evEs, evAnd, evOr, evAndT, evOrT, evO, evI, evOwn, R.bind_ok, R.of_some, se_d, se_u, se_o, sb_d, sb_u, sb_o, see, seeB, List.map_cons, List.map_nil, List.cons_append, List.nil_append, List.length_cons, List.length_nil, List.replicate_succ, List.replicate_zero, List.getElem?_cons_zero, List.getElem?_cons_succ, List.set_cons_zero, List.set_cons_succ, Option.join_some, Option.map_some, Option.map_none, Option.bind_some, setSl, tgSl, b_add, b_sub, b_mul, b_fdiv, b_mod, b_pow, b_addT, b_addL, b_mulT, b_mulL, deq_ii, deq_bb, c_eq, c_ne, c_lt, c_le, c_gt, c_ge, c_isN, c_isnN, c_isB, c_isnB, i_bl, i_non, i_int, i_str, i_tup, i_lst, non_non, non_int, non_tup, non_bl, t_non, t_bl, t_int, t_tup, t_lst, ixD_tup, ixD_lst, slD_tup, slD_lst, f_lenT, f_lenL, f_tupT, f_tupL, f_lstT, f_lstL, f_int, f_abs, f_max, f_min, f_all, f_any, f_sum, f_sorted, y_int, y_bl, y_non, y_str, y_tup, y_lst, y_obj, k_ii, k_ib, k_it, k_il, k_is, k_tt, k_tl, k_ti, k_tb, k_ll, k_lt, k_bi, k_bb, k_bt, k_bl, k_nt, k_ss, k_st, k_cc, ks_nil, ks_cons, as_int, pg_cells, pg_at, pg_digits, pg_count, pg_fold, ps_at, ps_digits, ps_count, ps_fold, q_tup, q_lst, z_tt, z_ll, ea_obj, er_bl, if_true, if_false, Bool.false_eq_true, Nat.reduceAdd, Nat.reduceSub, Bool.not_true, Bool.not_false, decide_true, decide_false, B1, forB, headS, dropSs, ir__law_right, s__law_right, e1, e2]; rfl) ?_
  refine evSs_nx (by
    simp -implicitDefEqProofs only [evFn, evSs, evS, evE, evT, evEs, evAnd, evOr, evAndT, evOrT, evO, evI, evOwn, R.bind_ok, R.of_some, se_d, se_u, se_o, sb_d, sb_u, sb_o, see, seeB, List.map_cons, List.map_nil, List.cons_append, List.nil_append, List.length_cons, List.length_nil, List.replicate_succ, List.replicate_zero, List.getElem?_cons_zero, List.getElem?_cons_succ, List.set_cons_zero, List.set_cons_succ, Option.join_some, Option.map_some, Option.map_none, Option.bind_some, setSl, tgSl, b_add, b_sub, b_mul, b_fdiv, b_mod, b_pow, b_addT, b_addL, b_mulT, b_mulL, deq_ii, deq_bb, c_eq, c_ne, c_lt, c_le, c_gt, c_ge, c_isN, c_isnN, c_isB, c_isnB, i_bl, i_non, i_int, i_str, i_tup, i_lst, non_non, non_int, non_tup, non_bl, t_non, t_bl, t_int, t_tup, t_lst, ixD_tup, ixD_lst, slD_tup, slD_lst, f_lenT, f_lenL, f_tupT, f_tupL, f_lstT, f_lstL, f_int, f_abs, f_max, f_min, f_all, f_any, f_sum, f_sorted, y_int, y_bl, y_non, y_str, y_tup, y_lst, y_obj, k_ii, k_ib, k_it, k_il, k_is, k_tt, k_tl, k_ti, k_tb, k_ll, k_lt, k_bi, k_bb, k_bt, k_bl, k_nt, k_ss, k_st, k_cc, ks_nil, ks_cons, as_int, pg_cells, pg_at, pg_digits, pg_count, pg_fold, ps_at, ps_digits, ps_count, ps_fold, q_tup, q_lst, z_tt, z_ll, ea_obj, er_bl, if_true, if_false, Bool.false_eq_true, Nat.reduceAdd, Nat.reduceSub, Bool.not_true, Bool.not_false, decide_true, decide_false, B1, forB, headS, dropSs, ir__law_right, s__law_right, as_int, ra, la, wipeD, asgTg]
    rw [bind_assoc', map_item (x := x)]
    · simp -implicitDefEqProofs only [evFn, evSs, evS, evE, evT, evEs, evAnd, evOr, evAndT, evOrT, evO, evI, evOwn, R.bind_ok, R.of_some, se_d, se_u, se_o, sb_d, sb_u, sb_o, see, seeB, List.map_cons, List.map_nil, List.cons_append, List.nil_append, List.length_cons, List.length_nil, List.replicate_succ, List.replicate_zero, List.getElem?_cons_zero, List.getElem?_cons_succ, List.set_cons_zero, List.set_cons_succ, Option.join_some, Option.map_some, Option.map_none, Option.bind_some, setSl, tgSl, b_add, b_sub, b_mul, b_fdiv, b_mod, b_pow, b_addT, b_addL, b_mulT, b_mulL, deq_ii, deq_bb, c_eq, c_ne, c_lt, c_le, c_gt, c_ge, c_isN, c_isnN, c_isB, c_isnB, i_bl, i_non, i_int, i_str, i_tup, i_lst, non_non, non_int, non_tup, non_bl, t_non, t_bl, t_int, t_tup, t_lst, ixD_tup, ixD_lst, slD_tup, slD_lst, f_lenT, f_lenL, f_tupT, f_tupL, f_lstT, f_lstL, f_int, f_abs, f_max, f_min, f_all, f_any, f_sum, f_sorted, y_int, y_bl, y_non, y_str, y_tup, y_lst, y_obj, k_ii, k_ib, k_it, k_il, k_is, k_tt, k_tl, k_ti, k_tb, k_ll, k_lt, k_bi, k_bb, k_bt, k_bl, k_nt, k_ss, k_st, k_cc, ks_nil, ks_cons, as_int, pg_cells, pg_at, pg_digits, pg_count, pg_fold, ps_at, ps_digits, ps_count, ps_fold, q_tup, q_lst, z_tt, z_ll, ea_obj, er_bl, if_true, if_false, Bool.false_eq_true, Nat.reduceAdd, Nat.reduceSub, Bool.not_true, Bool.not_false, decide_true, decide_false]; rfl
    · intro i hi
      simp -implicitDefEqProofs only [evFn, evSs, evS, evE, evT, evEs, evAnd, evOr, evAndT, evOrT, evO, evI, evOwn, R.bind_ok, R.of_some, se_d, se_u, se_o, sb_d, sb_u, sb_o, see, seeB, List.map_cons, List.map_nil, List.cons_append, List.nil_append, List.length_cons, List.length_nil, List.replicate_succ, List.replicate_zero, List.getElem?_cons_zero, List.getElem?_cons_succ, List.set_cons_zero, List.set_cons_succ, Option.join_some, Option.map_some, Option.map_none, Option.bind_some, setSl, tgSl, b_add, b_sub, b_mul, b_fdiv, b_mod, b_pow, b_addT, b_addL, b_mulT, b_mulL, deq_ii, deq_bb, c_eq, c_ne, c_lt, c_le, c_gt, c_ge, c_isN, c_isnN, c_isB, c_isnB, i_bl, i_non, i_int, i_str, i_tup, i_lst, non_non, non_int, non_tup, non_bl, t_non, t_bl, t_int, t_tup, t_lst, ixD_tup, ixD_lst, slD_tup, slD_lst, f_lenT, f_lenL, f_tupT, f_tupL, f_lstT, f_lstL, f_int, f_abs, f_max, f_min, f_all, f_any, f_sum, f_sorted, y_int, y_bl, y_non, y_str, y_tup, y_lst, y_obj, k_ii, k_ib, k_it, k_il, k_is, k_tt, k_tl, k_ti, k_tb, k_ll, k_lt, k_bi, k_bb, k_bt, k_bl, k_nt, k_ss, k_st, k_cc, ks_nil, ks_cons, as_int, pg_cells, pg_at, pg_digits, pg_count, pg_fold, ps_at, ps_digits, ps_count, ps_fold, q_tup, q_lst, z_tt, z_ll, ea_obj, er_bl, if_true, if_false, Bool.false_eq_true, Nat.reduceAdd, Nat.reduceSub, Bool.not_true, Bool.not_false, decide_true, decide_false, law_item_i hx2]
      rfl) ?_
  refine evSs_nx (by simp -implicitDefEqProofs only [evFn, evSs, evS, evE, evT, evEs, evAnd, evOr, evAndT, evOrT, evO, evI, evOwn, R.bind_ok, R.of_some, se_d, se_u, se_o, sb_d, sb_u, sb_o, see, seeB, List.map_cons, List.map_nil, List.cons_append, List.nil_append, List.length_cons, List.length_nil, List.replicate_succ, List.replicate_zero, List.getElem?_cons_zero, List.getElem?_cons_succ, List.set_cons_zero, List.set_cons_succ, Option.join_some, Option.map_some, Option.map_none, Option.bind_some, setSl, tgSl, b_add, b_sub, b_mul, b_fdiv, b_mod, b_pow, b_addT, b_addL, b_mulT, b_mulL, deq_ii, deq_bb, c_eq, c_ne, c_lt, c_le, c_gt, c_ge, c_isN, c_isnN, c_isB, c_isnB, i_bl, i_non, i_int, i_str, i_tup, i_lst, non_non, non_int, non_tup, non_bl, t_non, t_bl, t_int, t_tup, t_lst, ixD_tup, ixD_lst, slD_tup, slD_lst, f_lenT, f_lenL, f_tupT, f_tupL, f_lstT, f_lstL, f_int, f_abs, f_max, f_min, f_all, f_any, f_sum, f_sorted, y_int, y_bl, y_non, y_str, y_tup, y_lst, y_obj, k_ii, k_ib, k_it, k_il, k_is, k_tt, k_tl, k_ti, k_tb, k_ll, k_lt, k_bi, k_bb, k_bt, k_bl, k_nt, k_ss, k_st, k_cc, ks_nil, ks_cons, as_int, pg_cells, pg_at, pg_digits, pg_count, pg_fold, ps_at, ps_digits, ps_count, ps_fold, q_tup, q_lst, z_tt, z_ll, ea_obj, er_bl, if_true, if_false, Bool.false_eq_true, Nat.reduceAdd, Nat.reduceSub, Bool.not_true, Bool.not_false, decide_true, decide_false, B1, forB, headS, dropSs, ir__law_right, s__law_right, ix0, ix1, c1]; rfl) ?_
  refine evSs_nx (by simp -implicitDefEqProofs only [evFn, evSs, evS, evE, evT, evEs, evAnd, evOr, evAndT, evOrT, evO, evI, evOwn, R.bind_ok, R.of_some, se_d, se_u, se_o, sb_d, sb_u, sb_o, see, seeB, List.map_cons, List.map_nil, List.cons_append, List.nil_append, List.length_cons, List.length_nil, List.replicate_succ, List.replicate_zero, List.getElem?_cons_zero, List.getElem?_cons_succ, List.set_cons_zero, List.set_cons_succ, Option.join_some, Option.map_some, Option.map_none, Option.bind_some, setSl, tgSl, b_add, b_sub, b_mul, b_fdiv, b_mod, b_pow, b_addT, b_addL, b_mulT, b_mulL, deq_ii, deq_bb, c_eq, c_ne, c_lt, c_le, c_gt, c_ge, c_isN, c_isnN, c_isB, c_isnB, i_bl, i_non, i_int, i_str, i_tup, i_lst, non_non, non_int, non_tup, non_bl, t_non, t_bl, t_int, t_tup, t_lst, ixD_tup, ixD_lst, slD_tup, slD_lst, f_lenT, f_lenL, f_tupT, f_tupL, f_lstT, f_lstL, f_int, f_abs, f_max, f_min, f_all, f_any, f_sum, f_sorted, y_int, y_bl, y_non, y_str, y_tup, y_lst, y_obj, k_ii, k_ib, k_it, k_il, k_is, k_tt, k_tl, k_ti, k_tb, k_ll, k_lt, k_bi, k_bb, k_bt, k_bl, k_nt, k_ss, k_st, k_cc, ks_nil, ks_cons, as_int, pg_cells, pg_at, pg_digits, pg_count, pg_fold, ps_at, ps_digits, ps_count, ps_fold, q_tup, q_lst, z_tt, z_ll, ea_obj, er_bl, if_true, if_false, Bool.false_eq_true, Nat.reduceAdd, Nat.reduceSub, Bool.not_true, Bool.not_false, decide_true, decide_false, B1, forB, headS, dropSs, ir__law_right, s__law_right, least_form_i hm gx, c2, is_least_i hm gx, c4, law_says_i]; rfl) ?_
  refine evSs_nx (by simp -implicitDefEqProofs only [evFn, evSs, evS, evE, evT, evEs, evAnd, evOr, evAndT, evOrT, evO, evI, evOwn, R.bind_ok, R.of_some, se_d, se_u, se_o, sb_d, sb_u, sb_o, see, seeB, List.map_cons, List.map_nil, List.cons_append, List.nil_append, List.length_cons, List.length_nil, List.replicate_succ, List.replicate_zero, List.getElem?_cons_zero, List.getElem?_cons_succ, List.set_cons_zero, List.set_cons_succ, Option.join_some, Option.map_some, Option.map_none, Option.bind_some, setSl, tgSl, b_add, b_sub, b_mul, b_fdiv, b_mod, b_pow, b_addT, b_addL, b_mulT, b_mulL, deq_ii, deq_bb, c_eq, c_ne, c_lt, c_le, c_gt, c_ge, c_isN, c_isnN, c_isB, c_isnB, i_bl, i_non, i_int, i_str, i_tup, i_lst, non_non, non_int, non_tup, non_bl, t_non, t_bl, t_int, t_tup, t_lst, ixD_tup, ixD_lst, slD_tup, slD_lst, f_lenT, f_lenL, f_tupT, f_tupL, f_lstT, f_lstL, f_int, f_abs, f_max, f_min, f_all, f_any, f_sum, f_sorted, y_int, y_bl, y_non, y_str, y_tup, y_lst, y_obj, k_ii, k_ib, k_it, k_il, k_is, k_tt, k_tl, k_ti, k_tb, k_ll, k_lt, k_bi, k_bb, k_bt, k_bl, k_nt, k_ss, k_st, k_cc, ks_nil, ks_cons, as_int, pg_cells, pg_at, pg_digits, pg_count, pg_fold, ps_at, ps_digits, ps_count, ps_fold, q_tup, q_lst, z_tt, z_ll, ea_obj, er_bl, if_true, if_false, Bool.false_eq_true, Nat.reduceAdd, Nat.reduceSub, Bool.not_true, Bool.not_false, decide_true, decide_false, B1, forB, headS, dropSs, ir__law_right, s__law_right, sz2, fe, e3, tail_of_i hm gx, c3, c2, item_at_i hm gx, c14, is4_int]; rfl) ?_
  refine evSs_nx (by simp -implicitDefEqProofs only [evFn, evSs, evS, evE, evT, evEs, evAnd, evOr, evAndT, evOrT, evO, evI, evOwn, R.bind_ok, R.of_some, se_d, se_u, se_o, sb_d, sb_u, sb_o, see, seeB, List.map_cons, List.map_nil, List.cons_append, List.nil_append, List.length_cons, List.length_nil, List.replicate_succ, List.replicate_zero, List.getElem?_cons_zero, List.getElem?_cons_succ, List.set_cons_zero, List.set_cons_succ, Option.join_some, Option.map_some, Option.map_none, Option.bind_some, setSl, tgSl, b_add, b_sub, b_mul, b_fdiv, b_mod, b_pow, b_addT, b_addL, b_mulT, b_mulL, deq_ii, deq_bb, c_eq, c_ne, c_lt, c_le, c_gt, c_ge, c_isN, c_isnN, c_isB, c_isnB, i_bl, i_non, i_int, i_str, i_tup, i_lst, non_non, non_int, non_tup, non_bl, t_non, t_bl, t_int, t_tup, t_lst, ixD_tup, ixD_lst, slD_tup, slD_lst, f_lenT, f_lenL, f_tupT, f_tupL, f_lstT, f_lstL, f_int, f_abs, f_max, f_min, f_all, f_any, f_sum, f_sorted, y_int, y_bl, y_non, y_str, y_tup, y_lst, y_obj, k_ii, k_ib, k_it, k_il, k_is, k_tt, k_tl, k_ti, k_tb, k_ll, k_lt, k_bi, k_bb, k_bt, k_bl, k_nt, k_ss, k_st, k_cc, ks_nil, ks_cons, as_int, pg_cells, pg_at, pg_digits, pg_count, pg_fold, ps_at, ps_digits, ps_count, ps_fold, q_tup, q_lst, z_tt, z_ll, ea_obj, er_bl, if_true, if_false, Bool.false_eq_true, Nat.reduceAdd, Nat.reduceSub, Bool.not_true, Bool.not_false, decide_true, decide_false, B1, forB, headS, dropSs, ir__law_right, s__law_right, tail_of_i hm gx, c12, c13, ea_ob, row_eq_i]; rfl) ?_
  refine evSs_nx (by simp -implicitDefEqProofs only [evFn, evSs, evS, evE, evT, evEs, evAnd, evOr, evAndT, evOrT, evO, evI, evOwn, R.bind_ok, R.of_some, se_d, se_u, se_o, sb_d, sb_u, sb_o, see, seeB, List.map_cons, List.map_nil, List.cons_append, List.nil_append, List.length_cons, List.length_nil, List.replicate_succ, List.replicate_zero, List.getElem?_cons_zero, List.getElem?_cons_succ, List.set_cons_zero, List.set_cons_succ, Option.join_some, Option.map_some, Option.map_none, Option.bind_some, setSl, tgSl, b_add, b_sub, b_mul, b_fdiv, b_mod, b_pow, b_addT, b_addL, b_mulT, b_mulL, deq_ii, deq_bb, c_eq, c_ne, c_lt, c_le, c_gt, c_ge, c_isN, c_isnN, c_isB, c_isnB, i_bl, i_non, i_int, i_str, i_tup, i_lst, non_non, non_int, non_tup, non_bl, t_non, t_bl, t_int, t_tup, t_lst, ixD_tup, ixD_lst, slD_tup, slD_lst, f_lenT, f_lenL, f_tupT, f_tupL, f_lstT, f_lstL, f_int, f_abs, f_max, f_min, f_all, f_any, f_sum, f_sorted, y_int, y_bl, y_non, y_str, y_tup, y_lst, y_obj, k_ii, k_ib, k_it, k_il, k_is, k_tt, k_tl, k_ti, k_tb, k_ll, k_lt, k_bi, k_bb, k_bt, k_bl, k_nt, k_ss, k_st, k_cc, ks_nil, ks_cons, as_int, pg_cells, pg_at, pg_digits, pg_count, pg_fold, ps_at, ps_digits, ps_count, ps_fold, q_tup, q_lst, z_tt, z_ll, ea_obj, er_bl, if_true, if_false, Bool.false_eq_true, Nat.reduceAdd, Nat.reduceSub, Bool.not_true, Bool.not_false, decide_true, decide_false, B1, forB, headS, dropSs, ir__law_right, s__law_right, c5]; rfl) ?_
  refine evSs_nx (by simp -implicitDefEqProofs only [evFn, evSs, evS, evE, evT, evEs, evAnd, evOr, evAndT, evOrT, evO, evI, evOwn, R.bind_ok, R.of_some, se_d, se_u, se_o, sb_d, sb_u, sb_o, see, seeB, List.map_cons, List.map_nil, List.cons_append, List.nil_append, List.length_cons, List.length_nil, List.replicate_succ, List.replicate_zero, List.getElem?_cons_zero, List.getElem?_cons_succ, List.set_cons_zero, List.set_cons_succ, Option.join_some, Option.map_some, Option.map_none, Option.bind_some, setSl, tgSl, b_add, b_sub, b_mul, b_fdiv, b_mod, b_pow, b_addT, b_addL, b_mulT, b_mulL, deq_ii, deq_bb, c_eq, c_ne, c_lt, c_le, c_gt, c_ge, c_isN, c_isnN, c_isB, c_isnB, i_bl, i_non, i_int, i_str, i_tup, i_lst, non_non, non_int, non_tup, non_bl, t_non, t_bl, t_int, t_tup, t_lst, ixD_tup, ixD_lst, slD_tup, slD_lst, f_lenT, f_lenL, f_tupT, f_tupL, f_lstT, f_lstL, f_int, f_abs, f_max, f_min, f_all, f_any, f_sum, f_sorted, y_int, y_bl, y_non, y_str, y_tup, y_lst, y_obj, k_ii, k_ib, k_it, k_il, k_is, k_tt, k_tl, k_ti, k_tb, k_ll, k_lt, k_bi, k_bb, k_bt, k_bl, k_nt, k_ss, k_st, k_cc, ks_nil, ks_cons, as_int, pg_cells, pg_at, pg_digits, pg_count, pg_fold, ps_at, ps_digits, ps_count, ps_fold, q_tup, q_lst, z_tt, z_ll, ea_obj, er_bl, if_true, if_false, Bool.false_eq_true, Nat.reduceAdd, Nat.reduceSub, Bool.not_true, Bool.not_false, decide_true, decide_false, B1, forB, headS, dropSs, ir__law_right, s__law_right, tail_of_i hm gx, ix0, ix1, c6, c7]; rfl) ?_
  refine evSs_nx (by
    simp -implicitDefEqProofs only [evFn, evSs, evS, evE, evT, evEs, evAnd, evOr, evAndT, evOrT, evO, evI, evOwn, R.bind_ok, R.of_some, se_d, se_u, se_o, sb_d, sb_u, sb_o, see, seeB, List.map_cons, List.map_nil, List.cons_append, List.nil_append, List.length_cons, List.length_nil, List.replicate_succ, List.replicate_zero, List.getElem?_cons_zero, List.getElem?_cons_succ, List.set_cons_zero, List.set_cons_succ, Option.join_some, Option.map_some, Option.map_none, Option.bind_some, setSl, tgSl, b_add, b_sub, b_mul, b_fdiv, b_mod, b_pow, b_addT, b_addL, b_mulT, b_mulL, deq_ii, deq_bb, c_eq, c_ne, c_lt, c_le, c_gt, c_ge, c_isN, c_isnN, c_isB, c_isnB, i_bl, i_non, i_int, i_str, i_tup, i_lst, non_non, non_int, non_tup, non_bl, t_non, t_bl, t_int, t_tup, t_lst, ixD_tup, ixD_lst, slD_tup, slD_lst, f_lenT, f_lenL, f_tupT, f_tupL, f_lstT, f_lstL, f_int, f_abs, f_max, f_min, f_all, f_any, f_sum, f_sorted, y_int, y_bl, y_non, y_str, y_tup, y_lst, y_obj, k_ii, k_ib, k_it, k_il, k_is, k_tt, k_tl, k_ti, k_tb, k_ll, k_lt, k_bi, k_bb, k_bt, k_bl, k_nt, k_ss, k_st, k_cc, ks_nil, ks_cons, as_int, pg_cells, pg_at, pg_digits, pg_count, pg_fold, ps_at, ps_digits, ps_count, ps_fold, q_tup, q_lst, z_tt, z_ll, ea_obj, er_bl, if_true, if_false, Bool.false_eq_true, Nat.reduceAdd, Nat.reduceSub, Bool.not_true, Bool.not_false, decide_true, decide_false, B1, forB, headS, dropSs, ir__law_right, s__law_right, as_int, rf, lf, wipeD, asgTg]
    rw [e4]
    simp -implicitDefEqProofs only [evFn, evSs, evS, evE, evT, evEs, evAnd, evOr, evAndT, evOrT, evO, evI, evOwn, R.bind_ok, R.of_some, se_d, se_u, se_o, sb_d, sb_u, sb_o, see, seeB, List.map_cons, List.map_nil, List.cons_append, List.nil_append, List.length_cons, List.length_nil, List.replicate_succ, List.replicate_zero, List.getElem?_cons_zero, List.getElem?_cons_succ, List.set_cons_zero, List.set_cons_succ, Option.join_some, Option.map_some, Option.map_none, Option.bind_some, setSl, tgSl, b_add, b_sub, b_mul, b_fdiv, b_mod, b_pow, b_addT, b_addL, b_mulT, b_mulL, deq_ii, deq_bb, c_eq, c_ne, c_lt, c_le, c_gt, c_ge, c_isN, c_isnN, c_isB, c_isnB, i_bl, i_non, i_int, i_str, i_tup, i_lst, non_non, non_int, non_tup, non_bl, t_non, t_bl, t_int, t_tup, t_lst, ixD_tup, ixD_lst, slD_tup, slD_lst, f_lenT, f_lenL, f_tupT, f_tupL, f_lstT, f_lstL, f_int, f_abs, f_max, f_min, f_all, f_any, f_sum, f_sorted, y_int, y_bl, y_non, y_str, y_tup, y_lst, y_obj, k_ii, k_ib, k_it, k_il, k_is, k_tt, k_tl, k_ti, k_tb, k_ll, k_lt, k_bi, k_bb, k_bt, k_bl, k_nt, k_ss, k_st, k_cc, ks_nil, ks_cons, as_int, pg_cells, pg_at, pg_digits, pg_count, pg_fold, ps_at, ps_digits, ps_count, ps_fold, q_tup, q_lst, z_tt, z_ll, ea_obj, er_bl, if_true, if_false, Bool.false_eq_true, Nat.reduceAdd, Nat.reduceSub, Bool.not_true, Bool.not_false, decide_true, decide_false, fe]; rfl) ?_
  refine evSs_nx (by simp -implicitDefEqProofs only [evFn, evSs, evS, evE, evT, evEs, evAnd, evOr, evAndT, evOrT, evO, evI, evOwn, R.bind_ok, R.of_some, se_d, se_u, se_o, sb_d, sb_u, sb_o, see, seeB, List.map_cons, List.map_nil, List.cons_append, List.nil_append, List.length_cons, List.length_nil, List.replicate_succ, List.replicate_zero, List.getElem?_cons_zero, List.getElem?_cons_succ, List.set_cons_zero, List.set_cons_succ, Option.join_some, Option.map_some, Option.map_none, Option.bind_some, setSl, tgSl, b_add, b_sub, b_mul, b_fdiv, b_mod, b_pow, b_addT, b_addL, b_mulT, b_mulL, deq_ii, deq_bb, c_eq, c_ne, c_lt, c_le, c_gt, c_ge, c_isN, c_isnN, c_isB, c_isnB, i_bl, i_non, i_int, i_str, i_tup, i_lst, non_non, non_int, non_tup, non_bl, t_non, t_bl, t_int, t_tup, t_lst, ixD_tup, ixD_lst, slD_tup, slD_lst, f_lenT, f_lenL, f_tupT, f_tupL, f_lstT, f_lstL, f_int, f_abs, f_max, f_min, f_all, f_any, f_sum, f_sorted, y_int, y_bl, y_non, y_str, y_tup, y_lst, y_obj, k_ii, k_ib, k_it, k_il, k_is, k_tt, k_tl, k_ti, k_tb, k_ll, k_lt, k_bi, k_bb, k_bt, k_bl, k_nt, k_ss, k_st, k_cc, ks_nil, ks_cons, as_int, pg_cells, pg_at, pg_digits, pg_count, pg_fold, ps_at, ps_digits, ps_count, ps_fold, q_tup, q_lst, z_tt, z_ll, ea_obj, er_bl, if_true, if_false, Bool.false_eq_true, Nat.reduceAdd, Nat.reduceSub, Bool.not_true, Bool.not_false, decide_true, decide_false, B1, forB, headS, dropSs, ir__law_right, s__law_right, c10, c8, ix0, ix1, c9, c11]; rfl) ?_
  exact evSs_nil
end Lk07

set_option Elab.async false
set_option linter.all false
set_option maxRecDepth 100000
set_option maxHeartbeats 2000000
namespace Lk07
open PySem PySem.Spec PyProof.Rows L2 Mi RowP
abbrev B2 : ISs := forB (headS (forB (headS (dropSs 6 ir__law_right))))
theorem opt_isN (o : Option Nat) : (optD o).isNon = decide (o = none) := by cases o <;> rfl
theorem body2 {p : PenS} {m : Int} (hm : 1 ≤ m ∧ m ≤ 20) {x y : Rw} (hx : Row0 m x) (hy : Row0 m y) (P Rr z3 z5 z6 z7 z8 z9 z10 z11 z14 z15 z18 z19 z20 z21 : Sl) :
    ∃ y18 y19, evSs S__law_right B2 [.d .pen, .d (.int m), P, z3, Rr, z5, z6, z7, z8, z9, z10, z11, .d (ob x), .d (pr x), z14, z15, .d (ob y), .d (pr y), z18, z19, z20, z21] p =
      .ok (.nx, [.d .pen, .d (.int m), P, z3, Rr, z5, z6, z7, z8, z9, z10, z11, .d (ob x), .d (pr x), z14, z15, .d (ob y), .d (pr y), y18, y19, z20, z21]) p := by
  have gx := hx.good
  have gy := hy.good
  have hx2 : x.2 ≠ [] := gx.1
  have hy2 : y.2 ≠ [] := gy.1
  have o1 : ∀ p, d__law_first [pr x, pr y] p = .ok (optD (unl x y (bnd x y))) p := fun p => by rw [law_first_i gx.sm gy.sm, unl_bnd hx2 hy2]
  have o2 : ∀ p, d_first_unlike [.int m, ob x, ob y] p = .ok (optD (unl x y (bnd x y))) p := fun p => first_unlike_i hm gx gy
  have o3 : ∀ p, d_row_less [.int m, ob x, ob y] p = .ok (.bl (below x y (unl x y (bnd x y)))) p := fun p => row_less_i hm gx gy
  have o4 : ∀ p, d_turned_row [.int m, ob x] p = .ok (ob (trn m x)) p := fun p => turned_row_i hm gx
  have o5 : ∀ p, d_turned_row [.int m, ob y] p = .ok (ob (trn m y)) p := fun p => turned_row_i hm gy
  have o6 : ∀ p, d_row_less [.int m, ob (trn m y), ob (trn m x)] p = .ok (.bl (below x y (unl x y (bnd x y)))) p := fun p => by
    have ty : Good m (trn m y) := gy.turned
    have tx : Good m (trn m x) := gx.turned
    rw [row_less_i hm ty tx]
    show R.ok (D.bl (below (trn m y) (trn m x) (unl (trn m y) (trn m x) (bnd (trn m y) (trn m x))))) p = _
    rw [unl_trn hx2 hy2, below_trn hx2 hy2]
  have o7 := least_form_i (p := p) hm gx
  have o8 := least_form_i (p := p) hm gy
  have al : (unl x y (bnd x y) = none) ↔ (least x.1 x.2 = least y.1 y.2) := (unl_all hx2 hy2).trans (least_iff hx2 hy2).symm
  refine ⟨.d (optD (unl x y (bnd x y))), .d (.bl (below x y (unl x y (bnd x y)))), ?_⟩
  generalize unl x y (bnd x y) = o at *
  have la : decide (least x.1 x.2 = least y.1 y.2) = decide (o = none) := by simp only [al]
  rw [show B2 = .cons (headS B2) (.cons (headS (dropSs 1 B2)) (.cons (headS (dropSs 2 B2)) (.cons (headS (dropSs 3 B2)) .nil))) from rfl]
  refine evSs_nx (by simp -implicitDefEqProofs only [evFn, evSs, evS, evE, evT, evEs, evAnd, evOr, evAndT, evOrT, evO, evI, evOwn, R.bind_ok, R.of_some, se_d, se_u, se_o, sb_d, sb_u, sb_o, see, seeB, List.map_cons, List.map_nil, List.cons_append, List.nil_append, List.length_cons, List.length_nil, List.replicate_succ, List.replicate_zero, List.getElem?_cons_zero, List.getElem?_cons_succ, List.set_cons_zero, List.set_cons_succ, Option.join_some, Option.map_some, Option.map_none, Option.bind_some, setSl, tgSl, b_add, b_sub, b_mul, b_fdiv, b_mod, b_pow, b_addT, b_addL, b_mulT, b_mulL, deq_ii, deq_bb, c_eq, c_ne, c_lt, c_le, c_gt, c_ge, c_isN, c_isnN, c_isB, c_isnB, i_bl, i_non, i_int, i_str, i_tup, i_lst, non_non, non_int, non_tup, non_bl, t_non, t_bl, t_int, t_tup, t_lst, ixD_tup, ixD_lst, slD_tup, slD_lst, f_lenT, f_lenL, f_tupT, f_tupL, f_lstT, f_lstL, f_int, f_abs, f_max, f_min, f_all, f_any, f_sum, f_sorted, y_int, y_bl, y_non, y_str, y_tup, y_lst, y_obj, k_ii, k_ib, k_it, k_il, k_is, k_tt, k_tl, k_ti, k_tb, k_ll, k_lt, k_bi, k_bb, k_bt, k_bl, k_nt, k_ss, k_st, k_cc, ks_nil, ks_cons, as_int, pg_cells, pg_at, pg_digits, pg_count, pg_fold, ps_at, ps_digits, ps_count, ps_fold, q_tup, q_lst, z_tt, z_ll, ea_obj, er_bl, if_true, if_false, Bool.false_eq_true, Nat.reduceAdd, Nat.reduceSub, Bool.not_true, Bool.not_false, decide_true, decide_false, B2, forB, headS, dropSs, ir__law_right, s__law_right, o1]; rfl) ?_
  refine evSs_nx (ρ1 := [.d .pen, .d (.int m), P, z3, Rr, z5, z6, z7, z8, z9, z10, z11, .d (ob x), .d (pr x), z14, z15, .d (ob y), .d (pr y), .d (optD o), .d (.bl (below x y o)), z20, z21]) (p1 := p) (by
    cases o with
    | none => simp -implicitDefEqProofs only [evFn, evSs, evS, evE, evT, evEs, evAnd, evOr, evAndT, evOrT, evO, evI, evOwn, R.bind_ok, R.of_some, se_d, se_u, se_o, sb_d, sb_u, sb_o, see, seeB, List.map_cons, List.map_nil, List.cons_append, List.nil_append, List.length_cons, List.length_nil, List.replicate_succ, List.replicate_zero, List.getElem?_cons_zero, List.getElem?_cons_succ, List.set_cons_zero, List.set_cons_succ, Option.join_some, Option.map_some, Option.map_none, Option.bind_some, setSl, tgSl, b_add, b_sub, b_mul, b_fdiv, b_mod, b_pow, b_addT, b_addL, b_mulT, b_mulL, deq_ii, deq_bb, c_eq, c_ne, c_lt, c_le, c_gt, c_ge, c_isN, c_isnN, c_isB, c_isnB, i_bl, i_non, i_int, i_str, i_tup, i_lst, non_non, non_int, non_tup, non_bl, t_non, t_bl, t_int, t_tup, t_lst, ixD_tup, ixD_lst, slD_tup, slD_lst, f_lenT, f_lenL, f_tupT, f_tupL, f_lstT, f_lstL, f_int, f_abs, f_max, f_min, f_all, f_any, f_sum, f_sorted, y_int, y_bl, y_non, y_str, y_tup, y_lst, y_obj, k_ii, k_ib, k_it, k_il, k_is, k_tt, k_tl, k_ti, k_tb, k_ll, k_lt, k_bi, k_bb, k_bt, k_bl, k_nt, k_ss, k_st, k_cc, ks_nil, ks_cons, as_int, pg_cells, pg_at, pg_digits, pg_count, pg_fold, ps_at, ps_digits, ps_count, ps_fold, q_tup, q_lst, z_tt, z_ll, ea_obj, er_bl, if_true, if_false, Bool.false_eq_true, Nat.reduceAdd, Nat.reduceSub, Bool.not_true, Bool.not_false, decide_true, decide_false, B2, forB, headS, dropSs, ir__law_right, s__law_right, optD]; rfl
    | some i => simp -implicitDefEqProofs only [evFn, evSs, evS, evE, evT, evEs, evAnd, evOr, evAndT, evOrT, evO, evI, evOwn, R.bind_ok, R.of_some, se_d, se_u, se_o, sb_d, sb_u, sb_o, see, seeB, List.map_cons, List.map_nil, List.cons_append, List.nil_append, List.length_cons, List.length_nil, List.replicate_succ, List.replicate_zero, List.getElem?_cons_zero, List.getElem?_cons_succ, List.set_cons_zero, List.set_cons_succ, Option.join_some, Option.map_some, Option.map_none, Option.bind_some, setSl, tgSl, b_add, b_sub, b_mul, b_fdiv, b_mod, b_pow, b_addT, b_addL, b_mulT, b_mulL, deq_ii, deq_bb, c_eq, c_ne, c_lt, c_le, c_gt, c_ge, c_isN, c_isnN, c_isB, c_isnB, i_bl, i_non, i_int, i_str, i_tup, i_lst, non_non, non_int, non_tup, non_bl, t_non, t_bl, t_int, t_tup, t_lst, ixD_tup, ixD_lst, slD_tup, slD_lst, f_lenT, f_lenL, f_tupT, f_tupL, f_lstT, f_lstL, f_int, f_abs, f_max, f_min, f_all, f_any, f_sum, f_sorted, y_int, y_bl, y_non, y_str, y_tup, y_lst, y_obj, k_ii, k_ib, k_it, k_il, k_is, k_tt, k_tl, k_ti, k_tb, k_ll, k_lt, k_bi, k_bb, k_bt, k_bl, k_nt, k_ss, k_st, k_cc, ks_nil, ks_cons, as_int, pg_cells, pg_at, pg_digits, pg_count, pg_fold, ps_at, ps_digits, ps_count, ps_fold, q_tup, q_lst, z_tt, z_ll, ea_obj, er_bl, if_true, if_false, Bool.false_eq_true, Nat.reduceAdd, Nat.reduceSub, Bool.not_true, Bool.not_false, decide_true, decide_false, B2, forB, headS, dropSs, ir__law_right, s__law_right, optD, law_item_i hx2, law_item_i hy2]; rfl) ?_
  refine evSs_nx (by simp -implicitDefEqProofs only [evFn, evSs, evS, evE, evT, evEs, evAnd, evOr, evAndT, evOrT, evO, evI, evOwn, R.bind_ok, R.of_some, se_d, se_u, se_o, sb_d, sb_u, sb_o, see, seeB, List.map_cons, List.map_nil, List.cons_append, List.nil_append, List.length_cons, List.length_nil, List.replicate_succ, List.replicate_zero, List.getElem?_cons_zero, List.getElem?_cons_succ, List.set_cons_zero, List.set_cons_succ, Option.join_some, Option.map_some, Option.map_none, Option.bind_some, setSl, tgSl, b_add, b_sub, b_mul, b_fdiv, b_mod, b_pow, b_addT, b_addL, b_mulT, b_mulL, deq_ii, deq_bb, c_eq, c_ne, c_lt, c_le, c_gt, c_ge, c_isN, c_isnN, c_isB, c_isnB, i_bl, i_non, i_int, i_str, i_tup, i_lst, non_non, non_int, non_tup, non_bl, t_non, t_bl, t_int, t_tup, t_lst, ixD_tup, ixD_lst, slD_tup, slD_lst, f_lenT, f_lenL, f_tupT, f_tupL, f_lstT, f_lstL, f_int, f_abs, f_max, f_min, f_all, f_any, f_sum, f_sorted, y_int, y_bl, y_non, y_str, y_tup, y_lst, y_obj, k_ii, k_ib, k_it, k_il, k_is, k_tt, k_tl, k_ti, k_tb, k_ll, k_lt, k_bi, k_bb, k_bt, k_bl, k_nt, k_ss, k_st, k_cc, ks_nil, ks_cons, as_int, pg_cells, pg_at, pg_digits, pg_count, pg_fold, ps_at, ps_digits, ps_count, ps_fold, q_tup, q_lst, z_tt, z_ll, ea_obj, er_bl, if_true, if_false, Bool.false_eq_true, Nat.reduceAdd, Nat.reduceSub, Bool.not_true, Bool.not_false, decide_true, decide_false, B2, forB, headS, dropSs, ir__law_right, s__law_right, o2, is4_opt, o3, law_says_i]; rfl) ?_
  refine evSs_nx (by simp -implicitDefEqProofs only [evFn, evSs, evS, evE, evT, evEs, evAnd, evOr, evAndT, evOrT, evO, evI, evOwn, R.bind_ok, R.of_some, se_d, se_u, se_o, sb_d, sb_u, sb_o, see, seeB, List.map_cons, List.map_nil, List.cons_append, List.nil_append, List.length_cons, List.length_nil, List.replicate_succ, List.replicate_zero, List.getElem?_cons_zero, List.getElem?_cons_succ, List.set_cons_zero, List.set_cons_succ, Option.join_some, Option.map_some, Option.map_none, Option.bind_some, setSl, tgSl, b_add, b_sub, b_mul, b_fdiv, b_mod, b_pow, b_addT, b_addL, b_mulT, b_mulL, deq_ii, deq_bb, c_eq, c_ne, c_lt, c_le, c_gt, c_ge, c_isN, c_isnN, c_isB, c_isnB, i_bl, i_non, i_int, i_str, i_tup, i_lst, non_non, non_int, non_tup, non_bl, t_non, t_bl, t_int, t_tup, t_lst, ixD_tup, ixD_lst, slD_tup, slD_lst, f_lenT, f_lenL, f_tupT, f_tupL, f_lstT, f_lstL, f_int, f_abs, f_max, f_min, f_all, f_any, f_sum, f_sorted, y_int, y_bl, y_non, y_str, y_tup, y_lst, y_obj, k_ii, k_ib, k_it, k_il, k_is, k_tt, k_tl, k_ti, k_tb, k_ll, k_lt, k_bi, k_bb, k_bt, k_bl, k_nt, k_ss, k_st, k_cc, ks_nil, ks_cons, as_int, pg_cells, pg_at, pg_digits, pg_count, pg_fold, ps_at, ps_digits, ps_count, ps_fold, q_tup, q_lst, z_tt, z_ll, ea_obj, er_bl, if_true, if_false, Bool.false_eq_true, Nat.reduceAdd, Nat.reduceSub, Bool.not_true, Bool.not_false, decide_true, decide_false, B2, forB, headS, dropSs, ir__law_right, s__law_right, o4, o5, o6, o7, o8, ea_ob, row_eq_i, la, opt_isN, eq_self]; rfl) ?_
  exact evSs_nil
/-! ### loops -/
theorem loop_inv {f : D → SEnv → PenS → R (Fl × SEnv)} {Inv : SEnv → PenS → Prop} : ∀ {ds : List D} {ρ : SEnv} {p : PenS}, (∀ d ∈ ds, ∀ ρ p, Inv ρ p → ∃ ρ' p', f d ρ p = .ok (.nx, ρ') p' ∧ Inv ρ' p') → Inv ρ p → ∃ ρ' p', forLoop f ds ρ p = .ok (.nx, ρ') p' ∧ Inv ρ' p'
  | [], ρ, p, _, h => ⟨ρ, p, rfl, h⟩
  | d :: ds, ρ, p, hf, h => by
    obtain ⟨ρ1, p1, e1, h1⟩ := hf d (by simp) ρ p h
    obtain ⟨ρ2, p2, e2, h2⟩ := loop_inv (ds := ds) (fun d hd => hf d (by simp [hd])) h1
    exact ⟨ρ2, p2, by simp only [forLoop, e1, R.bind_ok, e2], h2⟩
theorem evS_for {S : Sem0} {tg : Tg} {it : II} {b : ISs} {ρ : SEnv} {p p1 : PenS} {ds : List D} (h : evI S it (see ρ) p = .ok ds p1) :
    evS S (.for_ tg it b) ρ p = forLoop (fun d ρ p => (R.of (tgSl ρ tg d) p).bind fun ρ p => evSs S b ρ p) ds ρ p1 := by
  rw [evS, h]; rfl
theorem mem_zip {xs : List Rw} {d : D} : d ∈ zipD (xs.map ob) (xs.map pr) → ∃ x, x ∈ xs ∧ d = .tup [ob x, pr x] := by
  induction xs with
  | nil => intro h; simp [zipD] at h
  | cons x xs ih =>
    intro h
    simp only [List.map_cons, zipD] at h
    rcases List.mem_cons.mp h with rfl | h
    · exact ⟨x, by simp, rfl⟩
    · obtain ⟨y, hy, rfl⟩ := ih h
      exact ⟨y, by simp [hy], rfl⟩
/-- where the loops stand -/
def St5 (m : Int) (xs : List Rw) (ρ : SEnv) : Prop := ∃ z3 z5 z6 z7 z8 z9 z10 z11 z12 z13 z14 z15 z16 z17 z18 z19 z20 z21,
  ρ = [.d .pen, .d (.int m), .d (.lst (xs.map pr)), z3, .d (.lst (xs.map ob)), z5, z6, z7, z8, z9, z10, z11, z12, z13, z14, z15, z16, z17, z18, z19, z20, z21]
theorem it_zip {m : Int} {xs : List Rw} {ρ : SEnv} {p : PenS} (h : St5 m xs ρ) : evI S__law_right (.zip (.var 4) (.var 2)) (see ρ) p = .ok (zipD (xs.map ob) (xs.map pr)) p := by
  obtain ⟨z3, z5, z6, z7, z8, z9, z10, z11, z12, z13, z14, z15, z16, z17, z18, z19, z20, z21, rfl⟩ := h
  simp -implicitDefEqProofs only [evFn, evSs, evS, evE, evT, evEs, evAnd, evOr, evAndT, evOrT, evO, evI, evOwn, R.bind_ok, R.of_some, se_d, se_u, se_o, sb_d, sb_u, sb_o, see, seeB, List.map_cons, List.map_nil, List.cons_append, List.nil_append, List.length_cons, List.length_nil, List.replicate_succ, List.replicate_zero, List.getElem?_cons_zero, List.getElem?_cons_succ, List.set_cons_zero, List.set_cons_succ, Option.join_some, Option.map_some, Option.map_none, Option.bind_some, setSl, tgSl, b_add, b_sub, b_mul, b_fdiv, b_mod, b_pow, b_addT, b_addL, b_mulT, b_mulL, deq_ii, deq_bb, c_eq, c_ne, c_lt, c_le, c_gt, c_ge, c_isN, c_isnN, c_isB, c_isnB, i_bl, i_non, i_int, i_str, i_tup, i_lst, non_non, non_int, non_tup, non_bl, t_non, t_bl, t_int, t_tup, t_lst, ixD_tup, ixD_lst, slD_tup, slD_lst, f_lenT, f_lenL, f_tupT, f_tupL, f_lstT, f_lstL, f_int, f_abs, f_max, f_min, f_all, f_any, f_sum, f_sorted, y_int, y_bl, y_non, y_str, y_tup, y_lst, y_obj, k_ii, k_ib, k_it, k_il, k_is, k_tt, k_tl, k_ti, k_tb, k_ll, k_lt, k_bi, k_bb, k_bt, k_bl, k_nt, k_ss, k_st, k_cc, ks_nil, ks_cons, as_int, pg_cells, pg_at, pg_digits, pg_count, pg_fold, ps_at, ps_digits, ps_count, ps_fold, q_tup, q_lst, z_tt, z_ll, ea_obj, er_bl, if_true, if_false, Bool.false_eq_true, Nat.reduceAdd, Nat.reduceSub, Bool.not_true, Bool.not_false, decide_true, decide_false]
theorem loop1 {m : Int} (hm : 1 ≤ m ∧ m ≤ 20) {xs : List Rw} (hx : ∀ x ∈ xs, Row0 m x) {ρ : SEnv} {p : PenS} (h : St5 m xs ρ) (hp : PInv p) :
    ∃ ρ' p', evS S__law_right (headS (dropSs 5 ir__law_right)) ρ p = .ok (.nx, ρ') p' ∧ St5 m xs ρ' ∧ PInv p' := by
  rw [show headS (dropSs 5 ir__law_right) = .for_ (.tp [6, 7]) (.zip (.var 4) (.var 2)) B1 from rfl, evS_for (it_zip h)]
  refine loop_inv (Inv := fun ρ p => St5 m xs ρ ∧ PInv p) ?_ ⟨h, hp⟩
  intro d hd ρ p hi
  obtain ⟨⟨z3, z5, z6, z7, z8, z9, z10, z11, z12, z13, z14, z15, z16, z17, z18, z19, z20, z21, rfl⟩, hp⟩ := hi
  obtain ⟨x, hxm, rfl⟩ := mem_zip hd
  obtain ⟨y3, y5, y6, y7, y8, y9, y10, y11, y12, y13, y14, y15, y16, y17, y18, y19, y20, y21, p', e, hp'⟩ := body1 hp hm (hx x hxm) (.d (.lst (xs.map pr))) (.d (.lst (xs.map ob))) z3 z5 z8 z9 z10 z11 z12 z13 z14 z15 z16 z17 z18 z19 z20 z21
  exact ⟨_, p', e, ⟨y3, y5, y6, y7, y8, y9, y10, y11, y12, y13, y14, y15, y16, y17, y18, y19, y20, y21, rfl⟩, hp'⟩
theorem loop2 {m : Int} (hm : 1 ≤ m ∧ m ≤ 20) {xs : List Rw} (hx : ∀ x ∈ xs, Row0 m x) {ρ : SEnv} {p : PenS} (h : St5 m xs ρ) (hp : PInv p) :
    ∃ ρ' p', evS S__law_right (headS (dropSs 6 ir__law_right)) ρ p = .ok (.nx, ρ') p' ∧ St5 m xs ρ' ∧ PInv p' := by
  rw [show headS (dropSs 6 ir__law_right) = .for_ (.tp [12, 13]) (.zip (.var 4) (.var 2)) (.cons (.for_ (.tp [16, 17]) (.zip (.var 4) (.var 2)) B2) .nil) from rfl, evS_for (it_zip h)]
  refine loop_inv (Inv := fun ρ p => St5 m xs ρ ∧ PInv p) ?_ ⟨h, hp⟩
  intro d hd ρ p hi
  obtain ⟨⟨z3, z5, z6, z7, z8, z9, z10, z11, z12, z13, z14, z15, z16, z17, z18, z19, z20, z21, rfl⟩, hp⟩ := hi
  obtain ⟨x, hxm, rfl⟩ := mem_zip hd
  have h0 : St5 m xs [.d .pen, .d (.int m), .d (.lst (xs.map pr)), z3, .d (.lst (xs.map ob)), z5, z6, z7, z8, z9, z10, z11, .d (ob x), .d (pr x), z14, z15, z16, z17, z18, z19, z20, z21] := ⟨z3, z5, z6, z7, z8, z9, z10, z11, .d (ob x), .d (pr x), z14, z15, z16, z17, z18, z19, z20, z21, rfl⟩
  have inner : ∃ ρ' p', forLoop (fun d ρ p => (R.of (tgSl ρ (.tp [16, 17]) d) p).bind fun ρ p => evSs S__law_right B2 ρ p) (zipD (xs.map ob) (xs.map pr)) [.d .pen, .d (.int m), .d (.lst (xs.map pr)), z3, .d (.lst (xs.map ob)), z5, z6, z7, z8, z9, z10, z11, .d (ob x), .d (pr x), z14, z15, z16, z17, z18, z19, z20, z21] p = .ok (.nx, ρ') p' ∧
      ((∃ z3 z5 z6 z7 z8 z9 z10 z11 z14 z15 z16 z17 z18 z19 z20 z21, ρ' = [.d .pen, .d (.int m), .d (.lst (xs.map pr)), z3, .d (.lst (xs.map ob)), z5, z6, z7, z8, z9, z10, z11, .d (ob x), .d (pr x), z14, z15, z16, z17, z18, z19, z20, z21]) ∧ PInv p') := by
    refine loop_inv (Inv := fun ρ' p' => (∃ z3 z5 z6 z7 z8 z9 z10 z11 z14 z15 z16 z17 z18 z19 z20 z21, ρ' = [.d .pen, .d (.int m), .d (.lst (xs.map pr)), z3, .d (.lst (xs.map ob)), z5, z6, z7, z8, z9, z10, z11, .d (ob x), .d (pr x), z14, z15, z16, z17, z18, z19, z20, z21]) ∧ PInv p') ?_ ⟨⟨z3, z5, z6, z7, z8, z9, z10, z11, z14, z15, z16, z17, z18, z19, z20, z21, rfl⟩, hp⟩
    intro d hd ρ p hi
    obtain ⟨⟨z3, z5, z6, z7, z8, z9, z10, z11, z14, z15, z16, z17, z18, z19, z20, z21, rfl⟩, hp⟩ := hi
    obtain ⟨y, hym, rfl⟩ := mem_zip hd
    obtain ⟨y18, y19, e⟩ := body2 (p := p) hm (hx x hxm) (hx y hym) (.d (.lst (xs.map pr))) (.d (.lst (xs.map ob))) z3 z5 z6 z7 z8 z9 z10 z11 z14 z15 z18 z19 z20 z21
    refine ⟨_, p, ?_, ⟨z3, z5, z6, z7, z8, z9, z10, z11, z14, z15, .d (ob y), .d (pr y), y18, y19, z20, z21, rfl⟩, hp⟩
    simp -implicitDefEqProofs only [tgSl, setSl, List.set_cons_succ, List.set_cons_zero, R.of_some, R.bind_ok]
    exact e
  obtain ⟨ρ', p', e, ⟨z3', z5', z6', z7', z8', z9', z10', z11', z14', z15', z16', z17', z18', z19', z20', z21', rfl⟩, hp'⟩ := inner
  refine ⟨[.d .pen, .d (.int m), .d (.lst (xs.map pr)), z3', .d (.lst (xs.map ob)), z5', z6', z7', z8', z9', z10', z11', .d (ob x), .d (pr x), z14', z15', z16', z17', z18', z19', z20', z21'], p', ?_, ⟨z3', z5', z6', z7', z8', z9', z10', z11', .d (ob x), .d (pr x), z14', z15', z16', z17', z18', z19', z20', z21', rfl⟩, hp'⟩
  show evSs S__law_right (.cons (.for_ (.tp [16, 17]) (.zip (.var 4) (.var 2)) B2) .nil) [.d .pen, .d (.int m), .d (.lst (xs.map pr)), z3, .d (.lst (xs.map ob)), z5, z6, z7, z8, z9, z10, z11, .d (ob x), .d (pr x), z14, z15, z16, z17, z18, z19, z20, z21] p = _
  have ef : ∀ ρ p, St5 m xs ρ → evS S__law_right (.for_ (.tp [16, 17]) (.zip (.var 4) (.var 2)) B2) ρ p = forLoop (fun d ρ p => (R.of (tgSl ρ (.tp [16, 17]) d) p).bind fun ρ p => evSs S__law_right B2 ρ p) (zipD (xs.map ob) (xs.map pr)) ρ p := fun ρ p h => evS_for (it_zip h)
  exact evSs_nx ((ef _ p h0).trans e) evSs_nil
end Lk07

set_option Elab.async false
set_option linter.all false
set_option maxRecDepth 100000
set_option maxHeartbeats 2000000
namespace Lk07
open PySem PySem.Spec PyProof.Rows L2 Mi RowP
theorem noL_ints (xs : W) : noLsts (xs.map D.int) = true := by
  induction xs with
  | nil => rfl
  | cons x xs ih => simp only [List.map_cons, noLsts, noLst, ih, Bool.and_self]
theorem noL_pr (x : Rw) : noLst (pr x) = true := by
  unfold pr tI
  simp only [noLst, noLsts, noL_ints, Bool.and_self]
/-- what the further rows are -/
def Pk (m : Int) (x0 y : Rw) : Prop := Row0 m y ∧ ((∀ n, itm y n = itm x0 n) ∨ (y.1.length ≤ 10 ∧ y.2.length ≤ 6) ∨ (y.1.length ≤ 4 ∧ y.2.length ≤ 8))
theorem itm_third (x : Rw) (hx : x.2 ≠ []) (n : Nat) : itm (x.1 ++ x.2, pw x.2 2) n = itm x n := by
  have hp : 0 < x.2.length := List.length_pos_iff.mpr hx
  have pl := pw_len x.2 2
  unfold itm item
  simp only [List.length_append]
  by_cases c : n < x.1.length
  · rw [if_pos (by omega), if_pos c, gDl c]
  · rw [if_neg c]
    by_cases d : n < x.1.length + x.2.length
    · rw [if_pos d, gDr (by omega), cyc_lt (by omega)]
    · rw [if_neg d]
      have hk : (n - (x.1.length + x.2.length)) % (pw x.2 2).length < 2 * x.2.length := by rw [pl]; exact Nat.mod_lt _ (by omega)
      conv => lhs; unfold cyc
      rw [pw_get x.2 hx 2 _ hk, pl]
      unfold cyc
      congr 1
      rw [Nat.mod_mod_of_dvd _ ⟨2, by omega⟩, show n - x.1.length = (n - (x.1.length + x.2.length)) + x.2.length by omega, Nat.add_mod_right]
theorem ix_l0 (x : Rw) (xs : List Rw) : idx (.lst ((x :: xs).map pr)) (.int 0) = some (pr x) := by
  rw [ixD_lst, atI_nn (by omega) (by simp only [List.length_map, List.length_cons]; omega)]
  rfl
def ztl : List Sl := [.u, .u, .u, .u, .u, .u, .u, .u, .u, .u, .u, .u, .u, .u, .u, .u, .u, .u]
theorem lap1 {p : PenS} (hp : PInv p) {m : Int} (hm : 1 ≤ m ∧ m ≤ 20) {x0 : Rw} (f0 : Fig m x0) (h1 : x0.1.length ≤ 5) (h2 : x0.2.length ≤ 10) (xs : List Rw) (hl : xs.length < 100) (z3 : Sl) :
    ∃ y p', Pk m x0 y ∧ PInv p' ∧ evS S__law_right (headS (forB (headS (dropSs 2 ir__law_right)))) (.d .pen :: .d (.int m) :: .o ((x0 :: xs).map pr) :: z3 :: ztl) p = .ok (.nx, .d .pen :: .d (.int m) :: .o ((x0 :: xs ++ [y]).map pr) :: z3 :: ztl) p' := by
  obtain ⟨y1, p1, e1, hp1, g1, l1, l1'⟩ := beside_row hp hm f0
  obtain ⟨y2, p2, e2, hp2, g2, l2, l2'⟩ := drawn_items hp1 hm (most := 4) (by omega) (by omega)
  have g3 : Fig m (x0.1 ++ x0.2, pw x0.2 2) := ⟨fun z => by
      have := congrArg List.length z
      simp only [pw_len, List.length_nil] at this
      have := List.length_pos_iff.mpr f0.1; omega, fun v hv => by
      rcases List.mem_append.mp hv with z | z
      · exact f0.2.1 v z
      · exact f0.2.2 v z, fun v hv => f0.2.2 v (pw_mem hv)⟩
  obtain ⟨v, p3, hv, e3, hp3⟩ := pick hp2 (xs := [pr y1, pr y2, pr (x0.1 ++ x0.2, pw x0.2 2)]) (by simp) (by simp)
  have hy : ∃ y, v = pr y ∧ Pk m x0 y := by
    simp only [List.mem_cons, List.not_mem_nil, or_false] at hv
    rcases hv with rfl | rfl | rfl
    · exact ⟨y1, rfl, ⟨g1, by omega, by omega⟩, .inr (.inl ⟨l1, l1'⟩)⟩
    · exact ⟨y2, rfl, ⟨g2, by omega, by omega⟩, .inr (.inr ⟨by omega, by omega⟩)⟩
    · exact ⟨_, rfl, ⟨g3, by simp only [List.length_append]; omega, by simp only [pw_len]; omega⟩, .inl (itm_third x0 f0.1)⟩
  obtain ⟨y, rfl, hy⟩ := hy
  have ad : Mi.bin .add (tI x0.1) (tI x0.2) = some (tI (x0.1 ++ x0.2)) := add_tI (by omega)
  have ml : Mi.bin .mul (tI x0.2) (.int 2) = some (tI (pw x0.2 2)) := mul_tI (by omega) (by omega) (by omega)
  have fe : ∀ a b : W, D.tup [tI a, tI b] = pr (a, b) := fun _ _ => rfl
  have i0 := ix_l0 x0 xs
  have nl := noL_pr y
  have ln : ((x0 :: xs).map pr).length < sizeLine := by rw [List.length_map, List.length_cons, sizeLine_eq]; omega
  refine ⟨y, p3, hy, hp3, ?_⟩
  generalize hP : (x0 :: xs).map pr = P at *
  rw [show (x0 :: xs ++ [y]).map pr = P ++ [pr y] by rw [← hP]; simp]
  simp -implicitDefEqProofs only [evFn, evSs, evS, evE, evT, evEs, evAnd, evOr, evAndT, evOrT, evO, evI, evOwn, R.bind_ok, R.of_some, se_d, se_u, se_o, sb_d, sb_u, sb_o, see, seeB, List.map_cons, List.map_nil, List.cons_append, List.nil_append, List.length_cons, List.length_nil, List.replicate_succ, List.replicate_zero, List.getElem?_cons_zero, List.getElem?_cons_succ, List.set_cons_zero, List.set_cons_succ, Option.join_some, Option.map_some, Option.map_none, Option.bind_some, setSl, tgSl, b_add, b_sub, b_mul, b_fdiv, b_mod, b_pow, b_addT, b_addL, b_mulT, b_mulL, deq_ii, deq_bb, c_eq, c_ne, c_lt, c_le, c_gt, c_ge, c_isN, c_isnN, c_isB, c_isnB, i_bl, i_non, i_int, i_str, i_tup, i_lst, non_non, non_int, non_tup, non_bl, t_non, t_bl, t_int, t_tup, t_lst, ixD_tup, ixD_lst, slD_tup, slD_lst, f_lenT, f_lenL, f_tupT, f_tupL, f_lstT, f_lstL, f_int, f_abs, f_max, f_min, f_all, f_any, f_sum, f_sorted, y_int, y_bl, y_non, y_str, y_tup, y_lst, y_obj, k_ii, k_ib, k_it, k_il, k_is, k_tt, k_tl, k_ti, k_tb, k_ll, k_lt, k_bi, k_bb, k_bt, k_bl, k_nt, k_ss, k_st, k_cc, ks_nil, ks_cons, as_int, pg_cells, pg_at, pg_digits, pg_count, pg_fold, ps_at, ps_digits, ps_count, ps_fold, q_tup, q_lst, z_tt, z_ll, ea_obj, er_bl, if_true, if_false, Bool.false_eq_true, Nat.reduceAdd, Nat.reduceSub, Bool.not_true, Bool.not_false, decide_true, decide_false, forB, headS, dropSs, ir__law_right, s__law_right, ztl, e1, e2, i0, ix0, ix1, ad, ml, sz2, sz3, fe, e3, nl, ln, and_self]
/-! ### the places of three rows -/
theorem plc_ok {m : Int} {x0 x y : Rw} (f0 : x0.2 ≠ []) (h1 : x0.1.length ≤ 5) (h2 : x0.2.length ≤ 10) (hx : Pk m x0 x ∨ x = x0) (hy : Pk m x0 y ∨ y = x0) (nx : x.2 ≠ []) (ny : y.2 ≠ []) : Plc x y (plc (unl x y (bnd x y))) := by
  have rep : ∀ z : Rw, (Pk m x0 z ∨ z = x0) → z.2 ≠ [] → (∀ n, itm z n = itm x0 n) ∨ (z.1.length ≤ 10 ∧ z.2.length ≤ 6) ∨ (z.1.length ≤ 4 ∧ z.2.length ≤ 8) := fun z hz _ => by
    rcases hz with hz | rfl
    · exact hz.2
    · exact .inl fun _ => rfl
  have rx := rep x hx nx
  have ry := rep y hy ny
  -- alike below 100: alike
  have key : (∀ i, i < 100 → itm x i = itm y i) → ∀ n, itm x n = itm y n := by
    intro h
    have go : ∀ u v : Rw, u.2 ≠ [] → v.2 ≠ [] → (∀ n, itm u n = itm x n) → (∀ n, itm v n = itm y n) → bnd u v ≤ 100 → ∀ n, itm x n = itm y n := fun u v hu hv e1 e2 hb n => by
      rw [← e1, ← e2]
      exact alike hu hv (fun i hi => by rw [e1, e2]; exact h i (by omega)) n
    have mb : ∀ (u v : Rw) (a b c d : Nat), u.1.length ≤ a → v.1.length ≤ b → u.2.length ≤ c → v.2.length ≤ d → max a b + c * d ≤ 100 → bnd u v ≤ 100 := fun u v a b c d q1 q2 q3 q4 q5 => by
      unfold bnd
      have := Nat.mul_le_mul q3 q4
      omega
    rcases rx with rx | ⟨r1, r2⟩ | ⟨r1, r2⟩ <;> rcases ry with ry | ⟨s1, s2⟩ | ⟨s1, s2⟩
    · intro n; rw [rx, ry]
    · exact go x0 y f0 ny (fun n => (rx n).symm) (fun _ => rfl) (mb _ _ 5 10 10 6 h1 s1 h2 s2 (by decide))
    · exact go x0 y f0 ny (fun n => (rx n).symm) (fun _ => rfl) (mb _ _ 5 4 10 8 h1 s1 h2 s2 (by decide))
    · exact go x x0 nx f0 (fun _ => rfl) (fun n => (ry n).symm) (mb _ _ 10 5 6 10 r1 h1 r2 h2 (by decide))
    · exact go x y nx ny (fun _ => rfl) (fun _ => rfl) (mb _ _ 10 10 6 6 r1 s1 r2 s2 (by decide))
    · exact go x y nx ny (fun _ => rfl) (fun _ => rfl) (mb _ _ 10 4 6 8 r1 s1 r2 s2 (by decide))
    · exact go x x0 nx f0 (fun _ => rfl) (fun n => (ry n).symm) (mb _ _ 4 5 8 10 r1 h1 r2 h2 (by decide))
    · exact go x y nx ny (fun _ => rfl) (fun _ => rfl) (mb _ _ 4 10 8 6 r1 s1 r2 s2 (by decide))
    · exact go x y nx ny (fun _ => rfl) (fun _ => rfl) (mb _ _ 4 4 8 8 r1 s1 r2 s2 (by decide))
  cases q : unl x y (bnd x y) with
  | none =>
    have a := (unl_all nx ny).mp q
    exact ⟨Nat.le_refl _, fun j _ => a j, fun h => absurd h (Nat.lt_irrefl _)⟩
  | some i =>
    obtain ⟨q1, q2, q3⟩ := unl_some.mp q
    have hi : i < 100 := by
      rcases Nat.lt_or_ge i 100 with h | h
      · exact h
      · exact absurd (key (fun j hj => q3 j (by omega)) i) q2
    exact ⟨Nat.le_of_lt hi, q3, fun _ => q2⟩
theorem ix_l (x : List Rw) (k : Nat) {y : Rw} (h : x[k]? = some y) : idx (.lst (x.map ob)) (.int (k : Nat)) = some (ob y) := by
  have hl := (List.getElem?_eq_some_iff.mp h).1
  rw [ixD_lst, atI_nn (by omega) (by rw [List.length_map]; omega), List.getElem?_map, Int.toNat_natCast, h]
  rfl
theorem sorted_i {p : PenS} {m : Int} (hm : 1 ≤ m ∧ m ≤ 20) {x0 : Rw} (f0 : Row0 m x0) (h1 : x0.1.length ≤ 5) (h2 : x0.2.length ≤ 10) {x1 x2 : Rw} (k1 : Pk m x0 x1) (k2 : Pk m x0 x2) (r : List Rw) {ρ : SEnv} (h : St5 m (x0 :: x1 :: x2 :: r) ρ) :
    ∃ ρ', evSs S__law_right (dropSs 7 ir__law_right) ρ p = .ok (.rt (.bl true), ρ') p := by
  obtain ⟨z3, z5, z6, z7, z8, z9, z10, z11, z12, z13, z14, z15, z16, z17, z18, z19, z20, z21, rfl⟩ := h
  have g0 := f0.good
  have g1 := k1.1.good
  have g2 := k2.1.good
  have i0 : idx (.lst ((x0 :: x1 :: x2 :: r).map ob)) (.int 0) = some (ob x0) := ix_l _ 0 rfl
  have i1 : idx (.lst ((x0 :: x1 :: x2 :: r).map ob)) (.int 1) = some (ob x1) := ix_l _ 1 rfl
  have i2 : idx (.lst ((x0 :: x1 :: x2 :: r).map ob)) (.int 2) = some (ob x2) := ix_l _ 2 rfl
  have u01 := first_unlike_i (p := p) hm g0 g1
  have u12 := first_unlike_i (p := p) hm g1 g2
  have u02 := first_unlike_i (p := p) hm g0 g2
  have p01 := plc_ok (x := x0) (y := x1) g0.1 h1 h2 (.inr rfl) (.inl k1) g0.1 g1.1
  have p12 := plc_ok (x := x1) (y := x2) g0.1 h1 h2 (.inl k1) (.inl k2) g1.1 g2.1
  have p02 := plc_ok (x := x0) (y := x2) g0.1 h1 h2 (.inr rfl) (.inl k2) g0.1 g2.1
  obtain ⟨t1, t2, t3⟩ := plc_tri p01 p12 p02
  generalize unl x0 x1 (bnd x0 x1) = a at *
  generalize unl x1 x2 (bnd x1 x2) = b at *
  generalize unl x0 x2 (bnd x0 x2) = c at *
  obtain ⟨u, v, ms⟩ := sort3 (a := (plc a : Int)) (b := (plc b : Int)) (c := (plc c : Int)) (by omega) (by omega) (by omega)
  have l3 : [optD a, optD b, optD c].length ≤ sizeLine := sz3
  have fm3 : [optD a, optD b, optD c].filterMap (fun d => match d with | .non => some (D.int 100) | .int k => some (.int k) | _ => none) = [.int (plc a : Int), .int (plc b : Int), .int (plc c : Int)] := by
    cases a <;> cases b <;> cases c <;> rfl
  have io : intsOf [.int (plc a : Int), .int (plc b : Int), .int (plc c : Int)] = some [(plc a : Int), (plc b : Int), (plc c : Int)] := rfl
  have j0 : idx (.lst [.int u, .int u, .int v]) (.int 0) = some (.int u) := rfl
  have j1 : idx (.lst [.int u, .int u, .int v]) (.int 1) = some (.int u) := rfl
  generalize hR : (x0 :: x1 :: x2 :: r).map ob = Rr at *
  generalize (x0 :: x1 :: x2 :: r).map pr = Pp at *
  refine ⟨[.d .pen, .d (.int m), .d (.lst Pp), z3, .d (.lst Rr), .d (.lst [.int u, .int u, .int v]), z6, z7, z8, z9, z10, z11, z12, z13, z14, z15, z16, z17, z18, z19, z20, z21], ?_⟩
  rw [show dropSs 7 ir__law_right = .cons (headS (dropSs 7 ir__law_right)) (dropSs 8 ir__law_right) from rfl]
  refine evSs_nx (ρ1 := [.d .pen, .d (.int m), .d (.lst Pp), z3, .d (.lst Rr), .d (.lst [.int u, .int u, .int v]), z6, z7, z8, z9, z10, z11, z12, z13, z14, z15, z16, z17, z18, z19, z20, z21]) (p1 := p) ?_ ?_
  · simp -implicitDefEqProofs only [evFn, evSs, evS, evE, evT, evEs, evAnd, evOr, evAndT, evOrT, evO, evI, evOwn, R.bind_ok, R.of_some, se_d, se_u, se_o, sb_d, sb_u, sb_o, see, seeB, List.map_cons, List.map_nil, List.cons_append, List.nil_append, List.length_cons, List.length_nil, List.replicate_succ, List.replicate_zero, List.getElem?_cons_zero, List.getElem?_cons_succ, List.set_cons_zero, List.set_cons_succ, Option.join_some, Option.map_some, Option.map_none, Option.bind_some, setSl, tgSl, b_add, b_sub, b_mul, b_fdiv, b_mod, b_pow, b_addT, b_addL, b_mulT, b_mulL, deq_ii, deq_bb, c_eq, c_ne, c_lt, c_le, c_gt, c_ge, c_isN, c_isnN, c_isB, c_isnB, i_bl, i_non, i_int, i_str, i_tup, i_lst, non_non, non_int, non_tup, non_bl, t_non, t_bl, t_int, t_tup, t_lst, ixD_tup, ixD_lst, slD_tup, slD_lst, f_lenT, f_lenL, f_tupT, f_tupL, f_lstT, f_lstL, f_int, f_abs, f_max, f_min, f_all, f_any, f_sum, f_sorted, y_int, y_bl, y_non, y_str, y_tup, y_lst, y_obj, k_ii, k_ib, k_it, k_il, k_is, k_tt, k_tl, k_ti, k_tb, k_ll, k_lt, k_bi, k_bb, k_bt, k_bl, k_nt, k_ss, k_st, k_cc, ks_nil, ks_cons, as_int, pg_cells, pg_at, pg_digits, pg_count, pg_fold, ps_at, ps_digits, ps_count, ps_fold, q_tup, q_lst, z_tt, z_ll, ea_obj, er_bl, if_true, if_false, Bool.false_eq_true, Nat.reduceAdd, Nat.reduceSub, Bool.not_true, Bool.not_false, decide_true, decide_false, headS, dropSs, ir__law_right, s__law_right, i0, i1, i2, u01, u12, u02, sz3, wipeD, asgTg]
    simp only [bind_assoc']
    rw [compF (g := fun d => match d with | .non => some (D.int 100) | .int k => some (.int k) | _ => none), fm3]
    · simp -implicitDefEqProofs only [evFn, evSs, evS, evE, evT, evEs, evAnd, evOr, evAndT, evOrT, evO, evI, evOwn, R.bind_ok, R.of_some, se_d, se_u, se_o, sb_d, sb_u, sb_o, see, seeB, List.map_cons, List.map_nil, List.cons_append, List.nil_append, List.length_cons, List.length_nil, List.replicate_succ, List.replicate_zero, List.getElem?_cons_zero, List.getElem?_cons_succ, List.set_cons_zero, List.set_cons_succ, Option.join_some, Option.map_some, Option.map_none, Option.bind_some, setSl, tgSl, b_add, b_sub, b_mul, b_fdiv, b_mod, b_pow, b_addT, b_addL, b_mulT, b_mulL, deq_ii, deq_bb, c_eq, c_ne, c_lt, c_le, c_gt, c_ge, c_isN, c_isnN, c_isB, c_isnB, i_bl, i_non, i_int, i_str, i_tup, i_lst, non_non, non_int, non_tup, non_bl, t_non, t_bl, t_int, t_tup, t_lst, ixD_tup, ixD_lst, slD_tup, slD_lst, f_lenT, f_lenL, f_tupT, f_tupL, f_lstT, f_lstL, f_int, f_abs, f_max, f_min, f_all, f_any, f_sum, f_sorted, y_int, y_bl, y_non, y_str, y_tup, y_lst, y_obj, k_ii, k_ib, k_it, k_il, k_is, k_tt, k_tl, k_ti, k_tb, k_ll, k_lt, k_bi, k_bb, k_bt, k_bl, k_nt, k_ss, k_st, k_cc, ks_nil, ks_cons, as_int, pg_cells, pg_at, pg_digits, pg_count, pg_fold, ps_at, ps_digits, ps_count, ps_fold, q_tup, q_lst, z_tt, z_ll, ea_obj, er_bl, if_true, if_false, Bool.false_eq_true, Nat.reduceAdd, Nat.reduceSub, Bool.not_true, Bool.not_false, decide_true, decide_false, io, ms]
    · intro d hd
      have : ∃ o, d = optD o := by
        simp only [List.mem_cons, List.not_mem_nil, or_false] at hd
        rcases hd with rfl | rfl | rfl <;> exact ⟨_, rfl⟩
      obtain ⟨o, rfl⟩ := this
      cases o with
      | none => simp -implicitDefEqProofs only [evFn, evSs, evS, evE, evT, evEs, evAnd, evOr, evAndT, evOrT, evO, evI, evOwn, R.bind_ok, R.of_some, se_d, se_u, se_o, sb_d, sb_u, sb_o, see, seeB, List.map_cons, List.map_nil, List.cons_append, List.nil_append, List.length_cons, List.length_nil, List.replicate_succ, List.replicate_zero, List.getElem?_cons_zero, List.getElem?_cons_succ, List.set_cons_zero, List.set_cons_succ, Option.join_some, Option.map_some, Option.map_none, Option.bind_some, setSl, tgSl, b_add, b_sub, b_mul, b_fdiv, b_mod, b_pow, b_addT, b_addL, b_mulT, b_mulL, deq_ii, deq_bb, c_eq, c_ne, c_lt, c_le, c_gt, c_ge, c_isN, c_isnN, c_isB, c_isnB, i_bl, i_non, i_int, i_str, i_tup, i_lst, non_non, non_int, non_tup, non_bl, t_non, t_bl, t_int, t_tup, t_lst, ixD_tup, ixD_lst, slD_tup, slD_lst, f_lenT, f_lenL, f_tupT, f_tupL, f_lstT, f_lstL, f_int, f_abs, f_max, f_min, f_all, f_any, f_sum, f_sorted, y_int, y_bl, y_non, y_str, y_tup, y_lst, y_obj, k_ii, k_ib, k_it, k_il, k_is, k_tt, k_tl, k_ti, k_tb, k_ll, k_lt, k_bi, k_bb, k_bt, k_bl, k_nt, k_ss, k_st, k_cc, ks_nil, ks_cons, as_int, pg_cells, pg_at, pg_digits, pg_count, pg_fold, ps_at, ps_digits, ps_count, ps_fold, q_tup, q_lst, z_tt, z_ll, ea_obj, er_bl, if_true, if_false, Bool.false_eq_true, Nat.reduceAdd, Nat.reduceSub, Bool.not_true, Bool.not_false, decide_true, decide_false, optD]
      | some i => simp -implicitDefEqProofs only [evFn, evSs, evS, evE, evT, evEs, evAnd, evOr, evAndT, evOrT, evO, evI, evOwn, R.bind_ok, R.of_some, se_d, se_u, se_o, sb_d, sb_u, sb_o, see, seeB, List.map_cons, List.map_nil, List.cons_append, List.nil_append, List.length_cons, List.length_nil, List.replicate_succ, List.replicate_zero, List.getElem?_cons_zero, List.getElem?_cons_succ, List.set_cons_zero, List.set_cons_succ, Option.join_some, Option.map_some, Option.map_none, Option.bind_some, setSl, tgSl, b_add, b_sub, b_mul, b_fdiv, b_mod, b_pow, b_addT, b_addL, b_mulT, b_mulL, deq_ii, deq_bb, c_eq, c_ne, c_lt, c_le, c_gt, c_ge, c_isN, c_isnN, c_isB, c_isnB, i_bl, i_non, i_int, i_str, i_tup, i_lst, non_non, non_int, non_tup, non_bl, t_non, t_bl, t_int, t_tup, t_lst, ixD_tup, ixD_lst, slD_tup, slD_lst, f_lenT, f_lenL, f_tupT, f_tupL, f_lstT, f_lstL, f_int, f_abs, f_max, f_min, f_all, f_any, f_sum, f_sorted, y_int, y_bl, y_non, y_str, y_tup, y_lst, y_obj, k_ii, k_ib, k_it, k_il, k_is, k_tt, k_tl, k_ti, k_tb, k_ll, k_lt, k_bi, k_bb, k_bt, k_bl, k_nt, k_ss, k_st, k_cc, ks_nil, ks_cons, as_int, pg_cells, pg_at, pg_digits, pg_count, pg_fold, ps_at, ps_digits, ps_count, ps_fold, q_tup, q_lst, z_tt, z_ll, ea_obj, er_bl, if_true, if_false, Bool.false_eq_true, Nat.reduceAdd, Nat.reduceSub, Bool.not_true, Bool.not_false, decide_true, decide_false, optD]
  · simp -implicitDefEqProofs only [evFn, evSs, evS, evE, evT, evEs, evAnd, evOr, evAndT, evOrT, evO, evI, evOwn, R.bind_ok, R.of_some, se_d, se_u, se_o, sb_d, sb_u, sb_o, see, seeB, List.map_cons, List.map_nil, List.cons_append, List.nil_append, List.length_cons, List.length_nil, List.replicate_succ, List.replicate_zero, List.getElem?_cons_zero, List.getElem?_cons_succ, List.set_cons_zero, List.set_cons_succ, Option.join_some, Option.map_some, Option.map_none, Option.bind_some, setSl, tgSl, b_add, b_sub, b_mul, b_fdiv, b_mod, b_pow, b_addT, b_addL, b_mulT, b_mulL, deq_ii, deq_bb, c_eq, c_ne, c_lt, c_le, c_gt, c_ge, c_isN, c_isnN, c_isB, c_isnB, i_bl, i_non, i_int, i_str, i_tup, i_lst, non_non, non_int, non_tup, non_bl, t_non, t_bl, t_int, t_tup, t_lst, ixD_tup, ixD_lst, slD_tup, slD_lst, f_lenT, f_lenL, f_tupT, f_tupL, f_lstT, f_lstL, f_int, f_abs, f_max, f_min, f_all, f_any, f_sum, f_sorted, y_int, y_bl, y_non, y_str, y_tup, y_lst, y_obj, k_ii, k_ib, k_it, k_il, k_is, k_tt, k_tl, k_ti, k_tb, k_ll, k_lt, k_bi, k_bb, k_bt, k_bl, k_nt, k_ss, k_st, k_cc, ks_nil, ks_cons, as_int, pg_cells, pg_at, pg_digits, pg_count, pg_fold, ps_at, ps_digits, ps_count, ps_fold, q_tup, q_lst, z_tt, z_ll, ea_obj, er_bl, if_true, if_false, Bool.false_eq_true, Nat.reduceAdd, Nat.reduceSub, Bool.not_true, Bool.not_false, decide_true, decide_false, dropSs, ir__law_right, s__law_right, j0, j1, eq_self]
/-! ### the law -/
theorem law_right {p : PenS} (hp : PInv p) : ∃ p', d__law_right [.pen] p = .ok (.bl true) p' ∧ PInv p' := by
  obtain ⟨m', p1, e1, hp1, a1, a2⟩ := draw' hp (many := 20) (by omega) (by omega)
  obtain ⟨m, rfl⟩ : ∃ m : Int, m' = m - 1 := ⟨m' + 1, by omega⟩
  have hm : 1 ≤ m ∧ m ≤ 20 := ⟨by omega, by omega⟩
  obtain ⟨x0, p2, e2, hp2, f0, h1, h2⟩ := drawn_items hp1 hm (most := 5) (by omega) (by omega)
  have h1 : x0.1.length ≤ 5 := by omega
  have h2 : x0.2.length ≤ 10 := by omega
  have r0 : Row0 m x0 := ⟨f0, by omega, by omega⟩
  obtain ⟨y1, p3, k1, hp3, e3⟩ := lap1 hp2 hm f0 h1 h2 [] (by simp) (.d (.int 0))
  obtain ⟨y2, p4, k2, hp4, e4⟩ := lap1 hp3 hm f0 h1 h2 [y1] (by simp) (.d (.int 1))
  obtain ⟨y3, p5, k3, hp5, e5⟩ := lap1 hp4 hm f0 h1 h2 [y1, y2] (by simp) (.d (.int 2))
  obtain ⟨y4, p6, k4, hp6, e6⟩ := lap1 hp5 hm f0 h1 h2 [y1, y2, y3] (by simp) (.d (.int 3))
  simp only [List.cons_append, List.nil_append] at e3 e4 e5 e6
  have hx : ∀ x ∈ [x0, y1, y2, y3, y4], Row0 m x := fun x h => by
    simp only [List.mem_cons, List.not_mem_nil, or_false] at h
    rcases h with rfl | rfl | rfl | rfl | rfl
    · exact r0
    · exact k1.1
    · exact k2.1
    · exact k3.1
    · exact k4.1
  have st0 : St5 m [x0, y1, y2, y3, y4] (.d .pen :: .d (.int m) :: .d (.lst ([x0, y1, y2, y3, y4].map pr)) :: .d (.int 3) :: .d (.lst ([x0, y1, y2, y3, y4].map ob)) :: ztl.drop 1) := ⟨_, _, _, _, _, _, _, _, _, _, _, _, _, _, _, _, _, _, rfl⟩
  obtain ⟨ρ1, p7, e7, st1, hp7⟩ := loop1 hm hx st0 hp6
  obtain ⟨ρ2, p8, e8, st2, hp8⟩ := loop2 hm hx st1 hp7
  obtain ⟨ρ3, e9⟩ := sorted_i (p := p8) hm r0 h1 h2 k1 k2 [y3, y4] st2
  refine ⟨p8, ?_, hp8⟩
  have all : evSs S__law_right ir__law_right (.d .pen :: .u :: .u :: .u :: ztl) p = .ok (.rt (.bl true), ρ3) p8 := by
    rw [show ir__law_right = .cons (headS ir__law_right) (.cons (headS (dropSs 1 ir__law_right)) (.cons (.for_ (.nm 3) (.rng1 (.int 4)) (.cons (headS (forB (headS (dropSs 2 ir__law_right)))) .nil)) (.frz 2 (.cons (headS (dropSs 4 ir__law_right)) (.cons (headS (dropSs 5 ir__law_right)) (.cons (headS (dropSs 6 ir__law_right)) (dropSs 7 ir__law_right))))))) from rfl]
    refine evSs_nx (ρ1 := .d .pen :: .d (.int m) :: .u :: .u :: ztl) (p1 := p1) (by
      simp -implicitDefEqProofs only [evFn, evSs, evS, evE, evT, evEs, evAnd, evOr, evAndT, evOrT, evO, evI, evOwn, R.bind_ok, R.of_some, se_d, se_u, se_o, sb_d, sb_u, sb_o, see, seeB, List.map_cons, List.map_nil, List.cons_append, List.nil_append, List.length_cons, List.length_nil, List.replicate_succ, List.replicate_zero, List.getElem?_cons_zero, List.getElem?_cons_succ, List.set_cons_zero, List.set_cons_succ, Option.join_some, Option.map_some, Option.map_none, Option.bind_some, setSl, tgSl, b_add, b_sub, b_mul, b_fdiv, b_mod, b_pow, b_addT, b_addL, b_mulT, b_mulL, deq_ii, deq_bb, c_eq, c_ne, c_lt, c_le, c_gt, c_ge, c_isN, c_isnN, c_isB, c_isnB, i_bl, i_non, i_int, i_str, i_tup, i_lst, non_non, non_int, non_tup, non_bl, t_non, t_bl, t_int, t_tup, t_lst, ixD_tup, ixD_lst, slD_tup, slD_lst, f_lenT, f_lenL, f_tupT, f_tupL, f_lstT, f_lstL, f_int, f_abs, f_max, f_min, f_all, f_any, f_sum, f_sorted, y_int, y_bl, y_non, y_str, y_tup, y_lst, y_obj, k_ii, k_ib, k_it, k_il, k_is, k_tt, k_tl, k_ti, k_tb, k_ll, k_lt, k_bi, k_bb, k_bt, k_bl, k_nt, k_ss, k_st, k_cc, ks_nil, ks_cons, as_int, pg_cells, pg_at, pg_digits, pg_count, pg_fold, ps_at, ps_digits, ps_count, ps_fold, q_tup, q_lst, z_tt, z_ll, ea_obj, er_bl, if_true, if_false, Bool.false_eq_true, Nat.reduceAdd, Nat.reduceSub, Bool.not_true, Bool.not_false, decide_true, decide_false, headS, ir__law_right, s__law_right, e1, show (1 : Int) + (m - 1) = m by omega]) ?_
    refine evSs_nx (ρ1 := .d .pen :: .d (.int m) :: .o ([x0].map pr) :: .u :: ztl) (p1 := p2) (by
      simp -implicitDefEqProofs only [evFn, evSs, evS, evE, evT, evEs, evAnd, evOr, evAndT, evOrT, evO, evI, evOwn, R.bind_ok, R.of_some, se_d, se_u, se_o, sb_d, sb_u, sb_o, see, seeB, List.map_cons, List.map_nil, List.cons_append, List.nil_append, List.length_cons, List.length_nil, List.replicate_succ, List.replicate_zero, List.getElem?_cons_zero, List.getElem?_cons_succ, List.set_cons_zero, List.set_cons_succ, Option.join_some, Option.map_some, Option.map_none, Option.bind_some, setSl, tgSl, b_add, b_sub, b_mul, b_fdiv, b_mod, b_pow, b_addT, b_addL, b_mulT, b_mulL, deq_ii, deq_bb, c_eq, c_ne, c_lt, c_le, c_gt, c_ge, c_isN, c_isnN, c_isB, c_isnB, i_bl, i_non, i_int, i_str, i_tup, i_lst, non_non, non_int, non_tup, non_bl, t_non, t_bl, t_int, t_tup, t_lst, ixD_tup, ixD_lst, slD_tup, slD_lst, f_lenT, f_lenL, f_tupT, f_tupL, f_lstT, f_lstL, f_int, f_abs, f_max, f_min, f_all, f_any, f_sum, f_sorted, y_int, y_bl, y_non, y_str, y_tup, y_lst, y_obj, k_ii, k_ib, k_it, k_il, k_is, k_tt, k_tl, k_ti, k_tb, k_ll, k_lt, k_bi, k_bb, k_bt, k_bl, k_nt, k_ss, k_st, k_cc, ks_nil, ks_cons, as_int, pg_cells, pg_at, pg_digits, pg_count, pg_fold, ps_at, ps_digits, ps_count, ps_fold, q_tup, q_lst, z_tt, z_ll, ea_obj, er_bl, if_true, if_false, Bool.false_eq_true, Nat.reduceAdd, Nat.reduceSub, Bool.not_true, Bool.not_false, decide_true, decide_false, headS, dropSs, ir__law_right, s__law_right, e2, sz1]) ?_
    have lp : ∀ (d : D) (xs : List Sl → SEnv) (P P' : List D) (z : Sl) (q q' : PenS), evS S__law_right (headS (forB (headS (dropSs 2 ir__law_right)))) (.d .pen :: .d (.int m) :: .o P :: .d d :: ztl) q = .ok (.nx, .d .pen :: .d (.int m) :: .o P' :: .d d :: ztl) q' →
        (R.of (tgSl (.d .pen :: .d (.int m) :: .o P :: z :: ztl) (.nm 3) d) q).bind (fun ρ p => evSs S__law_right (.cons (headS (forB (headS (dropSs 2 ir__law_right)))) .nil) ρ p) = .ok (.nx, .d .pen :: .d (.int m) :: .o P' :: .d d :: ztl) q' := fun d _ P P' z q q' h => by
      show evSs S__law_right (.cons _ .nil) (.d .pen :: .d (.int m) :: .o P :: .d d :: ztl) q = _
      exact evSs_nx h evSs_nil
    refine evSs_nx (ρ1 := .d .pen :: .d (.int m) :: .o ([x0, y1, y2, y3, y4].map pr) :: .d (.int 3) :: ztl) (p1 := p6) ?_ ?_
    · rw [evS_for (ds := [.int 0, .int 1, .int 2, .int 3]) (p1 := p2) (by
        have r4 : rngOf 0 4 = some [.int 0, .int 1, .int 2, .int 3] := by rw [rngOf_ok (by omega) (by omega)]; rfl
        simp -implicitDefEqProofs only [evFn, evSs, evS, evE, evT, evEs, evAnd, evOr, evAndT, evOrT, evO, evI, evOwn, R.bind_ok, R.of_some, se_d, se_u, se_o, sb_d, sb_u, sb_o, see, seeB, List.map_cons, List.map_nil, List.cons_append, List.nil_append, List.length_cons, List.length_nil, List.replicate_succ, List.replicate_zero, List.getElem?_cons_zero, List.getElem?_cons_succ, List.set_cons_zero, List.set_cons_succ, Option.join_some, Option.map_some, Option.map_none, Option.bind_some, setSl, tgSl, b_add, b_sub, b_mul, b_fdiv, b_mod, b_pow, b_addT, b_addL, b_mulT, b_mulL, deq_ii, deq_bb, c_eq, c_ne, c_lt, c_le, c_gt, c_ge, c_isN, c_isnN, c_isB, c_isnB, i_bl, i_non, i_int, i_str, i_tup, i_lst, non_non, non_int, non_tup, non_bl, t_non, t_bl, t_int, t_tup, t_lst, ixD_tup, ixD_lst, slD_tup, slD_lst, f_lenT, f_lenL, f_tupT, f_tupL, f_lstT, f_lstL, f_int, f_abs, f_max, f_min, f_all, f_any, f_sum, f_sorted, y_int, y_bl, y_non, y_str, y_tup, y_lst, y_obj, k_ii, k_ib, k_it, k_il, k_is, k_tt, k_tl, k_ti, k_tb, k_ll, k_lt, k_bi, k_bb, k_bt, k_bl, k_nt, k_ss, k_st, k_cc, ks_nil, ks_cons, as_int, pg_cells, pg_at, pg_digits, pg_count, pg_fold, ps_at, ps_digits, ps_count, ps_fold, q_tup, q_lst, z_tt, z_ll, ea_obj, er_bl, if_true, if_false, Bool.false_eq_true, Nat.reduceAdd, Nat.reduceSub, Bool.not_true, Bool.not_false, decide_true, decide_false, as_int, r4])]
      simp only [forLoop, lp _ id _ _ _ _ _ e3, lp _ id _ _ _ _ _ e4, lp _ id _ _ _ _ _ e5, lp _ id _ _ _ _ _ e6, R.bind_ok]
    show evSs S__law_right (.cons (headS (dropSs 4 ir__law_right)) _) (.d .pen :: .d (.int m) :: .d (.lst ([x0, y1, y2, y3, y4].map pr)) :: .d (.int 3) :: ztl) p6 = _
    refine evSs_nx (ρ1 := .d .pen :: .d (.int m) :: .d (.lst ([x0, y1, y2, y3, y4].map pr)) :: .d (.int 3) :: .d (.lst ([x0, y1, y2, y3, y4].map ob)) :: ztl.drop 1) (p1 := p6) ?_ ?_
    · have l5 : ([x0, y1, y2, y3, y4].map pr).length ≤ sizeLine := len_line (by simp)
      generalize hP : [x0, y1, y2, y3, y4].map pr = P at *
      simp -implicitDefEqProofs only [evFn, evSs, evS, evE, evT, evEs, evAnd, evOr, evAndT, evOrT, evO, evI, evOwn, R.bind_ok, R.of_some, se_d, se_u, se_o, sb_d, sb_u, sb_o, see, seeB, List.map_cons, List.map_nil, List.cons_append, List.nil_append, List.length_cons, List.length_nil, List.replicate_succ, List.replicate_zero, List.getElem?_cons_zero, List.getElem?_cons_succ, List.set_cons_zero, List.set_cons_succ, Option.join_some, Option.map_some, Option.map_none, Option.bind_some, setSl, tgSl, b_add, b_sub, b_mul, b_fdiv, b_mod, b_pow, b_addT, b_addL, b_mulT, b_mulL, deq_ii, deq_bb, c_eq, c_ne, c_lt, c_le, c_gt, c_ge, c_isN, c_isnN, c_isB, c_isnB, i_bl, i_non, i_int, i_str, i_tup, i_lst, non_non, non_int, non_tup, non_bl, t_non, t_bl, t_int, t_tup, t_lst, ixD_tup, ixD_lst, slD_tup, slD_lst, f_lenT, f_lenL, f_tupT, f_tupL, f_lstT, f_lstL, f_int, f_abs, f_max, f_min, f_all, f_any, f_sum, f_sorted, y_int, y_bl, y_non, y_str, y_tup, y_lst, y_obj, k_ii, k_ib, k_it, k_il, k_is, k_tt, k_tl, k_ti, k_tb, k_ll, k_lt, k_bi, k_bb, k_bt, k_bl, k_nt, k_ss, k_st, k_cc, ks_nil, ks_cons, as_int, pg_cells, pg_at, pg_digits, pg_count, pg_fold, ps_at, ps_digits, ps_count, ps_fold, q_tup, q_lst, z_tt, z_ll, ea_obj, er_bl, if_true, if_false, Bool.false_eq_true, Nat.reduceAdd, Nat.reduceSub, Bool.not_true, Bool.not_false, decide_true, decide_false, headS, dropSs, ir__law_right, s__law_right, ztl, l5, wipeD, asgTg]
      rw [bind_assoc', ← hP, compF (g := fun d => match d with | .tup [.tup a, .tup b] => some (.obj 0 [.tup a, .tup b]) | _ => none)]
      · rfl
      · intro d hd
        obtain ⟨x, hxm, rfl⟩ := List.mem_map.mp hd
        have g := (hx x hxm).good
        simp -implicitDefEqProofs only [evFn, evSs, evS, evE, evT, evEs, evAnd, evOr, evAndT, evOrT, evO, evI, evOwn, R.bind_ok, R.of_some, se_d, se_u, se_o, sb_d, sb_u, sb_o, see, seeB, List.map_cons, List.map_nil, List.cons_append, List.nil_append, List.length_cons, List.length_nil, List.replicate_succ, List.replicate_zero, List.getElem?_cons_zero, List.getElem?_cons_succ, List.set_cons_zero, List.set_cons_succ, Option.join_some, Option.map_some, Option.map_none, Option.bind_some, setSl, tgSl, b_add, b_sub, b_mul, b_fdiv, b_mod, b_pow, b_addT, b_addL, b_mulT, b_mulL, deq_ii, deq_bb, c_eq, c_ne, c_lt, c_le, c_gt, c_ge, c_isN, c_isnN, c_isB, c_isnB, i_bl, i_non, i_int, i_str, i_tup, i_lst, non_non, non_int, non_tup, non_bl, t_non, t_bl, t_int, t_tup, t_lst, ixD_tup, ixD_lst, slD_tup, slD_lst, f_lenT, f_lenL, f_tupT, f_tupL, f_lstT, f_lstL, f_int, f_abs, f_max, f_min, f_all, f_any, f_sum, f_sorted, y_int, y_bl, y_non, y_str, y_tup, y_lst, y_obj, k_ii, k_ib, k_it, k_il, k_is, k_tt, k_tl, k_ti, k_tb, k_ll, k_lt, k_bi, k_bb, k_bt, k_bl, k_nt, k_ss, k_st, k_cc, ks_nil, ks_cons, as_int, pg_cells, pg_at, pg_digits, pg_count, pg_fold, ps_at, ps_digits, ps_count, ps_fold, q_tup, q_lst, z_tt, z_ll, ea_obj, er_bl, if_true, if_false, Bool.false_eq_true, Nat.reduceAdd, Nat.reduceSub, Bool.not_true, Bool.not_false, decide_true, decide_false, law_made_row_i g.l1 g.l2]
        rfl
    refine evSs_nx e7 ?_
    refine evSs_nx e8 ?_
    exact e9
  unfold d__law_right evFn
  show R.bind (evSs S__law_right ir__law_right (.d .pen :: .u :: .u :: .u :: ztl) p) _ = _
  rw [all]
  rfl
theorem sem (ns : List Int) (_ : ns.length ≤ 63) : ∃ ρ' p', Mi.evSs Lk07.S_law Lk07.ir_law (.u :: .d .pen :: List.replicate 1 .u) (some (Mi.pen0 ns)) = .ok (.rt (.bl true), ρ') p' := by
  have hp : PInv (some (pen0 ns)) := ⟨pen0 ns, rfl, Int.le_refl 0⟩
  have turn : ∀ d ∈ (rng 0 3), ∀ (ρ : SEnv) (p : PenS), (∃ z, ρ = [.u, .d .pen, z]) ∧ PInv p → ∃ ρ' p', (R.of (tgSl ρ (.nm 2) d) p).bind (fun ρ p => evSs S_law (forB (headS ir_law)) ρ p) = .ok (.nx, ρ') p' ∧ (∃ z, ρ' = [.u, .d .pen, z]) ∧ PInv p' := by
    rintro d hd ρ p ⟨⟨z, rfl⟩, hp⟩
    obtain ⟨p', e, hp'⟩ := law_right hp
    refine ⟨[.u, .d .pen, .d d], p', ?_, ⟨_, rfl⟩, hp'⟩
    simp -implicitDefEqProofs only [evFn, evSs, evS, evE, evT, evEs, evAnd, evOr, evAndT, evOrT, evO, evI, evOwn, R.bind_ok, R.of_some, se_d, se_u, se_o, sb_d, sb_u, sb_o, see, seeB, List.map_cons, List.map_nil, List.cons_append, List.nil_append, List.length_cons, List.length_nil, List.replicate_succ, List.replicate_zero, List.getElem?_cons_zero, List.getElem?_cons_succ, List.set_cons_zero, List.set_cons_succ, Option.join_some, Option.map_some, Option.map_none, Option.bind_some, setSl, tgSl, b_add, b_sub, b_mul, b_fdiv, b_mod, b_pow, b_addT, b_addL, b_mulT, b_mulL, deq_ii, deq_bb, c_eq, c_ne, c_lt, c_le, c_gt, c_ge, c_isN, c_isnN, c_isB, c_isnB, i_bl, i_non, i_int, i_str, i_tup, i_lst, non_non, non_int, non_tup, non_bl, t_non, t_bl, t_int, t_tup, t_lst, ixD_tup, ixD_lst, slD_tup, slD_lst, f_lenT, f_lenL, f_tupT, f_tupL, f_lstT, f_lstL, f_int, f_abs, f_max, f_min, f_all, f_any, f_sum, f_sorted, y_int, y_bl, y_non, y_str, y_tup, y_lst, y_obj, k_ii, k_ib, k_it, k_il, k_is, k_tt, k_tl, k_ti, k_tb, k_ll, k_lt, k_bi, k_bb, k_bt, k_bl, k_nt, k_ss, k_st, k_cc, ks_nil, ks_cons, as_int, pg_cells, pg_at, pg_digits, pg_count, pg_fold, ps_at, ps_digits, ps_count, ps_fold, q_tup, q_lst, z_tt, z_ll, ea_obj, er_bl, if_true, if_false, Bool.false_eq_true, Nat.reduceAdd, Nat.reduceSub, Bool.not_true, Bool.not_false, decide_true, decide_false, forB, headS, ir_law, s_law, e]
  obtain ⟨ρ', p', e, ⟨z, rfl⟩, _⟩ := loop_inv (Inv := fun ρ p => (∃ z, ρ = [.u, .d .pen, z]) ∧ PInv p) turn ⟨⟨.u, rfl⟩, hp⟩
  refine ⟨[.u, .d .pen, z], p', ?_⟩
  show evSs S_law ir_law [.u, .d .pen, .u] (some (pen0 ns)) = _
  rw [show ir_law = .cons (.for_ (.nm 2) (.rng1 (.int 3)) (forB (headS ir_law))) (dropSs 1 ir_law) from rfl]
  refine evSs_nx (ρ1 := [.u, .d .pen, z]) (p1 := p') ?_ ?_
  · rw [evS_for (ds := rng 0 3) (p1 := some (pen0 ns)) (by
      have r3 : rngOf 0 3 = some (rng 0 3) := rngOf_ok (by omega) (by omega)
      simp -implicitDefEqProofs only [evFn, evSs, evS, evE, evT, evEs, evAnd, evOr, evAndT, evOrT, evO, evI, evOwn, R.bind_ok, R.of_some, se_d, se_u, se_o, sb_d, sb_u, sb_o, see, seeB, List.map_cons, List.map_nil, List.cons_append, List.nil_append, List.length_cons, List.length_nil, List.replicate_succ, List.replicate_zero, List.getElem?_cons_zero, List.getElem?_cons_succ, List.set_cons_zero, List.set_cons_succ, Option.join_some, Option.map_some, Option.map_none, Option.bind_some, setSl, tgSl, b_add, b_sub, b_mul, b_fdiv, b_mod, b_pow, b_addT, b_addL, b_mulT, b_mulL, deq_ii, deq_bb, c_eq, c_ne, c_lt, c_le, c_gt, c_ge, c_isN, c_isnN, c_isB, c_isnB, i_bl, i_non, i_int, i_str, i_tup, i_lst, non_non, non_int, non_tup, non_bl, t_non, t_bl, t_int, t_tup, t_lst, ixD_tup, ixD_lst, slD_tup, slD_lst, f_lenT, f_lenL, f_tupT, f_tupL, f_lstT, f_lstL, f_int, f_abs, f_max, f_min, f_all, f_any, f_sum, f_sorted, y_int, y_bl, y_non, y_str, y_tup, y_lst, y_obj, k_ii, k_ib, k_it, k_il, k_is, k_tt, k_tl, k_ti, k_tb, k_ll, k_lt, k_bi, k_bb, k_bt, k_bl, k_nt, k_ss, k_st, k_cc, ks_nil, ks_cons, as_int, pg_cells, pg_at, pg_digits, pg_count, pg_fold, ps_at, ps_digits, ps_count, ps_fold, q_tup, q_lst, z_tt, z_ll, ea_obj, er_bl, if_true, if_false, Bool.false_eq_true, Nat.reduceAdd, Nat.reduceSub, Bool.not_true, Bool.not_false, decide_true, decide_false, as_int, r3])]
    exact e
  · simp -implicitDefEqProofs only [evFn, evSs, evS, evE, evT, evEs, evAnd, evOr, evAndT, evOrT, evO, evI, evOwn, R.bind_ok, R.of_some, se_d, se_u, se_o, sb_d, sb_u, sb_o, see, seeB, List.map_cons, List.map_nil, List.cons_append, List.nil_append, List.length_cons, List.length_nil, List.replicate_succ, List.replicate_zero, List.getElem?_cons_zero, List.getElem?_cons_succ, List.set_cons_zero, List.set_cons_succ, Option.join_some, Option.map_some, Option.map_none, Option.bind_some, setSl, tgSl, b_add, b_sub, b_mul, b_fdiv, b_mod, b_pow, b_addT, b_addL, b_mulT, b_mulL, deq_ii, deq_bb, c_eq, c_ne, c_lt, c_le, c_gt, c_ge, c_isN, c_isnN, c_isB, c_isnB, i_bl, i_non, i_int, i_str, i_tup, i_lst, non_non, non_int, non_tup, non_bl, t_non, t_bl, t_int, t_tup, t_lst, ixD_tup, ixD_lst, slD_tup, slD_lst, f_lenT, f_lenL, f_tupT, f_tupL, f_lstT, f_lstL, f_int, f_abs, f_max, f_min, f_all, f_any, f_sum, f_sorted, y_int, y_bl, y_non, y_str, y_tup, y_lst, y_obj, k_ii, k_ib, k_it, k_il, k_is, k_tt, k_tl, k_ti, k_tb, k_ll, k_lt, k_bi, k_bb, k_bt, k_bl, k_nt, k_ss, k_st, k_cc, ks_nil, ks_cons, as_int, pg_cells, pg_at, pg_digits, pg_count, pg_fold, ps_at, ps_digits, ps_count, ps_fold, q_tup, q_lst, z_tt, z_ll, ea_obj, er_bl, if_true, if_false, Bool.false_eq_true, Nat.reduceAdd, Nat.reduceSub, Bool.not_true, Bool.not_false, decide_true, decide_false, dropSs, ir_law]
end Lk07

set_option Elab.async false
set_option linter.all false
set_option maxRecDepth 100000
set_option maxHeartbeats 0
namespace Lk07H
open PySem PySem.Spec PyProof.Rows L2 Mi Lk07

def top (i : Nat) : Stmt := PySem.Challenge.pw_allwritings_k07_whole_rows_joined_and_cu.main.body.getD i (.Pass ⟨0, 0, 0, 0⟩)
def df0 : He.DefD := ⟨("_law_draw", none), "_law_draw", "_law_draw", defArgs (top 38), defBody (top 38), defScope (top 38), [], []⟩
def df1 : He.DefD := ⟨("_law_pick", none), "_law_pick", "_law_pick", defArgs (top 39), defBody (top 39), defScope (top 39), [], []⟩
def df2 : He.DefD := ⟨("_law_drawn_items", none), "_law_drawn_items", "_law_drawn_items", defArgs (top 42), defBody (top 42), defScope (top 42), [], []⟩
def df3 : He.DefD := ⟨("_law_item", none), "_law_item", "_law_item", defArgs (top 44), defBody (top 44), defScope (top 44), [], []⟩
def df4 : He.DefD := ⟨("_law_beside_row", none), "_law_beside_row", "_law_beside_row", defArgs (top 49), defBody (top 49), defScope (top 49), [], []⟩
def df5 : He.DefD := ⟨("_law_first", none), "_law_first", "_law_first", defArgs (top 48), defBody (top 48), defScope (top 48), [], []⟩
def df6 : He.DefD := ⟨("_law_is", none), "_law_is", "_law_is", defArgs (top 40), defBody (top 40), defScope (top 40), [], []⟩
def df7 : He.DefD := ⟨("as_tuples", none), "as_tuples", "as_tuples", defArgs (top 8), defBody (top 8), defScope (top 8), [], []⟩
def df8 : He.DefD := ⟨("Row", some "__init__"), "__init__", "Row.__init__", defArgs (inClass (top 15) 0), defBody (inClass (top 15) 0), defScope (inClass (top 15) 0), [], []⟩
def df9 : He.DefD := ⟨("_law_is_row", none), "_law_is_row", "_law_is_row", defArgs (top 47), defBody (top 47), defScope (top 47), [], []⟩
def df10 : He.DefD := ⟨("_law_made_row", none), "_law_made_row", "_law_made_row", defArgs (top 43), defBody (top 43), defScope (top 43), [], []⟩
def df11 : He.DefD := ⟨("_law_row_least", none), "_law_row_least", "_law_row_least", defArgs (top 45), defBody (top 45), defScope (top 45), [], []⟩
def df12 : He.DefD := ⟨("_law_says", none), "_law_says", "_law_says", defArgs (top 41), defBody (top 41), defScope (top 41), [], []⟩
def df13 : He.DefD := ⟨("_law_tail", none), "_law_tail", "_law_tail", defArgs (top 46), defBody (top 46), defScope (top 46), [], []⟩
def df14 : He.DefD := ⟨("is_integer", none), "is_integer", "is_integer", defArgs (top 6), defBody (top 6), defScope (top 6), [], []⟩
def df15 : He.DefD := ⟨("is_between", none), "is_between", "is_between", defArgs (top 9), defBody (top 9), defScope (top 9), [], []⟩
def df16 : He.DefD := ⟨("need_figure", none), "need_figure", "need_figure", defArgs (top 12), defBody (top 12), defScope (top 12), [], []⟩
def df17 : He.DefD := ⟨("are_figures", none), "are_figures", "are_figures", defArgs (top 16), defBody (top 16), defScope (top 16), [], []⟩
def df18 : He.DefD := ⟨("is_row", none), "is_row", "is_row", defArgs (top 17), defBody (top 17), defScope (top 17), [], []⟩
def df19 : He.DefD := ⟨("need_row", none), "need_row", "need_row", defArgs (top 18), defBody (top 18), defScope (top 18), [], []⟩
def df20 : He.DefD := ⟨("item_by", none), "item_by", "item_by", defArgs (top 22), defBody (top 22), defScope (top 22), [], []⟩
def df21 : He.DefD := ⟨("unlike_by", none), "unlike_by", "unlike_by", defArgs (top 24), defBody (top 24), defScope (top 24), [], []⟩
def df22 : He.DefD := ⟨("first_unlike", none), "first_unlike", "first_unlike", defArgs (top 32), defBody (top 32), defScope (top 32), [], []⟩
def df23 : He.DefD := ⟨("rooted", none), "rooted", "rooted", defArgs (top 19), defBody (top 19), defScope (top 19), [], []⟩
def df24 : He.DefD := ⟨("least_by", none), "least_by", "least_by", defArgs (top 20), defBody (top 20), defScope (top 20), [], []⟩
def df25 : He.DefD := ⟨("is_least_by", none), "is_least_by", "is_least_by", defArgs (top 21), defBody (top 21), defScope (top 21), [], []⟩
def df26 : He.DefD := ⟨("is_least", none), "is_least", "is_least", defArgs (top 29), defBody (top 29), defScope (top 29), [], []⟩
def df27 : He.DefD := ⟨("need_index", none), "need_index", "need_index", defArgs (top 27), defBody (top 27), defScope (top 27), [], []⟩
def df28 : He.DefD := ⟨("item_at", none), "item_at", "item_at", defArgs (top 30), defBody (top 30), defScope (top 30), [], []⟩
def df29 : He.DefD := ⟨("joined_row", none), "joined_row", "joined_row", defArgs (top 35), defBody (top 35), defScope (top 35), [], []⟩
def df30 : He.DefD := ⟨("least_form", none), "least_form", "least_form", defArgs (top 28), defBody (top 28), defScope (top 28), [], []⟩
def df31 : He.DefD := ⟨("is_under", none), "is_under", "is_under", defArgs (top 25), defBody (top 25), defScope (top 25), [], []⟩
def df32 : He.DefD := ⟨("row_less", none), "row_less", "row_less", defArgs (top 33), defBody (top 33), defScope (top 33), [], []⟩
def df33 : He.DefD := ⟨("tail_by", none), "tail_by", "tail_by", defArgs (top 23), defBody (top 23), defScope (top 23), [], []⟩
def df34 : He.DefD := ⟨("tail_of", none), "tail_of", "tail_of", defArgs (top 31), defBody (top 31), defScope (top 31), [], []⟩
def df35 : He.DefD := ⟨("turned_by", none), "turned_by", "turned_by", defArgs (top 26), defBody (top 26), defScope (top 26), [], []⟩
def df36 : He.DefD := ⟨("turned_row", none), "turned_row", "turned_row", defArgs (top 34), defBody (top 34), defScope (top 34), [], []⟩
def df37 : He.DefD := ⟨("Row", some "__eq__"), "__eq__", "Row.__eq__", defArgs (inClass (top 15) 1), defBody (inClass (top 15) 1), defScope (inClass (top 15) 1), [], []⟩
def df38 : He.DefD := ⟨("_law_right", none), "_law_right", "_law_right", defArgs (top 50), defBody (top 50), defScope (top 50), [], []⟩
def df39 : He.DefD := ⟨("_law_pen", none), "_law_pen", "_law_pen", defArgs (top 37), defBody (top 37), defScope (top 37), [], []⟩
def df40 : He.DefD := ⟨("law", none), "law", "law", defArgs (top 51), defBody (top 51), defScope (top 51), [], []⟩
def fnc_0 : List He.DefD := [df0, df1, df2, df3, df4, df5, df6, df7, df8, df9, df10, df11, df12, df13, df14, df15, df16, df17, df18, df19, df20, df21, df22, df23, df24]
def fnc_1 : List He.DefD := [df25, df26, df27, df28, df29, df30, df31, df32, df33, df34, df35, df36, df37, df38, df39, df40]
def fn : List He.DefD := fnc_0 ++ fnc_1
def glosc_0 : List Str := ["_law_draw", "_law_pick", "_law_drawn_items", "_law_item", "_law_beside_row", "_law_first", "_law_is", "as_tuples", "_law_is_row", "_law_made_row", "_law_row_least", "_law_says", "_law_tail", "is_integer", "is_between", "need_figure", "are_figures", "is_row", "need_row", "item_by", "unlike_by", "first_unlike", "rooted", "least_by", "is_least_by"]
def glosc_1 : List Str := ["is_least", "need_index", "item_at", "joined_row", "least_form", "is_under", "row_less", "tail_by", "tail_of", "turned_by", "turned_row", "_law_right", "_law_pen", "law"]
def glos : List Str := glosc_0 ++ glosc_1
def fa : List He.Fa := glos.map He.Fa.glo ++ T.clss.map (fun c => He.Fa.glo c.1) ++ T.clss.map (fun c => He.Fa.mkr c.1) ++ T.cons.map (fun c => He.Fa.int c.1 c.2) ++ bltN.map He.Fa.free
def ls0 : List PySem.Str := ["__name__", "FigureError", "BadNumber", "BadRow", "BadTable", "is_integer", "as_tuples", "is_between", "MOST_FIGURE", "need_figure", "MOST_ITEMS", "Row", "are_figures", "is_row", "need_row", "rooted", "least_by", "is_least_by", "item_by", "tail_by", "unlike_by", "is_under", "turned_by", "need_index", "least_form", "is_least", "item_at", "tail_of", "first_unlike", "row_less"]
def ls1 : List PySem.Str := ["turned_row", "joined_row", "_law_pen", "_law_draw", "_law_pick", "_law_is", "_law_says", "_law_drawn_items", "_law_made_row", "_law_item", "_law_row_least", "_law_tail", "_law_is_row", "_law_first", "_law_beside_row", "_law_right"]
def loose : List PySem.Str := ls0 ++ ls1
abbrev R : PySem.W.OpenRow := PySem.W.OpenLaw.row PySem.Challenge.rw_allwritings_k07_whole_rows_joined_and_cu
abbrev hk : PySem.W.Hook := hookM 5 fa fn (exB T ats)
def ob (s : PySem.W.SharedT) : AlM := obsMG 5 fa fn (exB T ats) (HandSHeadRun.getT s)
theorem ob_eq (s : PySem.W.SharedT) : ob s = hk.obs s.abs := obsMG_eq (HandSHeadRun.getT_eq s)
theorem run (w : World) : HandSHeadRun.RunEq R (PySem.W.view R.prog [51]) hk ob 4000 loose w := by
  intro os
  kernel_rfl
section
variable {w : World} {K : PySem.W.Frag} {mg : Str → Option Value} {base h : Heap} (X : K.In h) (G : h.Ns mainGlobals mg) (c : He.SaysD fa fn K) (ex : exB T ats K = true)
abbrev LE (w : World) (K : PySem.W.Frag) (mg : Str → Option Value) (base : Heap) (L : List Den) (I : List Ini) : Prop := LawEnv (PySem.Challenge.rw_allwritings_k07_whole_rows_joined_and_cu).prog w K mg base T (gOf T ats K) lv ilv L I
include X G c in
theorem gl (x : Str) (h : decide (x ∈ glos) = true) : mg x = some (.ref (He.ga K x)) := He.glo_ok X G (factM c (by
  unfold fa
  simp only [List.mem_append]
  exact .inl (.inl (.inl (.inl (List.mem_map.mpr ⟨x, of_decide_eq_true h, rfl⟩))))))
include c in
theorem mk (x : Str × Nat × List Str) (h : x ∈ T.clss) : Mk K (He.ga K x.1) (He.ma K (He.ga K x.1) "__init__") := He.mkr_ok (factM c (by
  unfold fa
  simp only [List.mem_append]
  exact .inl (.inl (.inr (List.mem_map.mpr ⟨x, h, rfl⟩)))))
include X G c ex in
theorem e0 : LE w K mg base L0 I0 := env0 X G c ex (by kernel_rfl)
  (fun q h => by unfold fa; simp only [List.mem_append]; exact .inl (.inr (List.mem_map.mpr ⟨q, h, rfl⟩)))
  (fun x h => by unfold fa; simp only [List.mem_append]; exact .inr (List.mem_map.mpr ⟨x, h, rfl⟩))
  (fun q h => by unfold fa; simp only [List.mem_append]; exact .inl (.inl (.inl (.inr (List.mem_map.mpr ⟨q, h, rfl⟩))))) (by kernel_rfl)
include X G c ex in
theorem e1 : LE w K mg base L1 I0 := by
  obtain ⟨fd, F⟩ := c.def_ 0 (d := df0) rfl
  exact LawEnv.fn (N := N__law_draw) (m := 2) (e0 X G c ex) ir__law_draw 1 F rfl rfl (by kernel_rfl) (by kernel_rfl) (fun _ => gl X G c "_law_draw" rfl) (FunD.bindsN (ps := (["pen", "many"] : List Str)) F fun _ _ _ _ _ _ us hl => match us, hl with | [_, _], _ => rfl)
include X G c ex in
theorem e2 : LE w K mg base L2 I0 := by
  obtain ⟨fd, F⟩ := c.def_ 1 (d := df1) rfl
  exact LawEnv.fn (N := N__law_pick) (m := 2) (e1 X G c ex) ir__law_pick 3 F rfl rfl (by kernel_rfl) (by kernel_rfl) (fun _ => gl X G c "_law_pick" rfl) (FunD.bindsN (ps := (["pen", "some"] : List Str)) F fun _ _ _ _ _ _ us hl => match us, hl with | [_, _], _ => rfl)
include X G c ex in
theorem e3 : LE w K mg base L3 I0 := by
  obtain ⟨fd, F⟩ := c.def_ 2 (d := df2) rfl
  exact LawEnv.fn (N := N__law_drawn_items) (m := 3) (e2 X G c ex) ir__law_drawn_items 5 F rfl rfl (by kernel_rfl) (by kernel_rfl) (fun _ => gl X G c "_law_drawn_items" rfl) (FunD.bindsN (ps := (["pen", "m", "most"] : List Str)) F fun _ _ _ _ _ _ us hl => match us, hl with | [_, _, _], _ => rfl)
include X G c ex in
theorem e4 : LE w K mg base L4 I0 := by
  obtain ⟨fd, F⟩ := c.def_ 3 (d := df3) rfl
  exact LawEnv.fn (N := N__law_item) (m := 2) (e3 X G c ex) ir__law_item 1 F rfl rfl (by kernel_rfl) (by kernel_rfl) (fun _ => gl X G c "_law_item" rfl) (FunD.bindsN (ps := (["row", "at"] : List Str)) F fun _ _ _ _ _ _ us hl => match us, hl with | [_, _], _ => rfl)
include X G c ex in
theorem e5 : LE w K mg base L5 I0 := by
  obtain ⟨fd, F⟩ := c.def_ 4 (d := df4) rfl
  exact LawEnv.fn (N := N__law_beside_row) (m := 3) (e4 X G c ex) ir__law_beside_row 7 F rfl rfl (by kernel_rfl) (by kernel_rfl) (fun _ => gl X G c "_law_beside_row" rfl) (FunD.bindsN (ps := (["pen", "m", "pair"] : List Str)) F fun _ _ _ _ _ _ us hl => match us, hl with | [_, _, _], _ => rfl)
include X G c ex in
theorem e6 : LE w K mg base L6 I0 := by
  obtain ⟨fd, F⟩ := c.def_ 5 (d := df5) rfl
  exact LawEnv.fn (N := N__law_first) (m := 2) (e5 X G c ex) ir__law_first 3 F rfl rfl (by kernel_rfl) (by kernel_rfl) (fun _ => gl X G c "_law_first" rfl) (FunD.bindsN (ps := (["one", "other"] : List Str)) F fun _ _ _ _ _ _ us hl => match us, hl with | [_, _], _ => rfl)
include X G c ex in
theorem e7 : LE w K mg base L7 I0 := by
  obtain ⟨fd, F⟩ := c.def_ 6 (d := df6) rfl
  exact LawEnv.nev (N := N__law_is_0) (m := 2) (e6 X G c ex) F rfl rfl (fun _ => gl X G c "_law_is" rfl) (FunD.bindsN (ps := (["told", "due"] : List Str)) F fun _ _ _ _ _ _ us hl => match us, hl with | [_, _], _ => rfl)
include X G c ex in
theorem e8 : LE w K mg base L8 I0 := by
  obtain ⟨fd, F⟩ := c.def_ 6 (d := df6) rfl
  exact LawEnv.fn (N := N__law_is_1) (m := 2) (e7 X G c ex) ir__law_is_1 3 F rfl rfl (by kernel_rfl) (by kernel_rfl) (fun _ => gl X G c "_law_is" rfl) (FunD.bindsN (ps := (["told", "due"] : List Str)) F fun _ _ _ _ _ _ us hl => match us, hl with | [_, _], _ => rfl)
include X G c ex in
theorem e9 : LE w K mg base L9 I0 := by
  obtain ⟨fd, F⟩ := c.def_ 6 (d := df6) rfl
  exact LawEnv.fn (N := N__law_is_2) (m := 2) (e8 X G c ex) ir__law_is_2 5 F rfl rfl (by kernel_rfl) (by kernel_rfl) (fun _ => gl X G c "_law_is" rfl) (FunD.bindsN (ps := (["told", "due"] : List Str)) F fun _ _ _ _ _ _ us hl => match us, hl with | [_, _], _ => rfl)
include X G c ex in
theorem e10 : LE w K mg base L10 I0 := by
  obtain ⟨fd, F⟩ := c.def_ 6 (d := df6) rfl
  exact LawEnv.fn (N := N__law_is_3) (m := 2) (e9 X G c ex) ir__law_is_3 7 F rfl rfl (by kernel_rfl) (by kernel_rfl) (fun _ => gl X G c "_law_is" rfl) (FunD.bindsN (ps := (["told", "due"] : List Str)) F fun _ _ _ _ _ _ us hl => match us, hl with | [_, _], _ => rfl)
include X G c ex in
theorem e11 : LE w K mg base L11 I0 := by
  obtain ⟨fd, F⟩ := c.def_ 6 (d := df6) rfl
  exact LawEnv.fn (N := N__law_is_4) (m := 2) (e10 X G c ex) ir__law_is_4 9 F rfl rfl (by kernel_rfl) (by kernel_rfl) (fun _ => gl X G c "_law_is" rfl) (FunD.bindsN (ps := (["told", "due"] : List Str)) F fun _ _ _ _ _ _ us hl => match us, hl with | [_, _], _ => rfl)
include X G c ex in
theorem e12 : LE w K mg base L12 I0 := by
  obtain ⟨fd, F⟩ := c.def_ 7 (d := df7) rfl
  exact LawEnv.nev (N := N_as_tuples_0) (m := 1) (e11 X G c ex) F rfl rfl (fun _ => gl X G c "as_tuples" rfl) (FunD.bindsN (ps := (["value"] : List Str)) F fun _ _ _ _ _ _ us hl => match us, hl with | [_], _ => rfl)
include X G c ex in
theorem e13 : LE w K mg base L13 I0 := by
  obtain ⟨fd, F⟩ := c.def_ 7 (d := df7) rfl
  exact LawEnv.fn (N := N_as_tuples_1) (m := 1) (e12 X G c ex) ir_as_tuples_1 3 F rfl rfl (by kernel_rfl) (by kernel_rfl) (fun _ => gl X G c "as_tuples" rfl) (FunD.bindsN (ps := (["value"] : List Str)) F fun _ _ _ _ _ _ us hl => match us, hl with | [_], _ => rfl)
include X G c ex in
theorem e14 : LE w K mg base L14 I0 := by
  obtain ⟨fd, F⟩ := c.def_ 7 (d := df7) rfl
  exact LawEnv.fn (N := N_as_tuples_2) (m := 1) (e13 X G c ex) ir_as_tuples_2 5 F rfl rfl (by kernel_rfl) (by kernel_rfl) (fun _ => gl X G c "as_tuples" rfl) (FunD.bindsN (ps := (["value"] : List Str)) F fun _ _ _ _ _ _ us hl => match us, hl with | [_], _ => rfl)
include X G c ex in
theorem e15 : LE w K mg base L15 I0 := by
  obtain ⟨fd, F⟩ := c.def_ 7 (d := df7) rfl
  exact LawEnv.fn (N := N_as_tuples_3) (m := 1) (e14 X G c ex) ir_as_tuples_3 7 F rfl rfl (by kernel_rfl) (by kernel_rfl) (fun _ => gl X G c "as_tuples" rfl) (FunD.bindsN (ps := (["value"] : List Str)) F fun _ _ _ _ _ _ us hl => match us, hl with | [_], _ => rfl)
include X G c ex in
theorem e16 : LE w K mg base L15 I16 := by
  obtain ⟨fd, F⟩ := c.def_ 8 (d := df8) rfl
  exact LawEnv.ini (N := N_init_Row) (m := 2) (e15 X G c ex) ir_init_Row 9 F rfl rfl (by kernel_rfl) (by kernel_rfl) (mk c _ (by decide)) (FunD.bindsN (ps := (["self", "ahead", "ring"] : List Str)) F fun _ _ _ _ _ _ us hl => match us, hl with | [_, _, _], _ => rfl)
include X G c ex in
theorem e17 : LE w K mg base L17 I16 := by
  obtain ⟨fd, F⟩ := c.def_ 9 (d := df9) rfl
  exact LawEnv.fn (N := N__law_is_row) (m := 2) (e16 X G c ex) ir__law_is_row 11 F rfl rfl (by kernel_rfl) (by kernel_rfl) (fun _ => gl X G c "_law_is_row" rfl) (FunD.bindsN (ps := (["found", "pair"] : List Str)) F fun _ _ _ _ _ _ us hl => match us, hl with | [_, _], _ => rfl)
include X G c ex in
theorem e18 : LE w K mg base L18 I16 := by
  obtain ⟨fd, F⟩ := c.def_ 10 (d := df10) rfl
  exact LawEnv.fn (N := N__law_made_row) (m := 1) (e17 X G c ex) ir__law_made_row 11 F rfl rfl (by kernel_rfl) (by kernel_rfl) (fun _ => gl X G c "_law_made_row" rfl) (FunD.bindsN (ps := (["row"] : List Str)) F fun _ _ _ _ _ _ us hl => match us, hl with | [_], _ => rfl)
include X G c ex in
theorem e19 : LE w K mg base L19 I16 := by
  obtain ⟨fd, F⟩ := c.def_ 11 (d := df11) rfl
  exact LawEnv.fn (N := N__law_row_least) (m := 2) (e18 X G c ex) ir__law_row_least 1 F rfl rfl (by kernel_rfl) (by kernel_rfl) (fun _ => gl X G c "_law_row_least" rfl) (FunD.bindsN (ps := (["ahead", "ring"] : List Str)) F fun _ _ _ _ _ _ us hl => match us, hl with | [_, _], _ => rfl)
include X G c ex in
theorem e20 : LE w K mg base L20 I16 := by
  obtain ⟨fd, F⟩ := c.def_ 12 (d := df12) rfl
  exact LawEnv.fn (N := N__law_says) (m := 2) (e19 X G c ex) ir__law_says 1 F rfl rfl (by kernel_rfl) (by kernel_rfl) (fun _ => gl X G c "_law_says" rfl) (FunD.bindsN (ps := (["told", "due"] : List Str)) F fun _ _ _ _ _ _ us hl => match us, hl with | [_, _], _ => rfl)
include X G c ex in
theorem e21 : LE w K mg base L21 I16 := by
  obtain ⟨fd, F⟩ := c.def_ 13 (d := df13) rfl
  exact LawEnv.fn (N := N__law_tail) (m := 2) (e20 X G c ex) ir__law_tail 1 F rfl rfl (by kernel_rfl) (by kernel_rfl) (fun _ => gl X G c "_law_tail" rfl) (FunD.bindsN (ps := (["row", "at"] : List Str)) F fun _ _ _ _ _ _ us hl => match us, hl with | [_, _], _ => rfl)
include X G c ex in
theorem e22 : LE w K mg base L22 I16 := by
  obtain ⟨fd, F⟩ := c.def_ 14 (d := df14) rfl
  exact LawEnv.fn (N := N_is_integer) (m := 1) (e21 X G c ex) ir_is_integer 1 F rfl rfl (by kernel_rfl) (by kernel_rfl) (fun _ => gl X G c "is_integer" rfl) (FunD.bindsN (ps := (["value"] : List Str)) F fun _ _ _ _ _ _ us hl => match us, hl with | [_], _ => rfl)
include X G c ex in
theorem e23 : LE w K mg base L23 I16 := by
  obtain ⟨fd, F⟩ := c.def_ 15 (d := df15) rfl
  exact LawEnv.fn (N := N_is_between) (m := 3) (e22 X G c ex) ir_is_between 3 F rfl rfl (by kernel_rfl) (by kernel_rfl) (fun _ => gl X G c "is_between" rfl) (FunD.bindsN (ps := (["value", "low", "high"] : List Str)) F fun _ _ _ _ _ _ us hl => match us, hl with | [_, _, _], _ => rfl)
include X G c ex in
theorem e24 : LE w K mg base L24 I16 := by
  obtain ⟨fd, F⟩ := c.def_ 16 (d := df16) rfl
  exact LawEnv.fn (N := N_need_figure) (m := 1) (e23 X G c ex) ir_need_figure 5 F rfl rfl (by kernel_rfl) (by kernel_rfl) (fun _ => gl X G c "need_figure" rfl) (FunD.bindsN (ps := (["m"] : List Str)) F fun _ _ _ _ _ _ us hl => match us, hl with | [_], _ => rfl)
include X G c ex in
theorem e25 : LE w K mg base L25 I16 := by
  obtain ⟨fd, F⟩ := c.def_ 17 (d := df17) rfl
  exact LawEnv.fn (N := N_are_figures) (m := 2) (e24 X G c ex) ir_are_figures 5 F rfl rfl (by kernel_rfl) (by kernel_rfl) (fun _ => gl X G c "are_figures" rfl) (FunD.bindsN (ps := (["value", "m"] : List Str)) F fun _ _ _ _ _ _ us hl => match us, hl with | [_, _], _ => rfl)
include X G c ex in
theorem e26 : LE w K mg base L26 I16 := by
  obtain ⟨fd, F⟩ := c.def_ 18 (d := df18) rfl
  exact LawEnv.fn (N := N_is_row) (m := 2) (e25 X G c ex) ir_is_row 11 F rfl rfl (by kernel_rfl) (by kernel_rfl) (fun _ => gl X G c "is_row" rfl) (FunD.bindsN (ps := (["value", "m"] : List Str)) F fun _ _ _ _ _ _ us hl => match us, hl with | [_, _], _ => rfl)
include X G c ex in
theorem e27 : LE w K mg base L27 I16 := by
  obtain ⟨fd, F⟩ := c.def_ 19 (d := df19) rfl
  exact LawEnv.fn (N := N_need_row) (m := 3) (e26 X G c ex) ir_need_row 13 F rfl rfl (by kernel_rfl) (by kernel_rfl) (fun _ => gl X G c "need_row" rfl) (FunD.bindsN (ps := (["value", "m", "what"] : List Str)) F fun _ _ _ _ _ _ us hl => match us, hl with | [_, _, _], _ => rfl)
include X G c ex in
theorem e28 : LE w K mg base L28 I16 := by
  obtain ⟨fd, F⟩ := c.def_ 20 (d := df20) rfl
  exact LawEnv.fn (N := N_item_by) (m := 2) (e27 X G c ex) ir_item_by 1 F rfl rfl (by kernel_rfl) (by kernel_rfl) (fun _ => gl X G c "item_by" rfl) (FunD.bindsN (ps := (["row", "at"] : List Str)) F fun _ _ _ _ _ _ us hl => match us, hl with | [_, _], _ => rfl)
include X G c ex in
theorem e29 : LE w K mg base L29 I16 := by
  obtain ⟨fd, F⟩ := c.def_ 21 (d := df21) rfl
  exact LawEnv.fn (N := N_unlike_by) (m := 2) (e28 X G c ex) ir_unlike_by 3 F rfl rfl (by kernel_rfl) (by kernel_rfl) (fun _ => gl X G c "unlike_by" rfl) (FunD.bindsN (ps := (["one", "other"] : List Str)) F fun _ _ _ _ _ _ us hl => match us, hl with | [_, _], _ => rfl)
include X G c ex in
theorem e30 : LE w K mg base L30 I16 := by
  obtain ⟨fd, F⟩ := c.def_ 22 (d := df22) rfl
  exact LawEnv.fn (N := N_first_unlike) (m := 3) (e29 X G c ex) ir_first_unlike 15 F rfl rfl (by kernel_rfl) (by kernel_rfl) (fun _ => gl X G c "first_unlike" rfl) (FunD.bindsN (ps := (["m", "one", "other"] : List Str)) F fun _ _ _ _ _ _ us hl => match us, hl with | [_, _, _], _ => rfl)
include X G c ex in
theorem e31 : LE w K mg base L31 I16 := by
  obtain ⟨fd, F⟩ := c.def_ 23 (d := df23) rfl
  exact LawEnv.fn (N := N_rooted) (m := 1) (e30 X G c ex) ir_rooted 1 F rfl rfl (by kernel_rfl) (by kernel_rfl) (fun _ => gl X G c "rooted" rfl) (FunD.bindsN (ps := (["word"] : List Str)) F fun _ _ _ _ _ _ us hl => match us, hl with | [_], _ => rfl)
include X G c ex in
theorem e32 : LE w K mg base L32 I16 := by
  obtain ⟨fd, F⟩ := c.def_ 24 (d := df24) rfl
  exact LawEnv.fn (N := N_least_by) (m := 2) (e31 X G c ex) ir_least_by 3 F rfl rfl (by kernel_rfl) (by kernel_rfl) (fun _ => gl X G c "least_by" rfl) (FunD.bindsN (ps := (["ahead", "ring"] : List Str)) F fun _ _ _ _ _ _ us hl => match us, hl with | [_, _], _ => rfl)
include X G c ex in
theorem e33 : LE w K mg base L33 I16 := by
  obtain ⟨fd, F⟩ := c.def_ 25 (d := df25) rfl
  exact LawEnv.fn (N := N_is_least_by) (m := 2) (e32 X G c ex) ir_is_least_by 5 F rfl rfl (by kernel_rfl) (by kernel_rfl) (fun _ => gl X G c "is_least_by" rfl) (FunD.bindsN (ps := (["ahead", "ring"] : List Str)) F fun _ _ _ _ _ _ us hl => match us, hl with | [_, _], _ => rfl)
include X G c ex in
theorem e34 : LE w K mg base L34 I16 := by
  obtain ⟨fd, F⟩ := c.def_ 26 (d := df26) rfl
  exact LawEnv.fn (N := N_is_least) (m := 2) (e33 X G c ex) ir_is_least 15 F rfl rfl (by kernel_rfl) (by kernel_rfl) (fun _ => gl X G c "is_least" rfl) (FunD.bindsN (ps := (["m", "row"] : List Str)) F fun _ _ _ _ _ _ us hl => match us, hl with | [_, _], _ => rfl)
include X G c ex in
theorem e35 : LE w K mg base L35 I16 := by
  obtain ⟨fd, F⟩ := c.def_ 27 (d := df27) rfl
  exact LawEnv.fn (N := N_need_index) (m := 1) (e34 X G c ex) ir_need_index 3 F rfl rfl (by kernel_rfl) (by kernel_rfl) (fun _ => gl X G c "need_index" rfl) (FunD.bindsN (ps := (["at"] : List Str)) F fun _ _ _ _ _ _ us hl => match us, hl with | [_], _ => rfl)
include X G c ex in
theorem e36 : LE w K mg base L36 I16 := by
  obtain ⟨fd, F⟩ := c.def_ 28 (d := df28) rfl
  exact LawEnv.fn (N := N_item_at) (m := 3) (e35 X G c ex) ir_item_at 15 F rfl rfl (by kernel_rfl) (by kernel_rfl) (fun _ => gl X G c "item_at" rfl) (FunD.bindsN (ps := (["m", "row", "at"] : List Str)) F fun _ _ _ _ _ _ us hl => match us, hl with | [_, _, _], _ => rfl)
include X G c ex in
theorem e37 : LE w K mg base L37 I16 := by
  obtain ⟨fd, F⟩ := c.def_ 29 (d := df29) rfl
  exact LawEnv.fn (N := N_joined_row) (m := 3) (e36 X G c ex) ir_joined_row 15 F rfl rfl (by kernel_rfl) (by kernel_rfl) (fun _ => gl X G c "joined_row" rfl) (FunD.bindsN (ps := (["m", "word", "row"] : List Str)) F fun _ _ _ _ _ _ us hl => match us, hl with | [_, _, _], _ => rfl)
include X G c ex in
theorem e38 : LE w K mg base L38 I16 := by
  obtain ⟨fd, F⟩ := c.def_ 30 (d := df30) rfl
  exact LawEnv.fn (N := N_least_form) (m := 2) (e37 X G c ex) ir_least_form 15 F rfl rfl (by kernel_rfl) (by kernel_rfl) (fun _ => gl X G c "least_form" rfl) (FunD.bindsN (ps := (["m", "row"] : List Str)) F fun _ _ _ _ _ _ us hl => match us, hl with | [_, _], _ => rfl)
include X G c ex in
theorem e39 : LE w K mg base L39 I16 := by
  obtain ⟨fd, F⟩ := c.def_ 31 (d := df31) rfl
  exact LawEnv.fn (N := N_is_under) (m := 2) (e38 X G c ex) ir_is_under 5 F rfl rfl (by kernel_rfl) (by kernel_rfl) (fun _ => gl X G c "is_under" rfl) (FunD.bindsN (ps := (["one", "other"] : List Str)) F fun _ _ _ _ _ _ us hl => match us, hl with | [_, _], _ => rfl)
include X G c ex in
theorem e40 : LE w K mg base L40 I16 := by
  obtain ⟨fd, F⟩ := c.def_ 32 (d := df32) rfl
  exact LawEnv.fn (N := N_row_less) (m := 3) (e39 X G c ex) ir_row_less 15 F rfl rfl (by kernel_rfl) (by kernel_rfl) (fun _ => gl X G c "row_less" rfl) (FunD.bindsN (ps := (["m", "one", "other"] : List Str)) F fun _ _ _ _ _ _ us hl => match us, hl with | [_, _, _], _ => rfl)
include X G c ex in
theorem e41 : LE w K mg base L41 I16 := by
  obtain ⟨fd, F⟩ := c.def_ 33 (d := df33) rfl
  exact LawEnv.fn (N := N_tail_by) (m := 2) (e40 X G c ex) ir_tail_by 5 F rfl rfl (by kernel_rfl) (by kernel_rfl) (fun _ => gl X G c "tail_by" rfl) (FunD.bindsN (ps := (["row", "at"] : List Str)) F fun _ _ _ _ _ _ us hl => match us, hl with | [_, _], _ => rfl)
include X G c ex in
theorem e42 : LE w K mg base L42 I16 := by
  obtain ⟨fd, F⟩ := c.def_ 34 (d := df34) rfl
  exact LawEnv.fn (N := N_tail_of) (m := 3) (e41 X G c ex) ir_tail_of 15 F rfl rfl (by kernel_rfl) (by kernel_rfl) (fun _ => gl X G c "tail_of" rfl) (FunD.bindsN (ps := (["m", "row", "at"] : List Str)) F fun _ _ _ _ _ _ us hl => match us, hl with | [_, _, _], _ => rfl)
include X G c ex in
theorem e43 : LE w K mg base L43 I16 := by
  obtain ⟨fd, F⟩ := c.def_ 35 (d := df35) rfl
  exact LawEnv.fn (N := N_turned_by) (m := 2) (e42 X G c ex) ir_turned_by 1 F rfl rfl (by kernel_rfl) (by kernel_rfl) (fun _ => gl X G c "turned_by" rfl) (FunD.bindsN (ps := (["row", "m"] : List Str)) F fun _ _ _ _ _ _ us hl => match us, hl with | [_, _], _ => rfl)
include X G c ex in
theorem e44 : LE w K mg base L44 I16 := by
  obtain ⟨fd, F⟩ := c.def_ 36 (d := df36) rfl
  exact LawEnv.fn (N := N_turned_row) (m := 2) (e43 X G c ex) ir_turned_row 15 F rfl rfl (by kernel_rfl) (by kernel_rfl) (fun _ => gl X G c "turned_row" rfl) (FunD.bindsN (ps := (["m", "row"] : List Str)) F fun _ _ _ _ _ _ us hl => match us, hl with | [_, _], _ => rfl)
include X G c ex in
theorem e45 : LE w K mg base L45 I16 := by
  obtain ⟨fd, F⟩ := c.def_ 37 (d := df37) rfl
  exact LawEnv.fn (N := N_Row___eq__) (m := 2) (e44 X G c ex) ir_Row___eq__ 11 F rfl rfl (by kernel_rfl) (by kernel_rfl) (fun z => absurd rfl z) (FunD.bindsN (ps := (["self", "other"] : List Str)) F fun _ _ _ _ _ _ us hl => match us, hl with | [_, _], _ => rfl)
include X G c ex in
theorem e46 : LE w K mg base L46 I16 := by
  obtain ⟨fd, F⟩ := c.def_ 38 (d := df38) rfl
  exact LawEnv.fn (N := N__law_right) (m := 1) (e45 X G c ex) ir__law_right 17 F rfl rfl (by kernel_rfl) (by kernel_rfl) (fun _ => gl X G c "_law_right" rfl) (FunD.bindsN (ps := (["pen"] : List Str)) F fun _ _ _ _ _ _ us hl => match us, hl with | [_], _ => rfl)
include X G c ex in
theorem ok_law (sem : ∀ ns : List Int, ns.length ≤ 63 → ∃ ρ' p', Mi.evSs Lk07.S_law Lk07.ir_law (.u :: .d .pen :: List.replicate 1 .u) (some (Mi.pen0 ns)) = .ok (.rt (.bl true), ρ') p') {fd : FuncData} (F : FunD K df40.name df40.qual df40.params df40.body df40.scope (df40.dvs K) (df40.kws K) (He.fAd K df40.at_) fd) : FnOk (PySem.Challenge.rw_allwritings_k07_whole_rows_joined_and_cu).prog w K mg base (L2.CX (PySem.Challenge.rw_allwritings_k07_whole_rows_joined_and_cu).prog w) 20 (He.ga K "law") fd ["script"] (spLawM K 63) := by
  obtain ⟨fdP, FP⟩ := c.def_ 39 (d := df39) rfl
  exact law_ok (N := N_law) (ir := ir_law) (kk := 19) (e46 (w := w) (base := base) X G c ex) (by decide) F FP (FunD.bindsN (ps := (["script"] : List Str)) FP fun _ _ _ _ _ _ us hl => match us, hl with | [_], _ => rfl) (gl X G c "_law_pen" rfl) (by kernel_rfl) rfl (by kernel_rfl) rfl (by kernel_rfl) (by kernel_rfl) sem
end
end Lk07H
open PySem PySem.W PySem.Calls PyProof.Rows
theorem Lk07.holds (sem : ∀ ns : List Int, ns.length ≤ 63 → ∃ ρ' p', Mi.evSs Lk07.S_law Lk07.ir_law (.u :: .d .pen :: List.replicate 1 .u) (some (Mi.pen0 ns)) = .ok (.rt (.bl true), ρ') p') : PySem.Challenge.rw_allwritings_k07_whole_rows_joined_and_cu.Holds := by
  w_on; o_law
  refine HandSHeadRun.head_any (r := OpenLaw.row PySem.Challenge.rw_allwritings_k07_whole_rows_joined_and_cu) (q := view (OpenLaw.row PySem.Challenge.rw_allwritings_k07_whole_rows_joined_and_cu).prog [51]) (H := Lk07H.hk) (ob := Lk07H.ob) (M := 4000) (loose := Lk07H.loose) (d := HandSHeadRun.topDef (OpenLaw.row PySem.Challenge.rw_allwritings_k07_whole_rows_joined_and_cu).prog 51) (kwd := []) Lk07H.ob_eq
    (by kernel_rfl) (fun s => by kernel_rfl) Lk07H.run (by kernel_rfl) (by kernel_rfl) (by kernel_rfl) (by rfl) (by first | assumption | decide +kernel) (by decide +kernel) ⟨rfl, rfl, rfl, rfl, rfl, by decide +kernel⟩ ?hw ?hc
  case hw => w_witness2
  case hc =>
    refine Mi.walk_M (l := PySem.Challenge.rw_allwritings_k07_whole_rows_joined_and_cu) (n := 63) (k := 20) (x := "script") rfl (by decide) (by kernel_rfl) ⟨rfl, by decide, by decide⟩ ?F
    intro w mg fa h Y G hmg0
    obtain ⟨K, KX, c, ex⟩ := Y
    have hmg : mg ("law" : PySem.Str) = some (.ref fa) := by
      have e : (HandSHeadRun.topDef (OpenLaw.row PySem.Challenge.rw_allwritings_k07_whole_rows_joined_and_cu).prog 51).name = ("law" : PySem.Str) := by kernel_rfl
      rw [← e]
      exact hmg0
    have e := hmg.symm.trans (Lk07H.gl KX G c "law" rfl)
    cases e
    obtain ⟨fd, F⟩ := c.def_ 40 (d := Lk07H.df40) rfl
    have b := L2.FunD.bindsA (ps := (["script"] : List PySem.Str)) F fun _ _ _ _ _ _ us hl => match us, hl with | [_], _ => rfl
    exact ⟨K, fd, KX, fun s v => b s [v] rfl, fun base _ _ => Lk07H.ok_law (w := w) (base := base) KX G c ex sem F⟩

theorem PySem.Challenge.cw_allwritings_k07_whole_rows_joined_and_cu_holds : PySem.Challenge.rw_allwritings_k07_whole_rows_joined_and_cu.Holds :=
  Lk07.holds Lk07.sem
