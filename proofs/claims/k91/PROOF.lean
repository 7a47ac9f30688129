import PyProof.Rows.All
import Wide.All
import OpenK.AllK
import Wide.FinOn
import HandS.ForMost
import HandS.ForExc
import HandS.Defaults
import HandS.Head0
import HandS.Head1
import HandS.Head2
import HandS.HeadEnd
import HandS.HeadHook1
import HandS.HeadHook2
import HandS.Flow
import HandS.Style
import HandS.Wide
import HandS.IsInst
import HandS.Zip
import HandS.TupAny
import HandS.TupMul
import HandS.SortInts
import HandS.CallLocal
import HandS.Lambda
import KE.KExcIs
import HandS.HotCalls
import HandS.ExcInit
import HandS.ExcField
import HandS.RaiseMore
import HandS.HeadHook4
import HandS.EndTab
import HandS.WordsDict
import HandS.HeadWalk
import PySem.Challenge.RW_allwritings_k91_whole_told_rows_by_block
set_option Elab.async false
set_option linter.all false
set_option maxRecDepth 100000
namespace Mi
open PySem PySem.Spec PyProof.Rows L2

/-! ### plain data -/
inductive D where
  | non | bl (b : Bool) | int (i : Int) | str (x : Str)
  | tup (xs : List D) | lst (xs : List D)
  | obj (c : Nat) (fs : List D)
  | fn (k : Nat)
  | pen
  deriving Inhabited

/-- the pen: its cells, and its four numbers -/
structure Pen where
  cells : List Int
  at_ : Int
  digits : Int
  count : Int
  fold : Int
abbrev PenS := Option Pen

inductive R (α : Type) where
  | ok (a : α) (p : PenS)
  | err (c : Nat) (fs : List D) (p : PenS)
  | stuck
def R.bind {α β : Type} (r : R α) (f : α → PenS → R β) : R β := match r with
  | .ok a p => f a p
  | .err c fs p => .err c fs p
  | .stuck => .stuck
def R.of {α : Type} (o : Option α) (p : PenS) : R α := match o with
  | some a => .ok a p
  | none => .stuck
@[simp] theorem R.bind_ok {α β : Type} (a : α) (p : PenS) (f : α → PenS → R β) : (R.ok a p).bind f = f a p := rfl
@[simp] theorem R.bind_err {α β : Type} (c : Nat) (fs : List D) (p : PenS) (f : α → PenS → R β) : (R.err c fs p).bind f = .err c fs p := rfl
@[simp] theorem R.bind_stuck {α β : Type} (f : α → PenS → R β) : (R.stuck : R α).bind f = .stuck := rfl
@[simp] theorem R.of_some {α : Type} (a : α) (p : PenS) : R.of (some a) p = .ok a p := rfl
@[simp] theorem R.of_none {α : Type} (p : PenS) : R.of (none : Option α) p = .stuck := rfl

/-! ### where things stand -/
/-- addresses: of classes, of defs; attributes of classes -/
structure Ad where
  nc : Nat
  cls : Nat → Addr
  fad : Nat → Addr
  att : Nat → List Str
  /-- tables of code objects, with the names of their lambdas -/
  tabs : List (Addr × Str)
/-- neither a table nor a code object -/
def plainO : HO → Prop
  | .tbl _ => False
  | .ext _ => False
  | _ => True
abbrev PN := Option (Addr × Addr)
section
variable (G : Ad) (pn : PN) (F : Hp)
mutual
inductive Rep : V → D → Prop
  | non : Rep .non .non
  | bl (b : Bool) : Rep (.bl b) (.bl b)
  | int (i : Int) : Rep (.int i) (.int i)
  | str (x : Str) : Rep (.str x) (.str x)
  | tup {a : Addr} {vs : List V} {ds : List D} : F a = some (.tup vs) → Reps vs ds → Rep (.ref a) (.tup ds)
  | lst {a : Addr} {vs : List V} {ds : List D} : F a = some (.lst vs) → Reps vs ds → Rep (.ref a) (.lst ds)
  | obj {a dx : Addr} {c : Nat} {vs : List V} {ds : List D} : c < G.nc → F a = some (.ins (G.cls c) dx ((G.att c).zip vs)) → vs.length = (G.att c).length → Reps vs ds → Rep (.ref a) (.obj c ds)
  | fn (k : Nat) : Rep (.ref (G.fad k)) (.fn k)
  | pen {pa ca : Addr} : pn = some (pa, ca) → Rep (.ref pa) .pen
inductive Reps : List V → List D → Prop
  | nil : Reps [] []
  | cons {v : V} {d : D} {vs : List V} {ds : List D} : Rep v d → Reps vs ds → Reps (v :: vs) (d :: ds)
end
end
section
variable {G : Ad} {pn : PN} {F F' : Hp}
mutual
theorem Rep.mono (h : Same F F') : ∀ {v : V} {d : D}, Rep G pn F v d → Rep G pn F' v d
  | _, _, .non => .non
  | _, _, .bl b => .bl b
  | _, _, .int i => .int i
  | _, _, .str x => .str x
  | _, _, .tup e r => .tup (h _ _ e) (Reps.mono h r)
  | _, _, .lst e r => .lst (h _ _ e) (Reps.mono h r)
  | _, _, .obj c e l r => .obj c (h _ _ e) l (Reps.mono h r)
  | _, _, .fn k => .fn k
  | _, _, .pen e => .pen e
theorem Reps.mono (h : Same F F') : ∀ {vs : List V} {ds : List D}, Reps G pn F vs ds → Reps G pn F' vs ds
  | _, _, .nil => .nil
  | _, _, .cons r t => .cons (Rep.mono h r) (Reps.mono h t)
end
theorem Reps.length : ∀ {vs : List V} {ds : List D}, Reps G pn F vs ds → vs.length = ds.length
  | _, _, .nil => rfl
  | _, _, .cons _ t => congrArg Nat.succ (Reps.length t)
theorem Reps.get : ∀ {vs : List V} {ds : List D} {i : Nat} {d : D}, Reps G pn F vs ds → ds[i]? = some d → ∃ v, vs[i]? = some v ∧ Rep G pn F v d
  | _, _, _, _, .nil, e => by simp at e
  | _, _, 0, _, .cons r _, e => by simp at e; subst e; exact ⟨_, rfl, r⟩
  | _, _, i + 1, _, .cons _ t, e => by
    obtain ⟨v, h1, h2⟩ := Reps.get (i := i) t (by simpa using e)
    exact ⟨v, by simpa using h1, h2⟩
theorem Reps.get' : ∀ {vs : List V} {ds : List D} {i : Nat} {v : V}, Reps G pn F vs ds → vs[i]? = some v → ∃ d, ds[i]? = some d ∧ Rep G pn F v d
  | _, _, _, _, .nil, e => by simp at e
  | _, _, 0, _, .cons r _, e => by simp at e; subst e; exact ⟨_, rfl, r⟩
  | _, _, i + 1, _, .cons _ t, e => by
    obtain ⟨v, h1, h2⟩ := Reps.get' (i := i) t (by simpa using e)
    exact ⟨v, by simpa using h1, h2⟩
theorem Reps.append : ∀ {vs ws : List V} {ds es : List D}, Reps G pn F vs ds → Reps G pn F ws es → Reps G pn F (vs ++ ws) (ds ++ es)
  | _, _, _, _, .nil, s => s
  | _, _, _, _, .cons r t, s => .cons r (Reps.append t s)
theorem Reps.take : ∀ {vs : List V} {ds : List D} (n : Nat), Reps G pn F vs ds → Reps G pn F (vs.take n) (ds.take n)
  | _, _, 0, _ => .nil
  | _, _, _ + 1, .nil => .nil
  | _, _, n + 1, .cons r t => .cons r (Reps.take n t)
theorem Reps.drop : ∀ {vs : List V} {ds : List D} (n : Nat), Reps G pn F vs ds → Reps G pn F (vs.drop n) (ds.drop n)
  | _, _, 0, r => r
  | _, _, _ + 1, .nil => .nil
  | _, _, n + 1, .cons _ t => Reps.drop n t
theorem Reps.set {v : V} {d : D} (r : Rep G pn F v d) : ∀ {vs : List V} {ds : List D} (i : Nat), Reps G pn F vs ds → Reps G pn F (vs.set i v) (ds.set i d)
  | _, _, _, .nil => .nil
  | _, _, 0, .cons _ t => .cons r t
  | _, _, i + 1, .cons q t => .cons q (Reps.set r i t)
theorem Reps.rep {vs : List V} {ds : List D} (h : Reps G pn F vs ds) : ∀ k : Nat, Reps G pn F (List.replicate k vs).flatten (List.replicate k ds).flatten
  | 0 => .nil
  | k + 1 => by
    rw [List.replicate_succ, List.replicate_succ, List.flatten_cons, List.flatten_cons]
    exact h.append (h.rep k)
theorem Reps.reverse : ∀ {vs : List V} {ds : List D}, Reps G pn F vs ds → Reps G pn F vs.reverse ds.reverse
  | _, _, .nil => .nil
  | _, _, .cons r t => by
    rw [List.reverse_cons, List.reverse_cons]
    exact (Reps.reverse t).append (.cons r .nil)
theorem Reps.dropLast {vs : List V} {ds : List D} (h : Reps G pn F vs ds) : Reps G pn F vs.dropLast ds.dropLast := by
  rw [List.dropLast_eq_take, List.dropLast_eq_take, h.length]
  exact h.take _
theorem reps_ints : ∀ (ns : List Int), Reps G pn F (ns.map V.int) (ns.map D.int)
  | [] => .nil
  | n :: ns => .cons (.int n) (reps_ints ns)
/-- ints all along -/
def intsOf : List D → Option (List Int)
  | [] => some []
  | .int i :: r => (intsOf r).map (i :: ·)
  | _ :: _ => none
def bolsOf : List D → Option (List Bool)
  | [] => some []
  | .bl i :: r => (bolsOf r).map (i :: ·)
  | _ :: _ => none
theorem intsOf_map (ns : List Int) : intsOf (ns.map D.int) = some ns := by
  induction ns with
  | nil => rfl
  | cons n ns ih => simp [intsOf, ih]
theorem bolsOf_map (ns : List Bool) : bolsOf (ns.map D.bl) = some ns := by
  induction ns with
  | nil => rfl
  | cons n ns ih => simp [bolsOf, ih]
theorem intsOf_eq : ∀ {ds : List D} {ns : List Int}, intsOf ds = some ns → ds = ns.map D.int
  | [], ns, h => by simp [intsOf] at h; subst h; rfl
  | d :: ds, ns, h => by
    cases d with
    | int i =>
      simp only [intsOf, Option.map_eq_some_iff] at h
      obtain ⟨r, h1, h2⟩ := h
      subst h2
      rw [intsOf_eq h1]; rfl
    | _ => simp [intsOf] at h
theorem bolsOf_eq : ∀ {ds : List D} {ns : List Bool}, bolsOf ds = some ns → ds = ns.map D.bl
  | [], ns, h => by simp [bolsOf] at h; subst h; rfl
  | d :: ds, ns, h => by
    cases d with
    | bl i =>
      simp only [bolsOf, Option.map_eq_some_iff] at h
      obtain ⟨r, h1, h2⟩ := h
      subst h2
      rw [bolsOf_eq h1]; rfl
    | _ => simp [bolsOf] at h
theorem Rep.int_inv {v : V} {i : Int} (h : Rep G pn F v (.int i)) : v = .int i := by cases h; rfl
theorem Rep.bl_inv {v : V} {b : Bool} (h : Rep G pn F v (.bl b)) : v = .bl b := by cases h; rfl
theorem Rep.str_inv {v : V} {b : Str} (h : Rep G pn F v (.str b)) : v = .str b := by cases h; rfl
theorem Rep.non_inv {v : V} (h : Rep G pn F v .non) : v = .non := by cases h; rfl
theorem Rep.tup_inv {v : V} {ds : List D} (h : Rep G pn F v (.tup ds)) : ∃ a vs, v = .ref a ∧ F a = some (.tup vs) ∧ Reps G pn F vs ds := by
  cases h with | tup e r => exact ⟨_, _, rfl, e, r⟩
theorem Rep.lst_inv {v : V} {ds : List D} (h : Rep G pn F v (.lst ds)) : ∃ a vs, v = .ref a ∧ F a = some (.lst vs) ∧ Reps G pn F vs ds := by
  cases h with | lst e r => exact ⟨_, _, rfl, e, r⟩
theorem reps_ints_inv : ∀ {ns : List Int} {vs : List V}, Reps G pn F vs (ns.map D.int) → vs = ns.map V.int
  | [], _, .nil => rfl
  | n :: ns, _, .cons r t => by cases r; rw [reps_ints_inv t]; rfl
theorem reps_bols_inv : ∀ {ns : List Bool} {vs : List V}, Reps G pn F vs (ns.map D.bl) → vs = ns.map V.bl
  | [], _, .nil => rfl
  | n :: ns, _, .cons r t => by cases r; rw [reps_bols_inv t]; rfl
end

/-! ### the heap that data lean on -/
def penK (ca : Addr) (st : Pen) : List (Key × V) :=
  [(.inr "cells", .ref ca), (.inr "at", .int st.at_), (.inr "digits", .int st.digits), (.inr "count", .int st.count), (.inr "fold", .int st.fold)]
/-- F: what data lean on, within H; the pen outside -/
def PenOk (F H : Hp) : PN → PenS → Prop
  | none, none => True
  | some (pa, ca), some st => F pa = none ∧ H pa = some (.dK (penK ca st)) ∧ F ca = some (.lst (st.cells.map V.int))
  | _, _ => False
/-- free, but for a table -/
def Fr (H : Hp) (a : Addr) : Prop := ∀ o, H a = some o → ∃ ps, o = HO.tbl ps
theorem Fr.of {H : Hp} {a : Addr} (h : H a = none) : Fr H a := fun o e => by rw [h] at e; cases e
theorem ne_fr {H : Hp} {a b : Addr} {o : HO} (e : H b = some o) (q : ∀ ps, o ≠ HO.tbl ps) (h : Fr H a) : b ≠ a := fun z => by
  subst z
  obtain ⟨ps, z⟩ := h _ e
  exact q ps z
theorem Fr.down {H : Hp} {a b : Addr} {o : HO} (h : Fr (upd H a o) b) (hn : Fr H a) : Fr H b := by
  by_cases hb : b = a
  · subst hb; exact hn
  · exact fun u hu => h u (by rw [upd_ne hb]; exact hu)
structure FOk (G : Ad) (F H : Hp) (pn : PN) (p : PenS) : Prop where
  sub : Same F H
  pen : PenOk F H pn p
  notb : ∀ a ps, F a ≠ some (.tbl ps)
  tabs : LamX.Tabs G.tabs H
def IsPen (pn : PN) (a : Addr) : Prop := ∃ ca, pn = some (a, ca)
/-- from (F, H) to (F', H'): all but the pen and the tables is kept -/
structure Step (G : Ad) (pn : PN) (p' : PenS) (F H F' H' : Hp) : Prop where
  keep : ∀ a o, ¬ IsPen pn a → (∀ ps, o ≠ .tbl ps) → H a = some o → H' a = some o
  there : ∀ a, Fr H' a → Fr H a
  same : Same F F'
  new : ∀ a, F' a ≠ none → F a ≠ none ∨ Fr H a
  ok : FOk G F' H' pn p'
section
variable {G : Ad} {pn : PN} {p p' p'' : PenS} {F H F' H' F'' H'' : Hp} {a : Addr} {o : HO}
theorem FOk.noPen (h : FOk G F H pn p) : ∀ a, IsPen pn a → F a = none ∧ H a ≠ none := by
  rintro a ⟨ca, rfl⟩
  have z := h.pen
  cases p with
  | none => exact z.elim
  | some st =>
    obtain ⟨z1, z2, _⟩ := z
    exact ⟨z1, by rw [z2]; simp⟩
theorem FOk.not_pen (h : FOk G F H pn p) {a : Addr} {o : HO} (e : F a = some o) : ¬ IsPen pn a := fun q => by
  rw [(h.noPen a q).1] at e; cases e
theorem Step.refl (h : FOk G F H pn p) : Step G pn p F H F H := ⟨fun _ _ _ _ e => e, fun _ e => e, Same.refl F, fun _ e => .inl e, h⟩
theorem Step.trans (s : Step G pn p' F H F' H') (t : Step G pn p'' F' H' F'' H'') : Step G pn p'' F H F'' H'' where
  keep := fun a o n q e => t.keep a o n q (s.keep a o n q e)
  there := fun a e => s.there a (t.there a e)
  same := s.same.trans t.same
  new := fun a e => by
    rcases t.new a e with z | z
    · exact s.new a z
    · exact .inr (s.there a z)
  ok := t.ok
/-- tables behind a write at a plain place, or a new one -/
theorem tabs_upd (h : LamX.Tabs G.tabs H) (hp : ∀ u, H a = some u → plainO u) : LamX.Tabs G.tabs (upd H a o) := fun q hq => by
  obtain ⟨ps, h1, h2, h3⟩ := h q hq
  have ne : ∀ (b : Addr) (u : HO), H b = some u → ¬ plainO u → b ≠ a := fun b u e n z => by subst z; exact n (hp u e)
  refine ⟨ps, by rw [upd_ne (ne _ _ h1 (fun z => z))]; exact h1, h2, fun pos cv hc => ?_⟩
  obtain ⟨c, e1, e2⟩ := h3 pos cv hc
  exact ⟨c, e1, by rw [upd_ne (ne _ _ e2 (fun z => z))]; exact e2⟩
theorem no_none (hn : H a = none) : ∀ u, H a = some u → plainO u := fun u e => by rw [hn] at e; cases e
/-- a new cell that data lean on -/
theorem Step.laid (h : FOk G F H pn p) (hn : H a = none) (ho : plainO o) : Step G pn p F H (upd F a o) (upd H a o) where
  keep := fun b u _ _ e => by rw [upd_ne (ne_of_none e hn)]; exact e
  there := fun b e => by
    by_cases hb : b = a
    · subst hb; exact .of hn
    · exact fun u hu => e u (by rw [upd_ne hb]; exact hu)
  same := fun b u e => by
    have : b ≠ a := fun z => by subst z; rw [h.sub b u e] at hn; cases hn
    rw [upd_ne this]; exact e
  new := fun b e => by
    by_cases hb : b = a
    · subst hb; exact .inr (.of hn)
    · rw [upd_ne hb] at e; exact .inl e
  ok := by
    refine ⟨fun b u e => ?_, ?_, fun b ps e => ?_, tabs_upd h.tabs (no_none hn)⟩
    · by_cases hb : b = a
      · subst hb; rw [upd_same] at e ⊢; exact e
      · rw [upd_ne hb] at e ⊢; exact h.sub b u e
    · have z := h.pen
      cases pn with
      | none => cases p with | none => trivial | some _ => exact z.elim
      | some q =>
        obtain ⟨pa, ca⟩ := q
        cases p with
        | none => exact z.elim
        | some st =>
          obtain ⟨z1, z2, z3⟩ := z
          have hpa : pa ≠ a := fun e => by subst e; rw [hn] at z2; cases z2
          have hca : ca ≠ a := fun e => by subst e; rw [h.sub _ _ z3] at hn; cases hn
          exact ⟨by rw [upd_ne hpa]; exact z1, by rw [upd_ne hpa]; exact z2, by rw [upd_ne hca]; exact z3⟩
    · by_cases hb : b = a
      · subst hb; rw [upd_same] at e; cases e; exact ho
      · rw [upd_ne hb] at e; exact h.notb b ps e
/-- a new cell that data do not lean on -/
theorem Step.side (h : FOk G F H pn p) (hn : H a = none) : Step G pn p F H F (upd H a o) where
  keep := fun b u _ _ e => by rw [upd_ne (ne_of_none e hn)]; exact e
  there := fun b e => by
    by_cases hb : b = a
    · subst hb; exact .of hn
    · exact fun u hu => e u (by rw [upd_ne hb]; exact hu)
  same := Same.refl F
  new := fun b e => .inl e
  ok := by
    refine ⟨fun b u e => ?_, ?_, h.notb, tabs_upd h.tabs (no_none hn)⟩
    · have : b ≠ a := fun z => by subst z; rw [h.sub b u e] at hn; cases hn
      rw [upd_ne this]; exact h.sub b u e
    · have z := h.pen
      cases pn with
      | none => cases p with | none => trivial | some _ => exact z.elim
      | some q =>
        obtain ⟨pa, ca⟩ := q
        cases p with
        | none => exact z.elim
        | some st =>
          obtain ⟨z1, z2, z3⟩ := z
          have hpa : pa ≠ a := fun e => by subst e; rw [hn] at z2; cases z2
          exact ⟨z1, by rw [upd_ne hpa]; exact z2, z3⟩
/-- a further cell of the heap is leant on -/
theorem Step.more (h : FOk G F H pn p) (hF : F a = none) (hH : H a = some o) (hp : ¬ IsPen pn a) (ho : plainO o) : FOk G (upd F a o) H pn p := by
  refine ⟨fun b u e => ?_, ?_, fun b ps e => ?_, h.tabs⟩
  · by_cases hb : b = a
    · subst hb; rw [upd_same] at e; cases e; exact hH
    · rw [upd_ne hb] at e; exact h.sub b u e
  · have z := h.pen
    cases pn with
    | none => cases p with | none => trivial | some _ => exact z.elim
    | some q =>
      obtain ⟨pa, ca⟩ := q
      cases p with
      | none => exact z.elim
      | some st =>
        obtain ⟨z1, z2, z3⟩ := z
        have hpa : pa ≠ a := fun e => hp ⟨ca, by rw [e]⟩
        have hca : ca ≠ a := fun e => by subst e; rw [hF] at z3; cases z3
        exact ⟨by rw [upd_ne hpa]; exact z1, z2, by rw [upd_ne hca]; exact z3⟩
  · by_cases hb : b = a
    · subst hb; rw [upd_same] at e; cases e; exact ho
    · rw [upd_ne hb] at e; exact h.notb b ps e
end
end Mi

set_option Elab.async false
set_option linter.all false
set_option maxRecDepth 100000
namespace Mi
open PySem PySem.Spec PyProof.Rows L2

/-! ### operations on data -/
mutual
def D.py : D → PyData
  | .non => .none
  | .bl b => .bool b
  | .int i => .int i
  | .str x => .str x
  | .tup xs => .tuple (pyAll xs)
  | .lst xs => .list (pyAll xs)
  | .obj _ _ => .dict []
  | .fn _ => .dict []
  | .pen => .dict []
def pyAll : List D → List PyData
  | [] => []
  | d :: ds => d.py :: pyAll ds
end
def deq (d e : D) : Option Bool := if (SeqAt.shaped d.py && SeqAt.shaped e.py) = true then some (PyData.eqv d.py e.py) else none

inductive BOp | add | sub | mul | fdiv | mod | pow
inductive COp | eq | ne | lt | le | gt | ge | is_ | isnot
def mulOk (i j : Int) : Prop := CMul i j ∨ CMulW i j
instance (i j : Int) : Decidable (mulOk i j) := by unfold mulOk CMul CMulW; infer_instance
def divOk (i j : Int) : Prop := CDivN i j ∨ CDivW i j
instance (i j : Int) : Decidable (divOk i j) := by unfold divOk CDivN CDivW; infer_instance
instance (i j : Int) : Decidable (CPow i j) := by unfold CPow; infer_instance
def bin : BOp → D → D → Option D
  | .add, .int i, .int j => some (.int (i + j))
  | .add, .tup xs, .tup ys => if xs.length + ys.length ≤ sizeLine then some (.tup (xs ++ ys)) else none
  | .add, .lst xs, .lst ys => if xs.length + ys.length ≤ sizeLine then some (.lst (xs ++ ys)) else none
  | .sub, .int i, .int j => some (.int (i - j))
  | .mul, .int i, .int j => if mulOk i j then some (.int (i * j)) else none
  | .mul, .tup xs, .int k => if 0 ≤ k ∧ k ≤ 1000 ∧ xs.length ≤ 1000 then some (.tup (List.replicate k.toNat xs).flatten) else none
  | .mul, .lst xs, .int k => if 0 ≤ k ∧ k < 2 ^ 62 ∧ xs.length * k.toNat ≤ sizeLine then some (.lst (List.replicate k.toNat xs).flatten) else none
  | .fdiv, .int i, .int j => if divOk i j then some (.int (i.fdiv j)) else none
  | .mod, .int i, .int j => if j ≠ 0 then some (.int (i.fmod j)) else none
  | .pow, .int i, .int j => if CPow i j then some (.int (i ^ j.toNat)) else none
  | _, _, _ => none
def D.isNon : D → Bool
  | .non => true
  | _ => false
/-- is one of the two truth values -/
def isB : D → Bool → Option Bool
  | .bl a, b => some (decide (a = b))
  | .non, _ => some false
  | .int _, _ => some false
  | .str _, _ => some false
  | .tup _, _ => some false
  | .lst _, _ => some false
  | .obj _ _, _ => some false
  | _, _ => none
def cmpV : COp → D → D → Option Bool
  | .eq, d, e => deq d e
  | .ne, d, e => (deq d e).map (!·)
  | .lt, .int i, .int j => some (decide (i < j))
  | .le, .int i, .int j => some (decide (i ≤ j))
  | .gt, .int i, .int j => some (decide (j < i))
  | .ge, .int i, .int j => some (decide (j ≤ i))
  | .is_, d, .non => some d.isNon
  | .isnot, d, .non => some (!d.isNon)
  | .is_, d, .bl b => isB d b
  | .isnot, d, .bl b => (isB d b).map (!·)
  | _, _, _ => none
def truth : D → Option Bool
  | .non => some false
  | .bl b => some b
  | .int i => some (i != 0)
  | .tup xs => some (!xs.isEmpty)
  | .lst xs => some (!xs.isEmpty)
  | _ => none
def idx (d i : D) : Option D := match d, i with
  | .tup xs, .int i => atI xs i
  | .lst xs, .int i => atI xs i
  | _, _ => none
def cutD (xs : List D) (lo hi : Option Int) : List D := (xs.drop (HT.sIx xs.length 0 lo)).take (HT.sIx xs.length xs.length hi - HT.sIx xs.length 0 lo)
def slc (d : D) (lo hi : Option Int) : Option D := match d with
  | .tup xs => some (.tup (cutD xs lo hi))
  | .lst xs => some (.lst (cutD xs lo hi))
  | _ => none
def asInt : D → Option Int
  | .int i => some i
  | _ => none

/-- built-in functions by name -/
def reprD : D → Option D
  | .int i => if i.natAbs.log2 < 1920 then some (.str (toString i)) else none
  | .bl b => some (.str (if b then "True" else "False"))
  | .non => some (.str "None")
  | .str x => if (reprText x).length ≤ sizeLine then some (.str (reprText x)) else none
  | _ => none
inductive BF | len | tuple | list | int | abs | max | min | sum | all | any | sorted | repr
  deriving DecidableEq
def maxOf : List Int → Option Int
  | [] => none
  | x :: xs => some (xs.foldl (fun m y => if m < y then y else m) x)
def minOf : List Int → Option Int
  | [] => none
  | x :: xs => some (xs.foldl (fun m y => if y < m then y else m) x)
def bfn : BF → List D → Option D
  | .len, [.tup xs] => some (.int xs.length)
  | .len, [.lst xs] => some (.int xs.length)
  | .tuple, [.tup xs] => some (.tup xs)
  | .tuple, [.lst xs] => some (.tup xs)
  | .list, [.tup xs] => some (.lst xs)
  | .list, [.lst xs] => some (.lst xs)
  | .int, [.int i] => some (.int i)
  | .int, [.bl b] => some (.int (if b then 1 else 0))
  | .abs, [.int i] => some (.int (if i < 0 then -i else i))
  | .max, [.int i, .int j] => some (.int (if j > i then j else i))
  | .min, [.int i, .int j] => some (.int (if j < i then j else i))
  | .max, [.lst xs] => (intsOf xs).bind fun ns => (maxOf ns).map D.int
  | .min, [.lst xs] => (intsOf xs).bind fun ns => (minOf ns).map D.int
  | .sum, [.lst xs] => (intsOf xs).map fun ns => .int ns.sum
  | .all, [.lst xs] => (bolsOf xs).map fun bs => .bl (bs.all id)
  | .any, [.lst xs] => (bolsOf xs).map fun bs => .bl (bs.any id)
  | .repr, [d] => reprD d
  | .sorted, [.lst xs] => (intsOf xs).map fun ns => .lst ((ns.mergeSort (fun a b => decide (a ≤ b))).map D.int)
  | _, _ => none
/-- len(dict(pairs)) -/
def keyOf : D → Option Key
  | .tup [.int i, _] => some (.inl i)
  | .tup [.str x, _] => some (.inr x)
  | _ => none
def keysOf : List D → Option (List Key)
  | [] => some []
  | d :: r => (keyOf d).bind fun k => (keysOf r).map (k :: ·)
def putN (ks : List Key) (k : Key) : List Key := if (ks.any fun x => decide (x = k)) = true then ks else ks ++ [k]
def dlenD : D → Option D
  | .lst ps => (keysOf ps).map fun ks => .int ((ks.foldl putN []).length : Nat)
  | _ => none
/-- types, for isinstance -/
inductive Ty | b (n : String) | c (k : Nat)
  deriving DecidableEq
def tyD : D → Option Ty
  | .non => some (.b "NoneType")
  | .bl _ => some (.b "bool")
  | .int _ => some (.b "int")
  | .str _ => some (.b "str")
  | .tup _ => some (.b "tuple")
  | .lst _ => some (.b "list")
  | .obj c _ => some (.c c)
  | _ => none
def kit : Ty → Ty → Option Bool
  | .b a, .b b => kitB a b
  | .c i, .c j => some (decide (i = j))
  | .c _, .b _ => some false
  | .b _, .c _ => some false
def kits (t : Ty) : List Ty → Option Bool
  | [] => some false
  | c :: cs => match kit t c with
    | some true => some true
    | some false => kits t cs
    | none => none

/-! ### the small language -/
inductive Tg | nm (i : Nat) | tp (is : List Nat)
mutual
inductive IE where
  | int (i : Int) | bl (b : Bool) | non | str (x : Str)
  | var (i : Nat) | con (k : Nat) | fnv (k : Nat)
  | bin (o : BOp) (a b : IE)
  | neg (a : IE) | not (a : IE)
  | cmp (o : COp) (a b : IE)
  | chain (o o' : COp) (a b c : IE)
  | and (xs : IEs) | or (xs : IEs)
  | ite (c a b : IE)
  | tup (xs : IEs) | lst (xs : IEs)
  | ix (a b : IE)
  | sl (a : IE) (lo hi : IO)
  | fld (a : IE) (f : Str)
  | call (k : Nat) (xs : IEs)
  | mk (c : Nat) (xs : IEs)
  | blt (f : BF) (xs : IEs)
  | isi (a : IE) (t : Ty)
  | isis (a : IE) (ts : List Ty)
  | comp (elt : IE) (tg : Tg) (it : II) (ifs : IEs) (own : List (Str × Nat))
  | pget (a : IE) (f : Str)
  | eqo (ne : Bool) (c k : Nat) (a b : IE)
  | fault (g : Nat) (lam : IE)
  | callv (ks : List Nat) (i : Nat) (xs : IEs)
  | dlen (a : IE)
inductive IEs where
  | nil | cons (a : IE) (r : IEs)
inductive IO where
  | no | so (a : IE)
inductive II where
  | seq (a : IE)
  | rng1 (a : IE)
  | rng2 (a b : IE)
  | zip (a b : IE)
  | enum (a : IE)
end
mutual
inductive IS where
  | asg (i : Nat) (e : IE)
  | asgB (i : Nat) (e : IE)
  | par (i j : Nat) (a b : IE)
  | unp (is : List Nat) (e : IE)
  | own (i : Nat) (e : IE)
  | app (i : Nat) (e : IE)
  | appB (i : Nat) (e : IE)
  | setf (i : Nat) (f : Str) (e : IE)
  | pset (f : Str) (e : IE) (a : IE)
  | drop (e : IE)
  | rais (c : Nat) (xs : IEs)
  | iff (c : IE) (a b : ISs)
  | whl (c : IE) (b : ISs)
  | for_ (tg : Tg) (it : II) (b : ISs)
  | ret (e : IE) | retN
  | brk | cnt | pas | nvr
inductive ISs where
  | nil | cons (a : IS) (r : ISs)
  | frz (i : Nat) (r : ISs)
end

/-! ### what it means -/
abbrev DEnv := List (Option D)
abbrev Den := List D → PenS → R D
def wipeD (ρ : DEnv) : List Nat → DEnv
  | [] => ρ
  | v :: vs => (wipeD ρ vs).set v none
def setAll (ρ : DEnv) : List Nat → List D → Option DEnv
  | [], [] => some ρ
  | i :: is, d :: ds => setAll (ρ.set i (some d)) is ds
  | _, _ => none
def asgTg (ρ : DEnv) : Tg → D → Option DEnv
  | .nm i, d => some (ρ.set i (some d))
  | .tp is, .tup ds => setAll ρ is ds
  | .tp _, _ => none
def R.calm {α : Type} : R α → R α
  | .ok a p => .ok a p
  | _ => .stuck
def compLoop (f : D → PenS → R (Option D)) : List D → PenS → R (List D)
  | [], p => .ok [] p
  | d :: ds, p => (f d p).bind fun o p => (compLoop f ds p).bind fun r p => .ok (match o with | some x => x :: r | none => r) p
def rng (a b : Int) : List D := (List.range (b - a).toNat).map fun i => D.int (a + (i : Nat))
def enumD : Nat → List D → List D
  | _, [] => []
  | n, d :: ds => .tup [.int (n : Nat), d] :: enumD (n + 1) ds
def zipD : List D → List D → List D
  | x :: xs, y :: ys => .tup [x, y] :: zipD xs ys
  | _, _ => []
def seqOf : D → Option (List D)
  | .tup xs => some xs
  | .lst xs => some xs
  | _ => none
/-- of two sequences of one kind -/
def zipOf : D → D → Option (List D)
  | .tup xs, .tup ys => some (zipD xs ys)
  | .lst xs, .lst ys => some (zipD xs ys)
  | _, _ => none
def enumOf : D → Option (List D)
  | .lst xs => some (enumD 0 xs)
  | _ => none
def smallI (i : Int) : Prop := -(2 ^ 62) ≤ i ∧ i < 2 ^ 62
instance (i : Int) : Decidable (smallI i) := by unfold smallI; infer_instance
def rngOf (a b : Int) : Option (List D) := if smallI a ∧ smallI b ∧ (b - a).toNat ≤ sizeLine then some (rng a b) else none
def penGet (f : Str) (st : Pen) : Option D :=
  if f = "cells" then some (.lst (st.cells.map D.int)) else if f = "at" then some (.int st.at_) else if f = "digits" then some (.int st.digits)
  else if f = "count" then some (.int st.count) else if f = "fold" then some (.int st.fold) else none
def penSet (f : Str) (i : Int) (st : Pen) : Option Pen :=
  if f = "at" then some { st with at_ := i } else if f = "digits" then some { st with digits := i }
  else if f = "count" then some { st with count := i } else if f = "fold" then some { st with fold := i } else none

/-- the text's tables: constants, what defs give, what classes are made with, attributes -/
def eqRes (ne : Bool) : D → PenS → R D
  | .bl t, p => .ok (.bl (if ne = true then !t else t)) p
  | _, _ => .stuck
/-- both objects of that class -/
def eqArgs (c : Nat) : D → D → Option (List D)
  | .obj i fs, .obj j gs => if i = c ∧ j = c then some [.obj c fs, .obj c gs] else none
  | _, _ => none
def R.catch (r : R D) (f : Nat → List D → Option D) : R D := match r with
  | .ok _ p => .ok .non p
  | .err c fs p => R.of (f c fs) p
  | .stuck => .stuck
structure Sem0 where
  con : Nat → Option Int
  den : Nat → Den
  ini : Nat → List D → PenS → R (List D)
  att : Nat → List Str
  flt : Nat → List D → Option D
section
variable (S : Sem0)
mutual
def evE : IE → DEnv → PenS → R D
  | .int i, _, p => .ok (.int i) p
  | .bl b, _, p => .ok (.bl b) p
  | .non, _, p => .ok .non p
  | .str x, _, p => .ok (.str x) p
  | .var i, ρ, p => R.of (ρ[i]?.join) p
  | .con k, _, p => R.of ((S.con k).map D.int) p
  | .fnv k, _, p => .ok (.fn k) p
  | .bin o a b, ρ, p => (evE a ρ p).bind fun x p => (evE b ρ p).bind fun y p => R.of (bin o x y) p
  | .neg a, ρ, p => (evE a ρ p).bind fun x p => R.of ((asInt x).map fun i => .int (-i)) p
  | .not a, ρ, p => (evE a ρ p).bind fun x p => R.of ((truth x).map fun b => .bl (!b)) p
  | .cmp o a b, ρ, p => (evE a ρ p).bind fun x p => (evE b ρ p).bind fun y p => R.of ((cmpV o x y).map .bl) p
  | .chain o o' a b c, ρ, p => (evE a ρ p).bind fun x p => (evE b ρ p).bind fun y p => (R.of (cmpV o x y) p).bind fun k p =>
      if k = true then (evE c ρ p).bind fun z p => R.of ((cmpV o' y z).map .bl) p else .ok (.bl false) p
  | .and xs, ρ, p => evAnd xs ρ p
  | .or xs, ρ, p => evOr xs ρ p
  | .ite c a b, ρ, p => (evT c ρ p).bind fun k p => if k = true then evE a ρ p else evE b ρ p
  | .tup xs, ρ, p => (evEs xs ρ p).bind fun ds p => R.of (if ds.length ≤ sizeLine then some (.tup ds) else none) p
  | .lst xs, ρ, p => (evEs xs ρ p).bind fun ds p => R.of (if ds.length ≤ sizeLine then some (.lst ds) else none) p
  | .ix a b, ρ, p => (evE a ρ p).bind fun x p => (evE b ρ p).bind fun y p => R.of (idx x y) p
  | .sl a lo hi, ρ, p => (evE a ρ p).bind fun x p => (evO lo ρ p).bind fun l p => (evO hi ρ p).bind fun u p => R.of (slc x l u) p
  | .fld a f, ρ, p => (evE a ρ p).bind fun x p => R.of (match x with
      | .obj c ds => (((S.att c).zip ds).lookup f)
      | _ => none) p
  | .call k xs, ρ, p => (evEs xs ρ p).bind fun ds p => S.den k ds p
  | .mk c xs, ρ, p => (evEs xs ρ p).bind fun ds p => (S.ini c ds p).bind fun fs p => .ok (.obj c fs) p
  | .blt f xs, ρ, p => (evEs xs ρ p).bind fun ds p => R.of (bfn f ds) p
  | .isi a t, ρ, p => (evE a ρ p).bind fun x p => R.of ((tyD x).bind fun u => (kit u t).map .bl) p
  | .isis a ts, ρ, p => (evE a ρ p).bind fun x p => R.of ((tyD x).bind fun u => (kits u ts).map .bl) p
  | .comp elt tg it ifs own, ρ, p => (evI it ρ p).bind fun ds p => if ds.length ≤ sizeLine then
      (compLoop (fun d p => ((R.of (asgTg (wipeD ρ (own.map (·.2))) tg d) p).bind fun ρ' p => (evAndT ifs ρ' p).bind fun k p => if k = true then (evE elt ρ' p).bind fun x p => .ok (some x) p else .ok none p).calm) ds p).bind fun xs p => .ok (.lst xs) p
      else .stuck
  | .pget a f, ρ, p => (evE a ρ p).bind fun x p => match x, p with
      | .pen, some st => R.of (penGet f st) p
      | _, _ => .stuck
  | .eqo ne c k a b, ρ, p => (evE a ρ p).bind fun x p => (evE b ρ p).bind fun y p => (R.of (eqArgs c x y) p).bind fun ds p => (S.den k ds p).bind (eqRes ne)
  | .fault _ lam, ρ, p => (evE lam ρ p).catch S.flt
  | .callv ks i xs, ρ, p => (R.of (ρ[i]?.join) p).bind fun f p => match f with
      | .fn k => if k ∈ ks then (evEs xs ρ p).bind fun ds p => S.den k ds p else .stuck
      | _ => .stuck
  | .dlen a, ρ, p => (evE a ρ p).bind fun x p => R.of (dlenD x) p
def evT : IE → DEnv → PenS → R Bool
  | .not a, ρ, p => (evT a ρ p).bind fun b p => .ok (!b) p
  | .and xs, ρ, p => evAndT xs ρ p
  | .or xs, ρ, p => evOrT xs ρ p
  | .cmp o a b, ρ, p => (evE a ρ p).bind fun x p => (evE b ρ p).bind fun y p => R.of (cmpV o x y) p
  | .chain o o' a b c, ρ, p => (evE a ρ p).bind fun x p => (evE b ρ p).bind fun y p => (R.of (cmpV o x y) p).bind fun k p =>
      if k = true then (evE c ρ p).bind fun z p => R.of (cmpV o' y z) p else .ok false p
  | .ite _ _ _, _, _ => .stuck
  | .var i, ρ, p => (R.of (ρ[i]?.join) p).bind fun x p => R.of (truth x) p
  | .call k xs, ρ, p => (evEs xs ρ p).bind fun ds p => (S.den k ds p).bind fun x p => R.of (truth x) p
  | .blt f xs, ρ, p => (evEs xs ρ p).bind fun ds p => (R.of (bfn f ds) p).bind fun x p => R.of (truth x) p
  | .isi a t, ρ, p => (evE a ρ p).bind fun x p => R.of ((tyD x).bind fun u => kit u t) p
  | .isis a ts, ρ, p => (evE a ρ p).bind fun x p => R.of ((tyD x).bind fun u => kits u ts) p
  | .fld a f, ρ, p => (evE a ρ p).bind fun x p => (R.of (match x with
      | .obj c ds => (((S.att c).zip ds).lookup f)
      | _ => none) p).bind fun x p => R.of (truth x) p
  | .bl b, _, p => .ok b p
  | .eqo ne c k a b, ρ, p => (evE a ρ p).bind fun x p => (evE b ρ p).bind fun y p => (R.of (eqArgs c x y) p).bind fun ds p => ((S.den k ds p).bind (eqRes ne)).bind fun x p => R.of (truth x) p
  | _, _, _ => .stuck
def evEs : IEs → DEnv → PenS → R (List D)
  | .nil, _, p => .ok [] p
  | .cons a r, ρ, p => (evE a ρ p).bind fun x p => (evEs r ρ p).bind fun xs p => .ok (x :: xs) p
def evAnd : IEs → DEnv → PenS → R D
  | .nil, _, _ => .stuck
  | .cons a .nil, ρ, p => evE a ρ p
  | .cons a (.cons b r), ρ, p => (evE a ρ p).bind fun x p => (R.of (truth x) p).bind fun k p => if k = true then evAnd (.cons b r) ρ p else .ok x p
def evOr : IEs → DEnv → PenS → R D
  | .nil, _, _ => .stuck
  | .cons a .nil, ρ, p => evE a ρ p
  | .cons a (.cons b r), ρ, p => (evE a ρ p).bind fun x p => (R.of (truth x) p).bind fun k p => if k = true then .ok x p else evOr (.cons b r) ρ p
def evAndT : IEs → DEnv → PenS → R Bool
  | .nil, _, p => .ok true p
  | .cons a r, ρ, p => (evT a ρ p).bind fun k p => if k = true then evAndT r ρ p else .ok false p
def evOrT : IEs → DEnv → PenS → R Bool
  | .nil, _, p => .ok false p
  | .cons a r, ρ, p => (evT a ρ p).bind fun k p => if k = true then .ok true p else evOrT r ρ p
def evO : IO → DEnv → PenS → R (Option Int)
  | .no, _, p => .ok none p
  | .so a, ρ, p => (evE a ρ p).bind fun x p => R.of ((asInt x).map some) p
def evI : II → DEnv → PenS → R (List D)
  | .seq a, ρ, p => (evE a ρ p).bind fun x p => R.of (seqOf x) p
  | .rng1 a, ρ, p => (evE a ρ p).bind fun x p => R.of ((asInt x).bind fun i => rngOf 0 i) p
  | .rng2 a b, ρ, p => (evE a ρ p).bind fun x p => (evE b ρ p).bind fun y p => R.of ((asInt x).bind fun i => (asInt y).bind fun j => rngOf i j) p
  | .zip a b, ρ, p => (evE a ρ p).bind fun x p => (evE b ρ p).bind fun y p => R.of (zipOf x y) p
  | .enum a, ρ, p => (evE a ρ p).bind fun x p => R.of (enumOf x) p
end
end

/-! ### statements -/
/-- a slot: nothing known; plain data; a list of one's own; an object of one's own in the making -/
inductive Sl | u | d (x : D) | o (xs : List D) | w (c : Nat) (fs : List D)
abbrev SEnv := List Sl
/-- what an expression sees: data alone; lists of one's own too -/
def Sl.see : Sl → Option D
  | .d x => some x
  | _ => none
def Sl.seeB : Sl → Option D
  | .d x => some x
  | .o xs => some (.lst xs)
  | _ => none
abbrev see (ρ : SEnv) : DEnv := ρ.map Sl.see
abbrev seeB (ρ : SEnv) : DEnv := ρ.map Sl.seeB
/-! no list within: nothing that one's own lists could be part of -/
mutual
def noLst : D → Bool
  | .lst _ => false
  | .tup xs => noLsts xs
  | .obj _ xs => noLsts xs
  | .fn _ => true
  | .pen => true
  | .non => true | .bl _ => true | .int _ => true | .str _ => true
def noLsts : List D → Bool
  | [] => true
  | d :: ds => noLst d && noLsts ds
end
inductive Fl | nx | bk | ct | rt (d : D)
def setSl (ρ : SEnv) : List Nat → List D → Option SEnv
  | [], [] => some ρ
  | i :: is, d :: ds => setSl (ρ.set i (.d d)) is ds
  | _, _ => none
def tgSl (ρ : SEnv) : Tg → D → Option SEnv
  | .nm i, d => some (ρ.set i (.d d))
  | .tp is, .tup ds => setSl ρ is ds
  | .tp _, _ => none
def forLoop (f : D → SEnv → PenS → R (Fl × SEnv)) : List D → SEnv → PenS → R (Fl × SEnv)
  | [], ρ, p => .ok (.nx, ρ) p
  | d :: ds, ρ, p => (f d ρ p).bind fun (fl, ρ) p => match fl with
    | .nx => forLoop f ds ρ p
    | .ct => forLoop f ds ρ p
    | .bk => .ok (.nx, ρ) p
    | .rt v => .ok (.rt v, ρ) p
/-- n turns at most -/
def whN (c : SEnv → PenS → R Bool) (f : SEnv → PenS → R (Fl × SEnv)) : Nat → SEnv → PenS → R (Fl × SEnv)
  | 0, _, _ => .stuck
  | n + 1, ρ, p => (c ρ p).bind fun k p => if k = true then (f ρ p).bind fun (fl, ρ) p => match fl with
      | .nx => whN c f n ρ p
      | .ct => whN c f n ρ p
      | .bk => .ok (.nx, ρ) p
      | .rt v => .ok (.rt v, ρ) p
    else .ok (.nx, ρ) p
open Classical in
noncomputable def whW (c : SEnv → PenS → R Bool) (f : SEnv → PenS → R (Fl × SEnv)) (ρ : SEnv) (p : PenS) : R (Fl × SEnv) :=
  if h : ∃ n, whN c f n ρ p ≠ .stuck then whN c f h.choose ρ p else .stuck
section
variable (S : Sem0)
/-- fresh lists -/
def evOwn (e : IE) (ρ : DEnv) (p : PenS) : R (List D) := (evE S e ρ p).bind fun d p => match d with
  | .lst xs => .ok xs p
  | _ => .stuck
mutual
noncomputable def evS : IS → SEnv → PenS → R (Fl × SEnv)
  | .asg i e, ρ, p => (evE S e (see ρ) p).bind fun d p => .ok (.nx, ρ.set i (.d d)) p
  | .asgB i e, ρ, p => (evE S e (seeB ρ) p).bind fun d p => if noLst d = true then .ok (.nx, ρ.set i (.d d)) p else .stuck
  | .par i j a b, ρ, p => (evE S a (see ρ) p).bind fun x p => (evE S b (see ρ) p).bind fun y p => .ok (.nx, (ρ.set i (.d x)).set j (.d y)) p
  | .unp is e, ρ, p => (evE S e (see ρ) p).bind fun d p => (R.of (tgSl ρ (.tp is) d) p).bind fun ρ p => .ok (.nx, ρ) p
  | .own i e, ρ, p => (evOwn S e (see ρ) p).bind fun xs p => .ok (.nx, ρ.set i (.o xs)) p
  | .app i e, ρ, p => match ρ[i]? with
      | some (.o xs) => (evE S e (see ρ) p).bind fun d p => if xs.length < sizeLine then .ok (.nx, ρ.set i (.o (xs ++ [d]))) p else .stuck
      | _ => .stuck
  | .appB i e, ρ, p => match ρ[i]? with
      | some (.o xs) => (evE S e (seeB ρ) p).bind fun d p => if xs.length < sizeLine ∧ noLst d = true then .ok (.nx, ρ.set i (.o (xs ++ [d]))) p else .stuck
      | _ => .stuck
  | .setf i f e, ρ, p => (evE S e (see ρ) p).bind fun d p => match ρ[i]? with
      | some (.w c fs) => if (S.att c)[fs.length]? = some f then .ok (.nx, ρ.set i (.w c (fs ++ [d]))) p else .stuck
      | _ => .stuck
  | .pset f e a, ρ, p => (evE S e (see ρ) p).bind fun d p => (evE S a (see ρ) p).bind fun q p => match q, d, p with
      | .pen, .int i, some st => (match penSet f i st with
        | some st' => .ok (.nx, ρ) (some st')
        | none => .stuck)
      | _, _, _ => .stuck
  | .drop e, ρ, p => (evE S e (seeB ρ) p).bind fun _ p => .ok (.nx, ρ) p
  | .rais c xs, ρ, p => (evEs S xs (see ρ) p).bind fun ds p => if ds.length = (S.att c).length then .err c ds p else .stuck
  | .iff c a b, ρ, p => (evT S c (seeB ρ) p).bind fun k p => if k = true then evSs a ρ p else evSs b ρ p
  | .whl c b, ρ, p => whW (fun ρ p => evT S c (seeB ρ) p) (fun ρ p => evSs b ρ p) ρ p
  | .for_ tg it b, ρ, p => (evI S it (see ρ) p).bind fun ds p => forLoop (fun d ρ p => (R.of (tgSl ρ tg d) p).bind fun ρ p => evSs b ρ p) ds ρ p
  | .ret e, ρ, p => (evE S e (seeB ρ) p).bind fun d p => .ok (.rt d, ρ) p
  | .retN, ρ, p => .ok (.rt .non, ρ) p
  | .brk, ρ, p => .ok (.bk, ρ) p
  | .cnt, ρ, p => .ok (.ct, ρ) p
  | .pas, ρ, p => .ok (.nx, ρ) p
  | .nvr, _, _ => .stuck
noncomputable def evSs : ISs → SEnv → PenS → R (Fl × SEnv)
  | .nil, ρ, p => .ok (.nx, ρ) p
  | .cons a r, ρ, p => (evS a ρ p).bind fun (fl, ρ) p => match fl with
    | .nx => evSs r ρ p
    | fl => .ok (fl, ρ) p
  | .frz i r, ρ, p => match ρ[i]? with
    | some (.o xs) => evSs r (ρ.set i (.d (.lst xs))) p
    | _ => .stuck
end
/-- a def's body -/
noncomputable def evFn (n : Nat) (b : ISs) : Den := fun ds p => (evSs S b (ds.map Sl.d ++ List.replicate (n - ds.length) .u) p).bind fun (fl, _) p => match fl with
  | .rt d => .ok d p
  | .nx => .ok .non p
  | _ => .stuck
/-- an __init__'s body: slot 0 is the object -/
noncomputable def evIni (n c : Nat) (b : ISs) : List D → PenS → R (List D) := fun ds p => (evSs S b (.w c [] :: (ds.map Sl.d ++ List.replicate (n - 1 - ds.length) .u)) p).bind fun (fl, ρ) p => match fl, (ρ[0]? : Option Sl) with
  | .nx, some (Sl.w c' fs) => if c' = c ∧ fs.length = (S.att c).length then .ok fs p else .stuck
  | _, _ => .stuck
end
end Mi

set_option Elab.async false
set_option linter.all false
set_option maxRecDepth 100000
namespace Mi
open PySem PySem.Spec PyProof.Rows L2

/-! ### what is wanted behind a piece -/
/-- an exception at dx: its fields by name -/
def XAt (G : Ad) (pn : PN) (F H : Hp) (c : Nat) (fs : List D) (dx : Addr) : Prop :=
  ∃ ws, H dx = some (.xd ws) ∧ fs.length = (G.att c).length ∧ ∀ (i : Nat) (f : Str) (d : D), (G.att c)[i]? = some f → fs[i]? = some d → ∃ v, ws.lookup f = some v ∧ Rep G pn F v d
def Out {α β : Type} (G : Ad) (rep : Hp → β → α → Prop) (E : XK) (pn : PN) (F H : Hp) (r : R α) (Q : β → Hp → Prop) : Prop := match r with
  | .ok a p' => ∀ b F' H', Step G pn p' F H F' H' → rep F' b a → Q b H'
  | .err c fs p' => ∀ F' H' dx, Step G pn p' F H F' H' → XAt G pn F' H' c fs dx → E (.ref (G.cls c)) (some dx) H'
  | .stuck => False
section
variable {G : Ad} {E : XK} {pn : PN} {F H : Hp} {p : PenS}
theorem Out.bind {α β α' β' : Type} {rep : Hp → β → α → Prop} {rep' : Hp → β' → α' → Prop} {r : R α} {f : α → PenS → R α'} {Q : β' → Hp → Prop} 
    (h : Out G rep' E pn F H (r.bind f) Q) : Out G rep E pn F H r (fun b H1 => ∃ F1 p1 a, r = .ok a p1 ∧ Step G pn p1 F H F1 H1 ∧ rep F1 b a ∧ Out G rep' E pn F1 H1 (f a p1) Q) := by
  cases r with
  | stuck => exact h
  | err c fs p1 => exact h
  | ok a p1 =>
    intro b F1 H1 s rp
    refine ⟨F1, p1, a, rfl, s, rp, ?_⟩
    have h' : Out G rep' E pn F H (f a p1) Q := h
    cases e : f a p1 with
    | stuck => rw [e] at h'; exact h'
    | err c fs p2 => rw [e] at h'; exact fun F' H' dx s' x => h' F' H' dx (s.trans s') x
    | ok a' p2 => rw [e] at h'; exact fun b' F' H' s' x => h' b' F' H' (s.trans s') x
theorem Out.imp {α β : Type} {rep : Hp → β → α → Prop} {r : R α} {Q Q' : β → Hp → Prop} (h : Out G rep E pn F H r Q) (q : ∀ b H', Q b H' → Q' b H') : Out G rep E pn F H r Q' := by
  cases r with
  | stuck => exact h
  | err c fs p1 => exact h
  | ok a p1 => exact fun b F' H' s x => q _ _ (h b F' H' s x)
/-- a value that is there -/
theorem Out.here {α β : Type} {rep : Hp → β → α → Prop} {a : α} {b : β} {Q : β → Hp → Prop} (h0 : FOk G F H pn p) (h : Out G rep E pn F H (.ok a p) Q) (rp : rep F b a) : Q b H :=
  h b F H (Step.refl h0) rp
theorem Out.ofH {α β : Type} {rep : Hp → β → α → Prop} {o : Option α} {Q : β → Hp → Prop} (h : Out G rep E pn F H (R.of o p) Q) : ∃ a, o = some a ∧ Out G rep E pn F H (.ok a p) Q := by
  cases o with
  | none => exact h.elim
  | some a => exact ⟨a, rfl, h⟩
end
abbrev rD (G : Ad) (pn : PN) : Hp → V → D → Prop := fun F v d => Rep G pn F v d
abbrev rDs (G : Ad) (pn : PN) : Hp → List V → List D → Prop := fun F v d => Reps G pn F v d
abbrev rB : Hp → Bool → Bool → Prop := fun _ b a => b = a
abbrev rO : Hp → Option Int → Option Int → Prop := fun _ b a => b = a

/-- slots hold what the names mean -/
def DR (G : Ad) (pn : PN) (σ : L2.St) (ρ : DEnv) (F : Hp) : Prop := σ.length = ρ.length ∧ ∀ (i : Nat) d, ρ[i]? = some (some d) → ∃ v, σ[i]? = some (some v) ∧ Rep G pn F v d
theorem DR.mono {G : Ad} {pn : PN} {σ : L2.St} {ρ : DEnv} {F F' : Hp} (h : DR G pn σ ρ F) (s : Same F F') : DR G pn σ ρ F' :=
  ⟨h.1, fun i d e => let ⟨v, h1, h2⟩ := h.2 i d e; ⟨v, h1, h2.mono s⟩⟩

/-! ### a def's promise by its meaning -/
def spOf (G : Ad) (m : Nat) (den : Den) : Sp := fun vs H Q E => vs.length = m ∧ ∃ F pn p ds, FOk G F H pn p ∧ Reps G pn F vs ds ∧ Out G (rD G pn) E pn F H (den ds p) Q

/-! ### readings of expressions -/
def tG {α β : Type} (G : Ad) (rep : PN → Hp → β → α → Prop) (E : XK) (ev : DEnv → PenS → R α) : L2.St → Hp → (β → Hp → Prop) → Prop := fun σ H Q =>
  ∃ ρ F pn p, DR G pn σ ρ F ∧ FOk G F H pn p ∧ Out G (rep pn) E pn F H (ev ρ p) Q
abbrev tE (G : Ad) (E : XK) (ev : DEnv → PenS → R D) : TE := tG G (rD G) E ev
abbrev tEs (G : Ad) (E : XK) (ev : DEnv → PenS → R (List D)) : TA := tG G (rDs G) E ev
abbrev tT (G : Ad) (E : XK) (ev : DEnv → PenS → R Bool) : TT := tG G (fun _ => rB) E ev
abbrev tO (G : Ad) (E : XK) (ev : DEnv → PenS → R (Option Int)) : TO := tG G (fun _ => rO) E ev
section
variable {X : Cx} {e : Expr}
theorem peI {t t' : TE} (h : PE X e t) (i : ∀ σ H Q, t' σ H Q → t σ H Q) : PE X e t' := ⟨fun pins s σ H Q I q => h.run pins s σ H Q I (i σ H Q q)⟩
theorem ptI {t t' : TT} (h : PT X e t) (i : ∀ σ H Q, t' σ H Q → t σ H Q) : PT X e t' := ⟨fun pins s σ H Q I q => h.run pins s σ H Q I (i σ H Q q)⟩
theorem pwI {t t' : TT} (h : PW X e t) (i : ∀ σ H Q, t' σ H Q → t σ H Q) : PW X e t' := ⟨fun wh pins s σ H Q I q => h.run wh pins s σ H Q I (i σ H Q q)⟩
theorem paI {es : List Expr} {t t' : TA} (h : PA X es t) (i : ∀ σ H Q, t' σ H Q → t σ H Q) : PA X es t' := ⟨fun pos pins s σ H Q I q => h.run pos pins s σ H Q I (i σ H Q q)⟩
theorem poI {o : Option Expr} {t t' : TO} (h : PO X o t) (i : ∀ σ H Q, t' σ H Q → t σ H Q) : PO X o t' := ⟨fun pins s σ H Q I q => h.run pins s σ H Q I (i σ H Q q)⟩
theorem psI {st : Stmt} {t t' : TS} (h : PS X st t) (i : ∀ D σ H, t' D σ H → t D σ H) : PS X st t' := ⟨fun pins s σ H Q I q => h.run pins s σ H Q I (i Q σ H q)⟩
theorem pssI {st : List Stmt} {t t' : TS} (h : PSs X st t) (i : ∀ D σ H, t' D σ H → t D σ H) : PSs X st t' := ⟨fun pins s σ H Q I q => h.run pins s σ H Q I (i Q σ H q)⟩
end

/-! ### operations -/
/-- an operation on two values that does what f says -/
def r2 {α β : Type} (G : Ad) (rep : PN → Hp → β → α → Prop) (E : XK) (f : D → D → Option α) (x y : V) (H : Hp) (Q : β → Hp → Prop) : Prop :=
  ∃ F pn p d e, FOk G F H pn p ∧ Rep G pn F x d ∧ Rep G pn F y e ∧ Out G (rep pn) E pn F H (R.of (f d e) p) Q
section
variable {X : Cx} {G : Ad} {E : XK}
theorem upd_fresh {F H : Hp} {p : Addr} {o : HO} (s : Same F H) (hn : H p = none) : F p = none := s.free hn

def opOf : BOp → Operator
  | .add => .Add | .sub => .Sub | .mul => .Mult | .fdiv => .FloorDiv | .mod => .Mod | .pow => .Pow
def copOf : COp → CmpOp
  | .eq => .Eq | .ne => .NotEq | .lt => .Lt | .le => .LtE | .gt => .Gt | .ge => .GtE | .is_ => .Is | .isnot => .IsNot
mutual
theorem Rep.dp {K : PySem.W.Frag} {pn : PN} {F H : Hp} (s : Same F H) : ∀ {v : V} {d : D}, Rep G pn F v d → d.py.canLay0 = true → Dp K H v d.py
  | _, _, .non, _ => .non
  | _, _, .bl b, _ => .bl b
  | _, _, .int i, _ => .int i
  | _, _, .str x, _ => .str x
  | _, _, .tup e r, h => .tup (.inl (.inl (s _ _ e))) (Reps.dp s r (by simpa [D.py, PyData.canLay0] using h))
  | _, _, .lst e r, h => .lst (.inl (.inl (s _ _ e))) (Reps.dp s r (by simpa [D.py, PyData.canLay0] using h))
  | _, _, .obj _ _ _ _, h => by simp [D.py, PyData.canLay0] at h
  | _, _, .fn k, h => by simp [D.py, PyData.canLay0] at h
  | _, _, .pen _, h => by simp [D.py, PyData.canLay0] at h
theorem Reps.dp {K : PySem.W.Frag} {pn : PN} {F H : Hp} (s : Same F H) : ∀ {vs : List V} {ds : List D}, Reps G pn F vs ds → PyData.canLayAll0 (pyAll ds) = true → DpAll K H vs (pyAll ds)
  | _, _, .nil, _ => .nil
  | _, _, .cons r t, h => by
    simp only [pyAll, PyData.canLayAll0, Bool.and_eq_true] at h
    exact .cons (Rep.dp s r h.1) (Reps.dp s t h.2)
end
theorem Rep.dpS {K : PySem.W.Frag} {pn : PN} {F H : Hp} {v : V} {d : D} (r : Rep G pn F v d) (s : Same F H) (h : SeqAt.shaped d.py = true) : Dp K H v d.py := r.dp s (SeqAt.canLay_of_shaped h)

theorem opR_eq (hu : X.A.units + 64 < cLine) : OpR X (compareOp .Eq) (r2 G (rD G) E (fun d e => (deq d e).map D.bl)) := by
  intro pins s σ H x y v u Q I rx ry ⟨F, pn, p, d, e, fk, h1, h2, o⟩
  obtain ⟨z, ez, o⟩ := o.ofH
  dsimp only [deq] at ez
  by_cases hs : (SeqAt.shaped d.py && SeqAt.shaped e.py) = true
  · rw [if_pos hs] at ez
    simp only [Bool.and_eq_true] at hs
    cases ez
    exact op_eqD hu pins s σ H x y v u Q I rx ry ⟨_, _, h1.dpS fk.sub hs.1, h2.dpS fk.sub hs.2, hs.1, hs.2, o.here fk (.bl _)⟩
  · rw [if_neg hs] at ez; cases ez
theorem opR_ne (hu : X.A.units + 64 < cLine) : OpR X (compareOp .NotEq) (r2 G (rD G) E (fun d e => ((deq d e).map (!·)).map D.bl)) := by
  intro pins s σ H x y v u Q I rx ry ⟨F, pn, p, d, e, fk, h1, h2, o⟩
  obtain ⟨z, ez, o⟩ := o.ofH
  dsimp only [deq] at ez
  by_cases hs : (SeqAt.shaped d.py && SeqAt.shaped e.py) = true
  · rw [if_pos hs] at ez
    simp only [Bool.and_eq_true] at hs
    cases ez
    exact op_neD hu pins s σ H x y v u Q I rx ry ⟨_, _, h1.dpS fk.sub hs.1, h2.dpS fk.sub hs.2, hs.1, hs.2, o.here fk (.bl _)⟩
  · rw [if_neg hs] at ez; cases ez
theorem Rep.isNon {pn : PN} {F : Hp} {v : V} {d : D} (r : Rep G pn F v d) : decide (v = V.non) = d.isNon := by
  cases r <;> simp [D.isNon]
theorem opR_cmp (hu : X.A.units + 64 < cLine) (o : COp) : OpR X (compareOp (copOf o)) (r2 G (rD G) E (fun d e => (cmpV o d e).map D.bl)) := by
  cases o with
  | eq => exact opR_eq hu
  | ne => exact opR_ne hu
  | lt =>
    intro pins s σ H x y v u Q I rx ry ⟨F, pn, p, d, e, fk, h1, h2, o⟩
    obtain ⟨z, ez, o⟩ := o.ofH
    cases d <;> cases e <;> simp only [cmpV, Option.map_some, Option.map_none] at ez <;> cases ez
    cases h1; cases h2
    exact op_lt pins s σ H _ _ v u Q I rx ry ⟨_, _, rfl, rfl, o.here fk (.bl _)⟩
  | le =>
    intro pins s σ H x y v u Q I rx ry ⟨F, pn, p, d, e, fk, h1, h2, o⟩
    obtain ⟨z, ez, o⟩ := o.ofH
    cases d <;> cases e <;> simp only [cmpV, Option.map_some, Option.map_none] at ez <;> cases ez
    cases h1; cases h2
    exact op_le pins s σ H _ _ v u Q I rx ry ⟨_, _, rfl, rfl, o.here fk (.bl _)⟩
  | gt =>
    intro pins s σ H x y v u Q I rx ry ⟨F, pn, p, d, e, fk, h1, h2, o⟩
    obtain ⟨z, ez, o⟩ := o.ofH
    cases d <;> cases e <;> simp only [cmpV, Option.map_some, Option.map_none] at ez <;> cases ez
    cases h1; cases h2
    exact op_gt pins s σ H _ _ v u Q I rx ry ⟨_, _, rfl, rfl, o.here fk (.bl _)⟩
  | ge =>
    intro pins s σ H x y v u Q I rx ry ⟨F, pn, p, d, e, fk, h1, h2, o⟩
    obtain ⟨z, ez, o⟩ := o.ofH
    cases d <;> cases e <;> simp only [cmpV, Option.map_some, Option.map_none] at ez <;> cases ez
    cases h1; cases h2
    exact op_ge pins s σ H _ _ v u Q I rx ry ⟨_, _, rfl, rfl, o.here fk (.bl _)⟩
  | is_ =>
    intro pins s σ H x y v u Q I rx ry ⟨F, pn, p, d, e, fk, h1, h2, o⟩
    obtain ⟨z, ez, o⟩ := o.ofH
    cases e with
    | non =>
      have ez : (some (d.isNon)).map D.bl = some z := by cases d <;> exact ez
      cases ez
      cases h2
      exact op_isN pins s σ H _ _ v u Q I rx ry ⟨rfl, by rw [h1.isNon]; exact o.here fk (.bl _)⟩
    | bl b =>
      cases h2
      cases (show u = Value.bool b from ry)
      cases h1 with
      | bl a =>
        cases ez
        exact op_isBl pins s σ H _ _ v _ Q I rx (show L2.RelV (V.bl b) (Value.bool b) from rfl) ⟨_, _, rfl, rfl, o.here fk (.bl _)⟩
      | fn k => cases ez
      | pen e => cases ez
      | non => cases ez; cases (show v = Value.none from rx); exact wpAny_is_other rfl (fun z => by cases z) ⟨.bl false, H, I, rfl, o.here fk (.bl _)⟩
      | int i => cases ez; obtain ⟨t, rfl⟩ := (show ∃ t, v = Value.int i t from rx); exact wpAny_is_other rfl (fun z => by cases z) ⟨.bl false, H, I, rfl, o.here fk (.bl _)⟩
      | str i => cases ez; obtain ⟨t, rfl⟩ := (show ∃ t, v = Value.str i t from rx); exact wpAny_is_other rfl (fun z => by cases z) ⟨.bl false, H, I, rfl, o.here fk (.bl _)⟩
      | tup e r => cases ez; cases rx; exact wpAny_is_other rfl (fun z => by cases z) ⟨.bl false, H, I, rfl, o.here fk (.bl _)⟩
      | lst e r => cases ez; cases rx; exact wpAny_is_other rfl (fun z => by cases z) ⟨.bl false, H, I, rfl, o.here fk (.bl _)⟩
      | obj hc e l r => cases ez; cases rx; exact wpAny_is_other rfl (fun z => by cases z) ⟨.bl false, H, I, rfl, o.here fk (.bl _)⟩
    | _ => cases d <;> simp only [cmpV, Option.map_some, Option.map_none] at ez <;> cases ez
  | isnot =>
    intro pins s σ H x y v u Q I rx ry ⟨F, pn, p, d, e, fk, h1, h2, o⟩
    obtain ⟨z, ez, o⟩ := o.ofH
    cases e with
    | non =>
      have ez : (some (!d.isNon)).map D.bl = some z := by cases d <;> exact ez
      cases ez
      cases h2
      exact op_notN pins s σ H _ _ v u Q I rx ry ⟨rfl, by rw [h1.isNon]; exact o.here fk (.bl _)⟩
    | bl b =>
      cases h2
      cases (show u = Value.bool b from ry)
      cases h1 with
      | bl a =>
        cases ez
        exact op_notBl pins s σ H _ _ v _ Q I rx (show L2.RelV (V.bl b) (Value.bool b) from rfl) ⟨_, _, rfl, rfl, o.here fk (.bl _)⟩
      | fn k => cases ez
      | pen e => cases ez
      | non => cases ez; cases (show v = Value.none from rx); exact wpAny_isNot_other rfl (fun z => by cases z) ⟨.bl true, H, I, rfl, o.here fk (.bl _)⟩
      | int i => cases ez; obtain ⟨t, rfl⟩ := (show ∃ t, v = Value.int i t from rx); exact wpAny_isNot_other rfl (fun z => by cases z) ⟨.bl true, H, I, rfl, o.here fk (.bl _)⟩
      | str i => cases ez; obtain ⟨t, rfl⟩ := (show ∃ t, v = Value.str i t from rx); exact wpAny_isNot_other rfl (fun z => by cases z) ⟨.bl true, H, I, rfl, o.here fk (.bl _)⟩
      | tup e r => cases ez; cases rx; exact wpAny_isNot_other rfl (fun z => by cases z) ⟨.bl true, H, I, rfl, o.here fk (.bl _)⟩
      | lst e r => cases ez; cases rx; exact wpAny_isNot_other rfl (fun z => by cases z) ⟨.bl true, H, I, rfl, o.here fk (.bl _)⟩
      | obj hc e l r => cases ez; cases rx; exact wpAny_isNot_other rfl (fun z => by cases z) ⟨.bl true, H, I, rfl, o.here fk (.bl _)⟩
    | _ => cases d <;> simp only [cmpV, Option.map_some, Option.map_none] at ez <;> cases ez
end
end Mi

set_option Elab.async false
set_option linter.all false
set_option maxRecDepth 100000
set_option maxHeartbeats 4000000
namespace L2
open PySem PySem.Spec PyProof.Rows
theorem tuple_mulS (l : Addr) (items : Array Value) (n : Nat) (dd : Option Addr) (sl : Array (Option Value)) (x : Int) (u : Tok) (c0 : (decide (x < -(2 ^ 63)) || decide (x ≥ 2 ^ 63)) = false) (c1 : (items.isEmpty || x == 1) = true) :
    Meets (Builtin.«tuple.__mul__» ⟨[.ref l, .int x u], []⟩) (fun _ R s => s.heap.get? l = some { cls := .type "tuple", dict := dd, data := .seq items n, slots := sl } ∧
      R (.ok (.ret (Value.ref l))) s) :=
  .of_wp fun prog w A R s h => by
    obtain ⟨hp, g, d, tk, os⟩ := s
    obtain ⟨hl, h⟩ := h
    have f1 := AutoSeq1.idx_int
    wp_walk using wpAny_loadPart' hl
    repeat (first
      | (refine wpAny_ite_false (decide_eq_false (by rw [c0]; exact Bool.false_ne_true)) ?_; wp_walk using wpAny_loadPart' hl)
      | (refine wpAny_ite_true (decide_eq_true c1) ?_; wp_walk using wpAny_loadPart' hl))
    exact ⟨_, rfl, h⟩
theorem tuple_mulZ (l : Addr) (items : Array Value) (n : Nat) (dd : Option Addr) (sl : Array (Option Value)) (x : Int) (u : Tok) (c0 : (decide (x < -(2 ^ 63)) || decide (x ≥ 2 ^ 63)) = false) (c1 : (items.isEmpty || x == 1) = false) (c2 : (decide (x ≤ 0) || items.isEmpty) = true) :
    Meets (Builtin.«tuple.__mul__» ⟨[.ref l, .int x u], []⟩) (fun _ R s => s.heap.get? l = some { cls := .type "tuple", dict := dd, data := .seq items n, slots := sl } ∧
      R (.ok (.ret (Value.ref s.heap.objs.size))) { s with heap := s.heap.push { cls := Value.type "tuple", data := Data.seq #[] }, toks := s.toks }) :=
  .of_wp fun prog w A R s h => by
    obtain ⟨hp, g, d, tk, os⟩ := s
    obtain ⟨hl, h⟩ := h
    have f1 := AutoSeq1.idx_int
    wp_walk using wpAny_loadPart' hl
    repeat (first
      | (refine wpAny_ite_false (decide_eq_false (by rw [c0]; exact Bool.false_ne_true)) ?_; wp_walk using wpAny_loadPart' hl)
      | (refine wpAny_ite_false (decide_eq_false (by rw [c1]; exact Bool.false_ne_true)) ?_; wp_walk using wpAny_loadPart' hl)
      | (refine wpAny_ite_true (decide_eq_true c2) ?_; wp_walk using wpAny_loadPart' hl))
    exact ⟨_, rfl, h⟩
/-- t * k for every small k from 0 on -/
def rRepA (K : PySem.W.Frag) : R2 := fun x y H Q => ∃ l k xs, x = .ref l ∧ y = .int k ∧ SqT K H l xs ∧ 0 ≤ k ∧ k ≤ 1000 ∧ xs.length ≤ 1000 ∧
  (xs = [] ∨ k = 1 → Q (.ref l) H) ∧ (¬ (xs = [] ∨ k = 1) → ∀ p, H p = none → Q (.ref p) (upd H p (.tup (List.replicate k.toNat xs).flatten)))
section
variable {X : Cx}
theorem op_repA : OpR X (binaryOp .Mult) (rRepA X.K) := by
  intro pins s σ H x y v u Q I rx ry h
  obtain ⟨l, k, xs, rfl, rfl, hT, h1, h2, hz, q1, q2⟩ := h
  by_cases hs : xs = [] ∨ k = 1
  · have q := q1 hs
    cases rx
    obtain ⟨t, rfl⟩ := ry
    obtain ⟨its, r, ⟨⟨cls, dd, data, sl⟩, ho, hc, n, hd⟩, hs'⟩ := I.tuple hT
    simp only at hc hd
    subst hc hd
    have c0 : (decide (k < -(2 ^ 63)) || decide (k ≥ 2 ^ 63)) = false := by
      rw [decide_eq_false (by omega), decide_eq_false (by omega)] <;> rfl
    have c1 : (its.toArray.isEmpty || k == 1) = true := by
      rcases hs with e | e
      · subst e; cases r; rfl
      · rw [e]; simp
    exact wpAny_binaryOp_repeat_ref (T := "tuple") (U := "int") (by decide) ⟨_, ho, rfl⟩ (fun s' => typeIs_int s' k t) noFill_tuple_mul F.fills_int_mul F.slot_int_rmul repeat_tuple F.slot_int_index.lookup
      (call_meets F.slot_int_rmul (typeIs_int s k t) F.entry_int_rmul (F.args_int_rmul_2 _ _) (int_rmul_tuple k t l its.toArray n dd sl)
        ⟨ho, rfl, ⟨_, ho, rfl⟩, call_meets F.slot_tuple_mul ⟨_, ho, rfl⟩ F.entry_tuple_mul (F.args_tuple_mul_2 _ _) (tuple_mulS l its.toArray n dd sl k t c0 c1) ⟨ho, ⟨.ref l, H, I, rfl, q⟩⟩⟩)
  · have hne : xs ≠ [] := fun e => hs (.inl e)
    have hk : k ≠ 1 := fun e => hs (.inr e)
    by_cases hk0 : k = 0
    · subst hk0
      have q := q2 hs
      cases rx
      obtain ⟨t, rfl⟩ := ry
      obtain ⟨its, r, ⟨⟨cls, dd, data, sl⟩, ho, hc, n, hd⟩, hs'⟩ := I.tuple hT
      simp only at hc hd
      subst hc hd
      have hi : its.toArray.isEmpty = false := by
        cases r with
        | nil => exact absurd rfl hne
        | cons _ _ => rfl
      have c1 : (its.toArray.isEmpty || (0 : Int) == 1) = false := by rw [hi]; rfl
      have c2 : (decide ((0 : Int) ≤ 0) || its.toArray.isEmpty) = true := by simp
      refine wpAny_binaryOp_repeat_ref (T := "tuple") (U := "int") (by decide) ⟨_, ho, rfl⟩ (fun s' => typeIs_int s' 0 t) noFill_tuple_mul F.fills_int_mul F.slot_int_rmul repeat_tuple F.slot_int_index.lookup
        (call_meets F.slot_int_rmul (typeIs_int s 0 t) F.entry_int_rmul (F.args_int_rmul_2 _ _) (int_rmul_tuple 0 t l its.toArray n dd sl)
          ⟨ho, rfl, ⟨_, ho, rfl⟩, call_meets F.slot_tuple_mul ⟨_, ho, rfl⟩ F.entry_tuple_mul (F.args_tuple_mul_2 _ _) (tuple_mulZ l its.toArray n dd sl 0 t (by decide) c1 c2) ⟨ho, ?_⟩⟩)
      refine ⟨.ref s.heap.objs.size, _, I.laid (t' := s.toks) (o := .tup []) (fun b ob q => Heap.get?_push_of_some _ q) (Nat.le_refl _) ?_, rfl, q _ (I.hok.fresh (Nat.le_refl _))⟩
      exact ⟨by rw [sizeLine_eq]; decide, [], .nil, IsTup.new _ _⟩
    · exact op_repT pins s σ H _ _ v u Q I rx ry ⟨l, k, xs, rfl, rfl, hT, hne, by omega, h2, hz, q2 hs⟩
end
end L2

set_option Elab.async false
set_option linter.all false
set_option maxRecDepth 100000
namespace Mi
open PySem PySem.Spec PyProof.Rows L2
section
variable {X : Cx} {G : Ad} {E : XK}
/-- a value at a new place -/
theorem Out.new {pn : PN} {F H : Hp} {p : PenS} {a : Addr} {o : HO} {d : D} {Q : V → Hp → Prop} (fk : FOk G F H pn p) (h : Out G (rD G pn) E pn F H (.ok d p) Q) (hn : H a = none)
    (r : Rep G pn (upd F a o) (.ref a) d) (ho : plainO o := by trivial) : Q (.ref a) (upd H a o) := h _ _ _ (Step.laid fk hn ho) r
theorem same_upd {F : Hp} {a : Addr} {o : HO} (hn : F a = none) : Same F (upd F a o) := fun b u e => by
  rw [upd_ne (ne_of_none e hn)]; exact e
theorem Reps.nil_iff {pn : PN} {F : Hp} {vs : List V} {ds : List D} (r : Reps G pn F vs ds) : vs = [] ↔ ds = [] := by
  cases r <;> simp
theorem opR_bin (op : BOp) : OpR X (binaryOp (opOf op)) (r2 G (rD G) E (bin op)) := by
  intro pins s σ H x y v u Q I rx ry ⟨F, pn, p, d, e, fk, h1, h2, o0⟩
  obtain ⟨z, ez, o⟩ := o0.ofH
  clear o0
  cases op with
  | add =>
    cases d with
    | int i =>
      cases e <;> simp only [bin] at ez <;> cases ez
      cases h1; cases h2
      exact op_add pins s σ H _ _ v u Q I rx ry ⟨_, _, rfl, rfl, o.here fk (.int _)⟩
    | tup xs =>
      cases e with
      | tup ys =>
        simp only [bin] at ez
        split at ez
        · rename_i hz
          cases ez
          obtain ⟨a, vs, rfl, e1, r1⟩ := h1.tup_inv
          obtain ⟨b, ws, rfl, e2, r2⟩ := h2.tup_inv
          refine op_catA pins s σ H _ _ v u Q I rx ry ⟨a, b, vs, ws, rfl, rfl, .inl (.inl (fk.sub _ _ e1)), .inl (.inl (fk.sub _ _ e2)), by rw [r1.length, r2.length]; exact hz, fun hx => ?_, fun hx hy => ?_, fun hx hy a hn => ?_⟩
          · have : xs = [] := r1.nil_iff.mp hx
            subst this
            exact o.here fk (.tup e2 r2)
          · have : ys = [] := r2.nil_iff.mp hy
            subst this
            rw [List.append_nil] at o
            exact o.here fk (.tup e1 r1)
          · have hF := fk.sub.free hn
            exact o.new fk hn (.tup upd_same ((r1.append r2).mono (same_upd hF)))
        · cases ez
      | _ => simp only [bin] at ez; cases ez
    | lst xs =>
      cases e with
      | lst ys =>
        simp only [bin] at ez
        split at ez
        · rename_i hz
          cases ez
          obtain ⟨a, vs, rfl, e1, r1⟩ := h1.lst_inv
          obtain ⟨b, ws, rfl, e2, r2⟩ := h2.lst_inv
          refine op_cat pins s σ H _ _ v u Q I rx ry ⟨a, b, vs, ws, rfl, rfl, fk.sub _ _ e1, fk.sub _ _ e2, by rw [r1.length, r2.length]; exact hz, fun a hn => ?_⟩
          exact o.new fk hn (.lst upd_same ((r1.append r2).mono (same_upd (fk.sub.free hn))))
        · cases ez
      | _ => simp only [bin] at ez; cases ez
    | _ => cases e <;> simp only [bin] at ez <;> cases ez
  | sub =>
    cases d <;> cases e <;> simp only [bin] at ez <;> cases ez
    cases h1; cases h2
    exact op_sub pins s σ H _ _ v u Q I rx ry ⟨_, _, rfl, rfl, o.here fk (.int _)⟩
  | mul =>
    cases d with
    | int i =>
      cases e with
      | int j =>
        simp only [bin] at ez
        split at ez
        · rename_i hz
          cases ez
          cases h1; cases h2
          rcases hz with hz | hz
          · exact op_mul pins s σ H _ _ v u Q I rx ry ⟨_, _, rfl, rfl, hz, o.here fk (.int _)⟩
          · exact op_mulW pins s σ H _ _ v u Q I rx ry ⟨_, _, rfl, rfl, hz, o.here fk (.int _)⟩
        · cases ez
      | _ => simp only [bin] at ez; cases ez
    | tup xs =>
      cases e with
      | int k =>
        simp only [bin] at ez
        split at ez
        · rename_i hz
          cases ez
          cases h2
          obtain ⟨a, vs, rfl, e1, r1⟩ := h1.tup_inv
          refine op_repA pins s σ H _ _ v u Q I rx ry ⟨a, k, vs, rfl, rfl, .inl (.inl (fk.sub _ _ e1)), hz.1, hz.2.1, by rw [r1.length]; exact hz.2.2, fun hs => ?_, fun _ b hn => ?_⟩
          · have : (List.replicate k.toNat xs).flatten = xs := by
              rcases hs with hs | hs
              · have : xs = [] := r1.nil_iff.mp hs
                subst this; simp
              · subst hs; simp
            rw [this] at o
            exact o.here fk (.tup e1 r1)
          · exact o.new fk hn (.tup upd_same ((r1.rep _).mono (same_upd (fk.sub.free hn))))
        · cases ez
      | _ => simp only [bin] at ez; cases ez
    | lst xs =>
      cases e with
      | int k =>
        simp only [bin] at ez
        split at ez
        · rename_i hz
          cases ez
          cases h2
          obtain ⟨a, vs, rfl, e1, r1⟩ := h1.lst_inv
          refine op_rep pins s σ H _ _ v u Q I rx ry ⟨a, k, vs, rfl, rfl, fk.sub _ _ e1, by omega, by omega, by rw [r1.length]; exact hz.2.2, fun b hn => ?_⟩
          exact o.new fk hn (.lst upd_same ((r1.rep _).mono (same_upd (fk.sub.free hn))))
        · cases ez
      | _ => simp only [bin] at ez; cases ez
    | _ => cases e <;> simp only [bin] at ez <;> cases ez
  | fdiv =>
    cases d with
    | int i =>
      cases e with
      | int j =>
        simp only [bin] at ez
        split at ez
        · rename_i hz
          cases ez
          cases h1; cases h2
          rcases hz with hz | hz
          · exact op_fdivN pins s σ H _ _ v u Q I rx ry ⟨_, _, rfl, rfl, hz, o.here fk (.int _)⟩
          · refine op_fdivW pins s σ H _ _ v u Q I rx ry ⟨_, _, rfl, rfl, hz, ?_⟩
            have h0 : (0 : Int) < j := hz.1
            rw [Int.fdiv_eq_ediv_of_nonneg i (by omega)] at o
            exact o.here fk (.int _)
        · cases ez
      | _ => simp only [bin] at ez; cases ez
    | _ => cases e <;> simp only [bin] at ez <;> cases ez
  | mod =>
    cases d with
    | int i =>
      cases e with
      | int j =>
        simp only [bin] at ez
        split at ez
        · rename_i hz
          cases ez
          cases h1; cases h2
          exact op_modN pins s σ H _ _ v u Q I rx ry ⟨_, _, rfl, rfl, hz, o.here fk (.int _)⟩
        · cases ez
      | _ => simp only [bin] at ez; cases ez
    | _ => cases e <;> simp only [bin] at ez <;> cases ez
  | pow =>
    cases d with
    | int i =>
      cases e with
      | int j =>
        simp only [bin] at ez
        split at ez
        · rename_i hz
          cases ez
          cases h1; cases h2
          exact op_pow pins s σ H _ _ v u Q I rx ry ⟨_, _, rfl, rfl, hz, o.here fk (.int _)⟩
        · cases ez
      | _ => simp only [bin] at ez; cases ez
    | _ => cases e <;> simp only [bin] at ez <;> cases ez

/-! ### subscripts, slices -/
theorem Reps.atI {pn : PN} {F : Hp} {vs : List V} {ds : List D} {i : Int} {d : D} (r : Reps G pn F vs ds) (h : atI ds i = some d) : ∃ v, L2.atI vs i = some v ∧ Rep G pn F v d := by
  unfold L2.atI at h ⊢
  rw [r.length]
  cases q : ixN ds.length i with
  | none => rw [q] at h; cases h
  | some j =>
    rw [q] at h
    exact r.get h
theorem ixR : IxR X (r2 G (rD G) E idx) := by
  intro value slice pins s σ H x y v u Q I rx ry ⟨F, pn, p, d, e, fk, h1, h2, o0⟩ hs
  obtain ⟨z, ez, o⟩ := o0.ofH
  clear o0
  cases d with
  | tup xs =>
    cases e <;> simp only [idx] at ez <;> try cases ez
    cases h2
    obtain ⟨a, vs, rfl, e1, r1⟩ := h1.tup_inv
    obtain ⟨w, hw, rw'⟩ := r1.atI ez
    exact ix_tup value slice pins s σ H _ _ v u Q I rx ry ⟨a, vs, _, w, rfl, rfl, .inl (.inl (fk.sub _ _ e1)), hw, o.here fk rw'⟩ hs
  | lst xs =>
    cases e <;> simp only [idx] at ez <;> try cases ez
    cases h2
    obtain ⟨a, vs, rfl, e1, r1⟩ := h1.lst_inv
    obtain ⟨w, hw, rw'⟩ := r1.atI ez
    exact ix_list value slice pins s σ H _ _ v u Q I rx ry ⟨a, vs, _, w, rfl, rfl, .inl (.inl (fk.sub _ _ e1)), hw, o.here fk rw'⟩ hs
  | _ => cases e <;> simp only [idx] at ez <;> cases ez
def rSlice (G : Ad) (E : XK) (x : V) (lo hi : Option Int) (H : Hp) (Q : VK) : Prop :=
  ∃ F pn p d, FOk G F H pn p ∧ Rep G pn F x d ∧ Out G (rD G pn) E pn F H (R.of (slc d lo hi) p) Q
theorem Reps.cut {pn : PN} {F : Hp} {vs : List V} {ds : List D} (r : Reps G pn F vs ds) (lo hi : Option Int) : Reps G pn F (cutV vs lo hi) (cutD ds lo hi) := by
  unfold cutV cutD
  rw [r.length]
  exact (r.drop _).take _
theorem slR : SlR X (rSlice G E) := by
  intro pins s σ H x v vl vu lo hi sl Q I rx hs pl pu ⟨F, pn, p, d, fk, h1, o0⟩
  obtain ⟨z, ez, o⟩ := o0.ofH
  clear o0
  cases d with
  | tup xs =>
    simp only [slc] at ez
    cases ez
    obtain ⟨a, vs, rfl, e1, r1⟩ := h1.tup_inv
    refine sl_tupA pins s σ H _ v vl vu lo hi sl Q I rx hs pl pu ⟨a, vs, rfl, .inl (.inl (fk.sub _ _ e1)), fun hw => ?_, fun _ b hn => ?_⟩
    · have : cutD xs lo hi = xs := by
        unfold cutD
        rw [r1.length] at hw
        rw [hw.1, hw.2, List.drop_zero, Nat.sub_zero, List.take_length]
      rw [this] at o
      exact o.here fk (.tup e1 r1)
    · exact o.new fk hn (.tup upd_same ((r1.cut lo hi).mono (same_upd (fk.sub.free hn))))
  | lst xs =>
    simp only [slc] at ez
    cases ez
    obtain ⟨a, vs, rfl, e1, r1⟩ := h1.lst_inv
    refine sl_list pins s σ H _ v vl vu lo hi sl Q I rx hs pl pu ⟨a, vs, rfl, .inl (.inl (fk.sub _ _ e1)), fun b hn => ?_⟩
    exact o.new fk hn (.lst upd_same ((r1.cut lo hi).mono (same_upd (fk.sub.free hn))))
  | _ => simp only [slc] at ez; cases ez

/-! ### truth -/
theorem Rep.tru {K : PySem.W.Frag} {pn : PN} {F H : Hp} {v : V} {d : D} {b : Bool} (s : Same F H) (r : Rep G pn F v d) (h : truth d = some b) : TruV K v H b := by
  cases r with
  | non => cases h; rfl
  | bl b' => cases h; rfl
  | int i => cases h; rfl
  | str x => cases h
  | tup e r =>
    cases h
    refine .inr (.inl ⟨_, .inl (.inl (s _ _ e)), ?_⟩)
    cases r <;> rfl
  | lst e r =>
    cases h
    refine .inl ⟨_, .inl (.inl (s _ _ e)), ?_⟩
    cases r <;> rfl
  | obj c e l r => cases h
  | fn k => cases h
  | pen e => cases h

/-! ### built-in functions -/
def bfName : BF → Str
  | .repr => "repr" | .len => "len" | .tuple => "tuple" | .list => "list" | .int => "int" | .abs => "abs" | .max => "max" | .min => "min" | .sum => "sum" | .all => "all" | .any => "any" | .sorted => "sorted"
def bfVal : BF → Value
  | .repr => .builtin "repr" | .len => .builtin "len" | .tuple => .type "tuple" | .list => .type "list" | .int => .type "int" | .abs => .builtin "abs" | .max => .builtin "max" | .min => .builtin "min" | .sum => .builtin "sum" | .all => .builtin "all" | .any => .builtin "any" | .sorted => .builtin "sorted"
def rCall (G : Ad) (E : XK) (f : List D → Option D) (xs : List V) (H : Hp) (Q : VK) : Prop :=
  ∃ F pn p ds, FOk G F H pn p ∧ Reps G pn F xs ds ∧ Out G (rD G pn) E pn F H (R.of (f ds) p) Q
theorem Reps.one {pn : PN} {F : Hp} {vs : List V} {d : D} (r : Reps G pn F vs [d]) : ∃ v, vs = [v] ∧ Rep G pn F v d := by
  cases r with | cons a b => cases b; exact ⟨_, rfl, a⟩
theorem Reps.two {pn : PN} {F : Hp} {vs : List V} {d e : D} (r : Reps G pn F vs [d, e]) : ∃ v w, vs = [v, w] ∧ Rep G pn F v d ∧ Rep G pn F w e := by
  cases r with | cons a b => cases b with | cons b c => cases c; exact ⟨_, _, rfl, a, b⟩
def repr1 : List D → Option D
  | [d] => reprD d
  | _ => none
theorem callR_repr : CallR X (.builtin "repr") (rCall G E repr1) := by
  rintro pins s σ H xs us Q I rs ⟨F, pn, p, ds, fk, hr, o0⟩
  obtain ⟨z, ez, o⟩ := o0.ofH
  clear o0
  rcases ds with _ | ⟨d, _ | ⟨e, ds⟩⟩
  · simp [repr1] at ez
  · obtain ⟨v, rfl, r⟩ := hr.one
    obtain ⟨u, rfl, ru⟩ := vals1 rs
    cases d with
    | non => cases ez; cases r; cases (show u = Value.none from ru); exact PySem.P.repr_of_none ⟨.str _, H, I.tok _, ⟨_, rfl⟩, o.here fk (.str _)⟩
    | bl b => cases ez; cases r; cases (show u = Value.bool b from ru); exact PySem.P.repr_of_bool ⟨.str _, H, I.tok _, ⟨_, rfl⟩, o.here fk (.str _)⟩
    | int i =>
      simp only [repr1, reprD] at ez
      split at ez
      · rename_i hz
        cases ez; cases r; obtain ⟨t, rfl⟩ := (show ∃ t, u = Value.int i t from ru)
        exact PySem.P.repr_of_int hz ⟨.str _, H, I.tok _, ⟨_, rfl⟩, o.here fk (.str _)⟩
      · cases ez
    | str x =>
      simp only [repr1, reprD] at ez
      split at ez
      · rename_i hz
        cases ez; cases r; obtain ⟨t, rfl⟩ := (show ∃ t, u = Value.str x t from ru)
        exact PySem.P.repr_of_str ⟨.str _, H, I.tok _, ⟨_, rfl⟩, o.here fk (.str _)⟩ hz
      · cases ez
    | _ => simp [repr1, reprD] at ez
  · simp [repr1] at ez
theorem foldl_max (xs : List Int) : ∀ (x : Int), (∀ y ∈ x :: xs, y ≤ xs.foldl (fun m y => if m < y then y else m) x) ∧ xs.foldl (fun m y => if m < y then y else m) x ∈ x :: xs := by
  induction xs with
  | nil => intro x; simp
  | cons z zs ih =>
    intro x
    simp only [List.foldl_cons]
    obtain ⟨h1, h2⟩ := ih (if x < z then z else x)
    have hx := h1 (if x < z then z else x) (by simp)
    refine ⟨fun y hy => ?_, ?_⟩
    · simp only [List.mem_cons] at hy
      rcases hy with rfl | rfl | hy
      · split at hx <;> rename_i q
        · simp only [q, if_true]; omega
        · simp only [q, if_false]; exact hx
      · split at hx <;> rename_i q
        · simp only [q, if_true]; exact hx
        · simp only [q, if_false]; omega
      · exact h1 y (by simp [hy])
    · simp only [List.mem_cons] at h2 ⊢
      rcases h2 with h2 | h2
      · rw [h2]; split <;> simp
      · exact .inr (.inr h2)
theorem foldl_min (xs : List Int) : ∀ (x : Int), (∀ y ∈ x :: xs, xs.foldl (fun m y => if y < m then y else m) x ≤ y) ∧ xs.foldl (fun m y => if y < m then y else m) x ∈ x :: xs := by
  induction xs with
  | nil => intro x; simp
  | cons z zs ih =>
    intro x
    simp only [List.foldl_cons]
    obtain ⟨h1, h2⟩ := ih (if z < x then z else x)
    have hx := h1 (if z < x then z else x) (by simp)
    refine ⟨fun y hy => ?_, ?_⟩
    · simp only [List.mem_cons] at hy
      rcases hy with rfl | rfl | hy
      · split at hx <;> rename_i q
        · simp only [q, if_true]; omega
        · simp only [q, if_false]; exact hx
      · split at hx <;> rename_i q
        · simp only [q, if_true]; exact hx
        · simp only [q, if_false]; omega
      · exact h1 y (by simp [hy])
    · simp only [List.mem_cons] at h2 ⊢
      rcases h2 with h2 | h2
      · rw [h2]; split <;> simp
      · exact .inr (.inr h2)
theorem sorted_unique {xs ys : List Int} (h : xs.Perm ys) (hx : xs.Pairwise (· ≤ ·)) (hy : ys.Pairwise (· ≤ ·)) : xs = ys := h.eq_of_pairwise (fun a b _ _ h1 h2 => Int.le_antisymm h1 h2) hx hy
theorem callR_bf (hc : X.calm = true) (f : BF) : CallR X (bfVal f) (rCall G E (bfn f)) := by
  intro pins s σ H xs us Q I rs ⟨F, pn, p, ds, fk, hr, o0⟩
  obtain ⟨z, ez, o⟩ := o0.ofH
  clear o0
  cases f with
  | repr =>
    refine callR_repr (G := G) (E := E) pins s σ H xs us Q I rs ⟨F, pn, p, ds, fk, hr, ?_⟩
    have e : repr1 ds = some z := by
      rcases ds with _ | ⟨d, _ | ⟨e, ds⟩⟩
      · simp [bfn] at ez
      · exact ez
      · simp [bfn] at ez
    rw [e]
    exact o
  | len =>
    rcases ds with _ | ⟨d, _ | ⟨e, ds⟩⟩
    · simp [bfn] at ez
    · obtain ⟨v, rfl, r⟩ := hr.one
      cases d with
      | tup ys =>
        cases ez
        obtain ⟨a, vs, rfl, e1, r1⟩ := r.tup_inv
        refine call_len_seq pins s σ H _ us Q I rs ⟨a, vs, rfl, .inr (.inl (.inl (fk.sub _ _ e1))), ?_⟩
        rw [r1.length]
        exact o.here fk (.int _)
      | lst ys =>
        cases ez
        obtain ⟨a, vs, rfl, e1, r1⟩ := r.lst_inv
        refine call_len_seq pins s σ H _ us Q I rs ⟨a, vs, rfl, .inl (.inl (.inl (fk.sub _ _ e1))), ?_⟩
        rw [r1.length]
        exact o.here fk (.int _)
      | _ => simp [bfn] at ez
    · simp [bfn] at ez
  | tuple =>
    rcases ds with _ | ⟨d, _ | ⟨e, ds⟩⟩
    · simp [bfn] at ez
    · obtain ⟨v, rfl, r⟩ := hr.one
      cases d with
      | tup ys =>
        cases ez
        obtain ⟨a, vs, rfl, e1, r1⟩ := r.tup_inv
        exact call_tuple_of pins s σ H _ us Q I rs ⟨a, vs, rfl, .inr ⟨.inl (.inl (fk.sub _ _ e1)), o.here fk (.tup e1 r1)⟩⟩
      | lst ys =>
        cases ez
        obtain ⟨a, vs, rfl, e1, r1⟩ := r.lst_inv
        refine call_tuple_of pins s σ H _ us Q I rs ⟨a, vs, rfl, .inl ⟨.inl (.inl (fk.sub _ _ e1)), fun l hn => ?_⟩⟩
        exact o.new fk hn (.tup upd_same (r1.mono (same_upd (fk.sub.free hn))))
      | _ => simp [bfn] at ez
    · simp [bfn] at ez
  | list =>
    rcases ds with _ | ⟨d, _ | ⟨e, ds⟩⟩
    · simp [bfn] at ez
    · obtain ⟨v, rfl, r⟩ := hr.one
      cases d with
      | tup ys =>
        cases ez
        obtain ⟨a, vs, rfl, e1, r1⟩ := r.tup_inv
        refine call_list_of pins s σ H _ us Q I rs ⟨a, vs, rfl, .inr (.inl (.inl (fk.sub _ _ e1))), fun l hn => ?_⟩
        exact o.new fk hn (.lst upd_same (r1.mono (same_upd (fk.sub.free hn))))
      | lst ys =>
        cases ez
        obtain ⟨a, vs, rfl, e1, r1⟩ := r.lst_inv
        refine call_list_of pins s σ H _ us Q I rs ⟨a, vs, rfl, .inl (.inl (.inl (fk.sub _ _ e1))), fun l hn => ?_⟩
        exact o.new fk hn (.lst upd_same (r1.mono (same_upd (fk.sub.free hn))))
      | _ => simp [bfn] at ez
    · simp [bfn] at ez
  | int =>
    rcases ds with _ | ⟨d, _ | ⟨e, ds⟩⟩
    · simp [bfn] at ez
    · obtain ⟨v, rfl, r⟩ := hr.one
      cases d with
      | int i => cases ez; cases r; exact call_int1 pins s σ H _ us Q I rs (.inl ⟨_, rfl, o.here fk (.int _)⟩)
      | bl i => cases ez; cases r; exact call_int1 pins s σ H _ us Q I rs (.inr ⟨_, rfl, o.here fk (.int _)⟩)
      | _ => simp [bfn] at ez
    · simp [bfn] at ez
  | abs =>
    rcases ds with _ | ⟨d, _ | ⟨e, ds⟩⟩
    · simp [bfn] at ez
    · obtain ⟨v, rfl, r⟩ := hr.one
      cases d with
      | int i => cases ez; cases r; exact call_abs pins s σ H _ us Q I rs ⟨_, rfl, o.here fk (.int _)⟩
      | _ => simp [bfn] at ez
    · simp [bfn] at ez
  | max =>
    rcases ds with _ | ⟨d, _ | ⟨e, _ | ⟨e', ds⟩⟩⟩
    · simp [bfn] at ez
    · obtain ⟨v, rfl, r⟩ := hr.one
      cases d with
      | lst ys =>
        simp only [bfn] at ez
        cases ei : intsOf ys with
        | none => rw [ei] at ez; cases ez
        | some ns =>
          rw [ei] at ez
          have := intsOf_eq ei
          subst this
          cases ns with
          | nil => simp [maxOf] at ez
          | cons n ns =>
            simp only [maxOf, Option.bind_some, Option.map_some, Option.some.injEq] at ez
            subst ez
            obtain ⟨a, vs, rfl, e1, r1⟩ := r.lst_inv
            have := reps_ints_inv r1
            subst this
            refine cr_max hc pins s σ H _ us Q I rs ⟨a, n :: ns, rfl, .inl (.inl (fk.sub _ _ e1)), by simp, fun m hm hle => ?_⟩
            obtain ⟨q1, q2⟩ := foldl_max ns n
            have : m = ns.foldl (fun m y => if m < y then y else m) n := Int.le_antisymm (q1 m hm) (hle _ q2)
            rw [this]
            exact o.here fk (.int _)
      | _ => simp [bfn] at ez
    · obtain ⟨v, w, rfl, r1, r2⟩ := hr.two
      cases d <;> cases e <;> simp only [bfn] at ez <;> cases ez
      cases r1; cases r2
      exact call_max2 hc pins s σ H _ us Q I rs ⟨_, _, rfl, o.here fk (.int _)⟩
    · simp [bfn] at ez
  | min =>
    rcases ds with _ | ⟨d, _ | ⟨e, _ | ⟨e', ds⟩⟩⟩
    · simp [bfn] at ez
    · obtain ⟨v, rfl, r⟩ := hr.one
      cases d with
      | lst ys =>
        simp only [bfn] at ez
        cases ei : intsOf ys with
        | none => rw [ei] at ez; cases ez
        | some ns =>
          rw [ei] at ez
          have := intsOf_eq ei
          subst this
          cases ns with
          | nil => simp [minOf] at ez
          | cons n ns =>
            simp only [minOf, Option.bind_some, Option.map_some, Option.some.injEq] at ez
            subst ez
            obtain ⟨a, vs, rfl, e1, r1⟩ := r.lst_inv
            have := reps_ints_inv r1
            subst this
            refine cr_min hc pins s σ H _ us Q I rs ⟨a, n :: ns, rfl, .inl (.inl (fk.sub _ _ e1)), by simp, fun m hm hle => ?_⟩
            obtain ⟨q1, q2⟩ := foldl_min ns n
            have : m = ns.foldl (fun m y => if y < m then y else m) n := Int.le_antisymm (hle _ q2) (q1 m hm)
            rw [this]
            exact o.here fk (.int _)
      | _ => simp [bfn] at ez
    · obtain ⟨v, w, rfl, r1, r2⟩ := hr.two
      cases d <;> cases e <;> simp only [bfn] at ez <;> cases ez
      cases r1; cases r2
      exact call_min2 hc pins s σ H _ us Q I rs ⟨_, _, rfl, o.here fk (.int _)⟩
    · simp [bfn] at ez
  | sum =>
    rcases ds with _ | ⟨d, _ | ⟨e, ds⟩⟩
    · simp [bfn] at ez
    · obtain ⟨v, rfl, r⟩ := hr.one
      cases d with
      | lst ys =>
        simp only [bfn, Option.map_eq_some_iff] at ez
        obtain ⟨ns, ei, rfl⟩ := ez
        have := intsOf_eq ei
        subst this
        obtain ⟨a, vs, rfl, e1, r1⟩ := r.lst_inv
        have := reps_ints_inv r1
        subst this
        exact cr_sum hc pins s σ H _ us Q I rs ⟨a, ns, rfl, .inl (.inl (fk.sub _ _ e1)), o.here fk (.int _)⟩
      | _ => simp [bfn] at ez
    · simp [bfn] at ez
  | all =>
    rcases ds with _ | ⟨d, _ | ⟨e, ds⟩⟩
    · simp [bfn] at ez
    · obtain ⟨v, rfl, r⟩ := hr.one
      cases d with
      | lst ys =>
        simp only [bfn, Option.map_eq_some_iff] at ez
        obtain ⟨ns, ei, rfl⟩ := ez
        have := bolsOf_eq ei
        subst this
        obtain ⟨a, vs, rfl, e1, r1⟩ := r.lst_inv
        have := reps_bols_inv r1
        subst this
        exact cr_all hc pins s σ H _ us Q I rs ⟨a, ns, rfl, .inl (.inl (fk.sub _ _ e1)), o.here fk (.bl _)⟩
      | _ => simp [bfn] at ez
    · simp [bfn] at ez
  | any =>
    rcases ds with _ | ⟨d, _ | ⟨e, ds⟩⟩
    · simp [bfn] at ez
    · obtain ⟨v, rfl, r⟩ := hr.one
      cases d with
      | lst ys =>
        simp only [bfn, Option.map_eq_some_iff] at ez
        obtain ⟨ns, ei, rfl⟩ := ez
        have := bolsOf_eq ei
        subst this
        obtain ⟨a, vs, rfl, e1, r1⟩ := r.lst_inv
        have := reps_bols_inv r1
        subst this
        exact cr_any hc pins s σ H _ us Q I rs ⟨a, ns, rfl, .inl (.inl (fk.sub _ _ e1)), o.here fk (.bl _)⟩
      | _ => simp [bfn] at ez
    · simp [bfn] at ez
  | sorted =>
    rcases ds with _ | ⟨d, _ | ⟨e, ds⟩⟩
    · simp [bfn] at ez
    · obtain ⟨v, rfl, r⟩ := hr.one
      cases d with
      | lst ys =>
        simp only [bfn, Option.map_eq_some_iff] at ez
        obtain ⟨ns, ei, rfl⟩ := ez
        have := intsOf_eq ei
        subst this
        obtain ⟨a, vs, rfl, e1, r1⟩ := r.lst_inv
        have := reps_ints_inv r1
        subst this
        refine cr_sortedI pins s σ H _ us Q I rs ⟨a, ns, rfl, .inl (.inl (fk.sub _ _ e1)), fun ns' l hp hs hn => ?_⟩
        have hm : (ns.mergeSort (fun a b => decide (a ≤ b))).Pairwise (· ≤ ·) := by
          have := List.pairwise_mergeSort (le := fun (a b : Int) => decide (a ≤ b)) (by intro a b c; simp; omega) (by intro a b; simp; omega) ns
          exact this.imp (by simp)
        have : ns' = ns.mergeSort (fun a b => decide (a ≤ b)) := sorted_unique (hp.trans (List.mergeSort_perm ns _).symm) hs hm
        rw [← this] at o
        exact o.new fk hn (.lst upd_same (reps_ints _))
      | _ => simp [bfn] at ez
    · simp [bfn] at ez
end
end Mi

set_option Elab.async false
set_option linter.all false
set_option maxRecDepth 100000
namespace Mi
open PySem PySem.Spec PyProof.Rows L2
section
open PySem.W
variable {prog : Program} {w : World} {A : Around} {E : Value → Shared → Prop} {s : Shared} {K : Frag} {x C f : Addr} {ox : Obj} {od : Option Obj} {b tb : Value}
/-- a slot of 'object' found on an instance -/
theorem ifBound_B {M : Model} {name : Str} {id : String} {T : String} {args : List Value} {Q : Option Value → Shared → Prop} (X : K.In s.heap) (I : InstAt s.heap x ox C od) (hs : findIn K (.ref C) name = some (some (.builtin id))) (S : Slot T name id)
    (h : wpAny M A (call (.builtin id) (.ref x :: args)) (fun v => Q (some v)) E s) : wpAny M A (callSpecialIfBound? (.ref x) name args) Q E s := by
  simp only [callSpecialIfBound?, bindSpecialIfBound?]
  refine wpAny_holding (wpAny_bind (wpAny_bind (wpAny_bind (I.type.here ((looks_findIn X hs).here ?_)))))
  simp only [S.bind]
  refine wpAny_bind (wpAny_askSetting (wpAny_ite ?_))
  have fin : wpAny M A (call (.builtin id) ([.ref x] ++ args) >>= fun v => pure (some v)) Q E s := wpAny_bind (wpAny_mono h (fun v s' h' => wpAny_pure h') fun _ _ h' => h')
  split
  · exact wpAny_bind (wpAny_pure (wpAny_pure (by exact fin)))
  · exact wpAny_tryCatch (wpAny_bind (wpAny_pure (wpAny_pure (by exact fin))))
theorem check_B {M : Model} {id owner n : String} {rest : List Value} {Q : Unit → Shared → Prop} (X : K.In s.heap) (I : InstAt s.heap x ox C od) (hm : mroIn K C (.type owner) = some true) (hk : builtinKind id = some .slot) (hs : splitId id = some (owner, n))
    (ha : argsOk id ⟨.ref x :: rest, []⟩) (hq : Q () s) : wpAny M A (checkBuiltinCall id ⟨.ref x :: rest, []⟩) Q E s := by
  simp only [checkBuiltinCall, hk, hs]
  refine wpAny_bind (wpAny_bind (I.type.here ((looks_mroIn X hm).here ?_)))
  simp only [Bool.not_true, Bool.false_eq_true, if_false]
  cases hsig : Manifest.signature? id with
  | none => exact wpAny_pure hq
  | some sig =>
    simp only [argsOk, hsig] at ha
    have h2 : Bind.checkArgs id sig ⟨.ref x :: rest, []⟩ = pure () := ha
    show wpAny M A (Bind.checkArgs id sig ⟨.ref x :: rest, []⟩) Q E _
    rw [h2]; exact wpAny_pure hq
theorem objNe_K {M : Model} (X : K.In s.heap) (I : InstAt s.heap x ox C od) (hs : findIn K (.ref C) "__eq__" = some (some (.ref f))) (hf : isFn K (.ref f) = true) (hu : A.units < cLine) {Q : Fin → Shared → Prop}
    (h : wpAny M A (call (.ref f) [.ref x, b]) (fun v s' => ∃ t, v = .bool t ∧ Q (.done (.ret (.bool (!t)))) s') E s) : wpAny M A (Builtin.«object.__ne__» ⟨[.ref x, b], []⟩) Q E s := by
  unfold Builtin.«object.__ne__»
  repeat (first
    | with_reducible refine wpAny_cRoomFor hu ?_
    | (refine wpAny_bind (m := callSpecialIfBound? (.ref x) (Str.ofString "__eq__") [b])
        (ifBound_K X I hs hf (wpAny_mono h (fun v s' hr => by
          obtain ⟨t, rfl, hq⟩ := hr
          repeat (first | exact hq | exact wpAny_pure hq | exact wpAny_truthy_bool hq | (refine wpAny_bind (m := truthy (.bool _)) (wpAny_truthy_bool ?_)) | wp_step)) fun _ _ e => e)))
    | wp_step)
/-- a != b where the class has an own __eq__ alone -/
theorem ne_K {Q : Value → Shared → Prop} (hu : A.units + 1 < cLine) (X : K.In s.heap) (I : InstAt s.heap x ox C od) (hb : Looks (model prog w) s.heap (typeOf b) (.ref C))
    (hn : findIn K (.ref C) "__ne__" = some (some (.builtin "object.__ne__"))) (hs : findIn K (.ref C) "__eq__" = some (some (.ref f))) (hf : isFn K (.ref f) = true) (hm : mroIn K C (.type "object") = some true)
    (h : wpAny (model prog w) A.in1 (call (.ref f) [.ref x, b]) (fun v s' => ∃ t, v = .bool t ∧ Q (.bool (!t)) s') E s) : wpAny (model prog w) A (richCompare .NotEq (.ref x) b) Q E s := by
  unfold richCompare
  simp only [oneThing_ref]
  refine wpAny_holding (wpAny_bind (wpAny_cRoomFor (Nat.lt_of_succ_lt hu) ?_))
  rw [cmpInfo_NotEq]
  dsimp only
  refine wpAny_bind (I.type.here (wpAny_bind (hb.here ?_)))
  rw [show (Value.ref C != Value.ref C) = false from by simp]
  simp only [Bool.false_eq_true, if_false]
  refine wpAny_bind (wpAny_pure ?_)
  simp only [Bool.false_eq_true, if_false]
  have one : wpAny (model prog w) A (tryCompare (.ref x) "__ne__" b) (fun r s' => ∃ v, r = some v ∧ Q v s') E s := by
    unfold tryCompare
    refine wpAny_bind (ifBound_B (id := "object.__ne__") X I hn F.slot_tuple_iterator_ne (wpAny_call (codeAny_call_builtin F.slot_tuple_iterator_ne.plain F.cmpEntry_ne
      (check_B X I hm F.cmpKind_ne F.cmpSplit_ne (F.cmpArgs_ne _ _) ?_))))
    refine objNe_K X I hs hf hu (wpAny_mono h (fun v s' hv => ?_) fun _ _ e => e)
    obtain ⟨t, rfl, hq⟩ := hv
    first | exact ⟨t, rfl, wpAny_pure ⟨_, rfl, hq⟩⟩ | exact ⟨t, rfl, wpAny_pure (wpAny_pure ⟨_, rfl, hq⟩)⟩ | exact ⟨t, rfl, ⟨_, rfl, hq⟩⟩
  refine wpAny_bind (wpAny_mono one (fun r s' z => ?_) fun _ _ e => e)
  obtain ⟨v, rfl, hq⟩ := z
  exact wpAny_pure hq
end
section
variable {X : Cx} {G : Ad} {E : XK}
/-- == and != of two objects whose class has its own __eq__ -/
def eqoR (G : Ad) (E : XK) (c : Nat) (ne : Bool) (den : Den) (x y : V) (H : Hp) (Q : VK) : Prop :=
  ∃ F pn p fs gs, FOk G F H pn p ∧ Rep G pn F x (.obj c fs) ∧ Rep G pn F y (.obj c gs) ∧ Out G (rD G pn) E pn F H ((den [.obj c fs, .obj c gs] p).bind (eqRes ne)) Q
def eqOp (ne : Bool) : CmpOp := if ne = true then .NotEq else .Eq
theorem eq_callA {c : Nat} {ne : Bool} {den : Den} {k : Nat} {f : Addr} {fd : FuncData} {ps : List Str} (Fn : FnOk X.prog X.w X.K X.mg X.base (L2.CX X.prog X.w) k f fd ps (spOf G 2 den)) (hb : Binds X.K fd ps []) (hx : Passes (L2.CX X.prog X.w) X E)
    {A : Around} (sr : Room k A) (sf : A.frames = X.A.frames) {pins : List (Addr × Obj)} {s : Shared} {σ : L2.St} {H : Hp} {a b : Addr} {Q : VK} (I : Inv X pins σ H s) (h : eqoR G E c ne den (.ref a) (.ref b) H Q) :
    wpAny (model X.prog X.w) A (call (.ref f) [.ref a, .ref b]) (fun v s' => ∃ t, v = .bool t ∧ ∃ H', Inv X pins σ H' s' ∧ Q (.bl (if ne = true then !t else t)) H') X.xe s := by
  obtain ⟨F, pn, p, fs, gs, fk, r1, r2, o⟩ := h
  have hsp : spOf G 2 den [.ref a, .ref b] H (fun v H' => ∃ t, v = .bl t ∧ Q (.bl (if ne = true then !t else t)) H') E := by
    refine ⟨rfl, F, pn, p, _, fk, .cons r1 (.cons r2 .nil), (o.bind (rep := rD G pn)).imp ?_⟩
    rintro v H1 ⟨F1, p1, d, e1, s1, rv, o1⟩
    cases d with
    | bl t => cases rv; exact ⟨t, rfl, o1.here s1.ok (.bl _)⟩
    | _ => exact o1.elim
  have e0 : Env0 X.prog X.w X.K X.mg X.base A X.stack s H := by
    have e := I.env0
    exact ⟨by rw [sf]; exact e.frames, e.mod, e.bs, e.bsz, e.funs, e.frf, e.hok, e.bare⟩
  have hl := Fn.len _ _ _ _ hsp
  have r2 : Vals [V.ref a, V.ref b] [Value.ref a, Value.ref b] := .cons rfl (.cons rfl .nil)
  refine wpAny_call (codeAny_mono (Fn.run A X.stack s H ⟨[.ref a, .ref b], []⟩ [.ref a, .ref b] [.ref a, .ref b] _ E sr e0 (by
    have := hb s [.ref a, .ref b] I.kIn (by simpa using hl)
    simpa using this) r2 hsp) fun r s' hq => ?_)
  cases r with
  | error e => exact hx pins σ H s e s' I hq
  | ok fl =>
    cases fl with
    | ret w =>
      obtain ⟨z, H', I', rz, t, ez, q⟩ := I.after hq
      subst ez
      cases rz
      exact ⟨t, rfl, H', I', q⟩
    | next => exact False.elim hq
    | brk => exact False.elim hq
    | cont => exact False.elim hq
theorem op_eqo {c : Nat} {ne : Bool} {den : Den} {k : Nat} {f : Addr} {fd : FuncData} {ps : List Str} (Fn : FnOk X.prog X.w X.K X.mg X.base (L2.CX X.prog X.w) k f fd ps (spOf G 2 den)) (hb : Binds X.K fd ps []) (hx : Passes (L2.CX X.prog X.w) X E)
    (hr : Room (k + 1) X.A) (hn : PySem.W.findIn X.K (.ref (G.cls c)) "__ne__" = some (some (.builtin "object.__ne__"))) (hs : PySem.W.findIn X.K (.ref (G.cls c)) "__eq__" = some (some (.ref f))) (hf : PySem.W.isFn X.K (.ref f) = true)
    (hm : PySem.W.mroIn X.K (G.cls c) (.type "object") = some true) : OpR X (compareOp (eqOp ne)) (eqoR G E c ne den) := by
  intro pins s σ H x y v u Q I rx ry h
  have h' := h
  obtain ⟨F, pn, p, fs, gs, fk, r1, r2, o⟩ := h
  cases r1 with
  | obj _ e1 l1 q1 =>
    cases r2 with
    | obj _ e2 l2 q2 =>
      cases rx
      cases ry
      obtain ⟨mA, J, _⟩ := ins_get I.hok (fk.sub _ _ e1)
      obtain ⟨mB, J', _⟩ := ins_get I.hok (fk.sub _ _ e2)
      obtain ⟨od, J, _⟩ := J.look
      obtain ⟨od', J', _⟩ := J'.look
      obtain ⟨m, hF⟩ := I.fr
      cases ne with
      | false =>
        show wpAny (model X.prog X.w) X.A (richCompare .Eq _ _) (EP X pins σ Q) X.xe s
        refine PySem.W.cmp_K (op := .Eq) (tb := .ref (G.cls c)) hr.units0 hF I.ok.mod.kin J J'.type (by simp [PySem.W.notFirst]) hs hf ?_
        refine wpAny_mono (eq_callA Fn hb hx (hr.mono (Nat.le_succ k)) rfl I h') (fun v s' z => ?_) fun _ _ x => x
        obtain ⟨t, rfl, H', I', q⟩ := z
        exact ⟨.bl t, H', I', rfl, q⟩
      | true =>
        show wpAny (model X.prog X.w) X.A (richCompare .NotEq _ _) (EP X pins σ Q) X.xe s
        have hu : X.A.units + 1 < cLine := by have := hr.un; omega
        refine ne_K hu I.kIn J J'.type hn hs hf hm ?_
        refine wpAny_mono (eq_callA Fn hb hx hr.in1 rfl I h') (fun v s' z => ?_) fun _ _ x => x
        obtain ⟨t, rfl, H', I', q⟩ := z
        exact ⟨t, rfl, .bl (!t), H', I', rfl, q⟩
end
end Mi

set_option Elab.async false
set_option linter.all false
set_option maxRecDepth 100000
set_option maxHeartbeats 2000000
namespace Mi
open PySem PySem.Spec PyProof.Rows L2
/-! ### defs that are called while an exception is handled -/
abbrev AO := Addr × Obj
structure FnW (P : Program) (w : World) (K : PySem.W.Frag) (mg : Str → Option Value) (base : Heap) (k : Nat) (f : Addr) (fd : FuncData) (ps : List Str) (sp : AO → Sp) : Prop where
  len : ∀ q vs H Q E, sp q vs H Q E → vs.length = ps.length
  run : ∀ (A : Around) (outer : List Env) (s : Shared) (H : Hp) (args : Args) (us : List Value) (vs : List V) (Q : VK) (E : XK) (q : AO), L2H.RoomH k A → L2H.PinOk outer H s q → Env0 P w K mg base A outer s H → BindsTo s fd args (ps.zip us) → Vals vs us → sp q vs H Q E →
    codeAny (model P w) A (.call (.ref f) args) (CR (L2.CX P w) outer P w H s Q E) s
theorem passF {X : Cx} : Passes (L2.CX X.prog X.w) X (fun _ _ _ => False) := fun _ _ _ _ _ _ _ h => by
  obtain ⟨_, _, _, _, _, _, _, _, _, _, _, _, z⟩ := h
  exact z.elim
section
variable {P : Program} {w : World} {K : PySem.W.Frag} {mg : Str → Option Value} {base : Heap}
theorem fn_warm {x qual : Str} {params : Arguments} {body : List Stmt} {scope : Scope} {f : Addr} {fd : FuncData} {N ps : List Str} {k : Nat} {sp : AO → Sp} (F : FunD K x qual params body scope [] [] f fd) (S : FnScope N ps scope)
    (len : ∀ q vs H Q E, sp q vs H Q E → vs.length = ps.length)
    (bd : ∀ (cdv : Value) (A : Around) (outer : List Env) (s : Shared) (H : Hp) (vs : List V) (Q : VK) (E : XK) (q : AO), L2H.RoomH k (A.deeper (envOfC qual scope s.heap.objs.size f cdv)) → sp q vs H Q E →
      ∃ t, PSs (L2H.cxH (L2.CX P w) P w K mg base N qual scope f cdv A outer s H E q) body t ∧ t { nx := fun _ H' => Q .non H', rt := Q } (L2.start N vs) H) :
    FnW P w K mg base (k + 1) f fd ps sp := by
  obtain ⟨oc, od, dV, kV, doc, pm, an, cdv, ct, osl, rfl, lk, hcd, _, _⟩ := F.ex
  refine ⟨len, fun A outer s H args us vs Q E q rm pin e0 bt rv hsp => ?_⟩
  have KX : K.In s.heap := e0.mod.kin.keeps fun b o e => (e0.bs b o e).1
  have lim : s.heap.NoLimit := e0.mod.nolimit.keeps fun b o e => (e0.bs b o e).1
  have par : ∀ y ∈ ps.zip us, scope.names.lookup y.1 = some .local ∨ (scope.names.lookup y.1 = some .cell ∧ ((cellsFrom (s.heap.objs.size + 1) scope.names []).lookup y.1).isSome = true) := by
    rintro ⟨n, v⟩ hy
    exact (S.par n (List.of_mem_zip hy).1).imp id fun z => ⟨z, PySem.W.cellsFrom_some _ _ _ (.inl z)⟩
  refine codeAny_call_function rm.depth (KX _ _ lk) rfl S.co S.gen rfl (PySem.W.codeRec_of KX hcd) (bt _ _ _ _ (wpAny_newFunctionEnv_cells S.kind par fun env he s1 ic => ?_))
  subst he
  refine ⟨lim.keeps ic.toInCall.keep, codeAny_func ?_⟩
  obtain ⟨t, ht, tq⟩ := bd cdv A outer s H vs Q E q (rm.deeper _) hsp
  have I := L2H.inv_startH (CX := L2.CX P w) (E := E) (cd := cdv) S pin e0 (len q _ _ _ _ hsp) rv ic
  refine wpAny_mono (ht.run [] s1 (L2.start N vs) H _ I tq) (fun fl s' hs => ?_) fun _ _ z => z
  cases fl with
  | ret u => obtain ⟨v, _, H', J, rr, z⟩ := hs; exact ⟨v, H', J.os, J.bare, J.base, J.hok, rr, z⟩
  | next => obtain ⟨_, H', J, z⟩ := hs; exact ⟨.non, H', J.os, J.bare, J.base, J.hok, rfl, z⟩
  | brk => obtain ⟨_, _, _, z⟩ := hs; exact False.elim z
  | cont => obtain ⟨_, _, _, z⟩ := hs; exact False.elim z
end
section
variable {X : Cx} {q : AO}
theorem run_warm {k : Nat} {f : Addr} {fd : FuncData} {ps : List Str} {sp : AO → Sp} {pins : List AO} {σ : L2.St} {H : Hp} {s : Shared} {Q : VK} {E : XK} {us : List Value} {vs : List V}
    (F : FnW X.prog X.w X.K X.mg X.base k f fd ps sp) (rm : L2H.RoomH k X.A) (hq : q ∈ X.pn) (hb : Binds X.K fd ps []) (hx : Passes (L2.CX X.prog X.w) X E) (I : Inv X pins σ H s) (r : Vals vs us) (h : sp q vs H Q E) :
    wpAny (model X.prog X.w) X.A (call (.ref f) us) (EP X pins σ Q) X.xe s := by
  have bt := hb s us I.kIn (by rw [List.append_nil, ← r.length]; exact F.len _ _ _ _ _ h)
  rw [List.append_nil] at bt
  have z := I.pin q (List.mem_append_left _ hq)
  have pin : L2H.PinOk X.stack H s q := ⟨z.1, z.2.1, fun m => (List.mem_cons.mp (I.stkSub q.1 m)).elim z.2.2.1 z.2.2.2.1, z.2.2.2.2⟩
  refine wpAny_call (codeAny_mono (F.run X.A X.stack s H ⟨us, []⟩ us vs Q E q rm pin I.env0 bt r h) fun r s' hr => ?_)
  match r, hr with
  | .error e, hr => exact hx pins σ H s e s' I hr
  | .ok (.ret u), hr => exact I.after hr
  | .ok .next, hr => exact False.elim hr
  | .ok .brk, hr => exact False.elim hr
  | .ok .cont, hr => exact False.elim hr
theorem pe_warm {x : Str} {k : Nat} {f : Addr} {fd : FuncData} {ps : List Str} {sp : AO → Sp} {e : Expr} {es : List Expr} {t : TA} {p1 p2 : Pos} (F : FnW X.prog X.w X.K X.mg X.base k f fd ps sp) (rm : L2H.RoomH k X.A) (hq : q ∈ X.pn)
    (hg : Gl X x) (hm : X.mg x = some (.ref f)) (hk : PySem.W.keepIn X.K (.ref f) = true) (hb : Binds X.K fd ps []) (ha : PA X (e :: es) t) (hd : (x == ("__debug__" : Str)) = false)
    (he : starEach (e :: es) X.env = (false, eval e X.env) :: starEach es X.env) (hpl : (backTo p2 (starEach es X.env)).any (·.1) = false) :
    PE X (.Call (.Name x p1) (e :: es) [] p2) (fun σ H Q => t σ H fun vs H1 => sp q vs H1 Q (fun _ _ _ => False)) :=
  ⟨fun pins s σ H Q I h => wpAny_Call_Name_kw (ld_glob I hg hm (PySem.W.callWith_K (h₀ := X.base) I.ok.mod.kin hk (thn (ha.run p2 pins s σ H _ I h) fun us s1 ⟨_, _, I1, r, z⟩ => ⟨I1.kIn, run_warm F rm hq hb passF I1 r z⟩) he hpl) hd)⟩
/-! ### looks at the pinned exception -/
structure XcK (K : PySem.W.Frag) (D : Addr) : Prop where
  hc : (PySem.W.clsIn K D).isSome = true
  hg : PySem.W.findIn K (.ref D) "__getattribute__" = some (some (.builtin "BaseException.__getattribute__"))
  hk : PySem.W.findIn K (.ref D) "__getattr__" = some none
  hs : PySem.W.subIn K (.ref D) (.type "BaseException") = some true
  hd : PySem.W.hasDictIn K D = true
  ha : PySem.W.findIn K (.ref D) "__class__" = some (some (.builtin "object.__class__"))
  hn : PySem.W.specialIn K (.builtin "object.__class__") "__get__" = some (some (.builtin "getset_descriptor.__get__"))
  ht : PySem.W.takesIn K (.builtin "object.__class__") = some true
  hm : PySem.W.mroIn K D (.type "object") = some true
theorem instW {pins : List AO} {σ : L2.St} {H : Hp} {s : Shared} {a D dd : Addr} {oe : Obj} {fs : List (Str × V)} (I : Inv X pins σ H s) (hq : (a, oe) ∈ X.pn) (hz : Zc (.ref D) (some dd) oe) (hf : ∃ vs, oe.data = .fields vs) (hd : H dd = some (.xd fs)) :
    ∃ od, PySem.W.InstAt s.heap a oe D (some od) ∧ ∃ mA, s.heap.Ns1 dd mA ∧ (∀ f, RelO (fs.lookup f) (mA f)) ∧ PySem.W.lookIn = PySem.W.lookIn := by
  have z := (I.pin (a, oe) (List.mem_append_left _ hq)).1
  obtain ⟨vs, hv⟩ := hf
  have hx : ObjOk X.prog X.w H s.heap dd (.xd fs) := I.hok dd _ hd
  obtain ⟨mA, hns, hr⟩ := hx
  obtain ⟨od, ho, hl⟩ := lookIn_ns hns
  exact ⟨od, ⟨z, hz.1, by unfold PySem.W.notCls; rw [hv] <;> rfl, by rw [hz.2]; exact ho⟩, mA, hns, hr, rfl⟩
theorem call_isW {a D dd : Addr} {oe : Obj} (C : XcK X.K D) (hq : (a, oe) ∈ X.pn) (hz : Zc (.ref D) (some dd) oe) (hf : ∃ vs, oe.data = .fields vs) :
    CallR X (.builtin "isinstance") (fun xs H Q => ∃ (c : V) (cv : Value) (b : Bool) (fs : List (Str × V)), xs = [.ref a, c] ∧ (∀ u, RelV c u → u = cv) ∧ H dd = some (.xd fs) ∧ PySem.W.kitOne X.K (.ref D) cv = some b ∧ Q (.bl b) H) := by
  rintro pins s σ H xs us Q I r ⟨c, cv, b, fs, rfl, hcv, hd, e, z⟩
  cases r with
  | cons rx rr =>
    cases rr with
    | cons rt rr =>
      cases rr
      cases rx
      have ec := hcv _ rt
      subst ec
      obtain ⟨od, J, _⟩ := instW I hq hz hf hd
      exact PySem.W.kia_one (PySem.W.kitx_exc (od := some od) C.hc C.hg C.hk C.hs C.ha C.hn C.ht C.hm) I.kIn J e (fun z => nomatch z) fun tk => ⟨.bl b, H, I.kept (t' := tk) fun _ _ z => z, rfl, z⟩
theorem pe_xW {a D : Addr} {oe : Obj} {cls : Value} {d : Option Addr} {e : Expr} {te : TE} {pos : Pos} {n : Str} (C : XcK X.K D) (hno : PySem.W.findIn X.K (.ref D) n = some none) (hq : (a, oe) ∈ X.pn) (hz : Zc cls d oe) (hf : ∃ vs, oe.data = .fields vs)
    (he : PE X e te) (hb : attributeBase e n X.env (eval e X.env) = eval e X.env) : PE X (.Attribute e n pos) (tXf a cls d D n te) := by
  refine ⟨fun pins s σ H Q I h => attr_of hb (thn (he.run pins s σ H _ I h) fun u s1 hh => ?_)⟩
  obtain ⟨x, H1, I1, rx, rfl, rfl, dd, fs, v, rfl, ea, l, z⟩ := hh
  obtain rfl : u = Value.ref a := rx
  have p1 := (I1.pin (a, oe) (List.mem_append_left _ hq)).1
  obtain ⟨vs, hv⟩ := hf
  have hx : ObjOk X.prog X.w H1 s1.heap dd (.xd fs) := I1.hok dd _ ea
  obtain ⟨mA, hns, hr⟩ := hx
  obtain ⟨od, ho, hl⟩ := lookIn_ns hns
  obtain ⟨u, hu, ru⟩ := RelO.some_of (v := v) (o := mA n) (by rw [← l]; exact hr n)
  have J : PySem.W.InstAt s1.heap a oe D (some od) := ⟨p1, hz.1, by unfold PySem.W.notCls; rw [hv] <;> rfl, by rw [hz.2]; exact ho⟩
  exact HandSPX.exc_get I1.kIn J C.hg C.hk C.hs (PySem.W.findObj_own C.hd hno rfl (by rw [hl, hu])) (handed_of ru) ⟨v, H1, I1.tok _, ru, z⟩
end
end Mi

set_option Elab.async false
set_option linter.all false
set_option maxRecDepth 100000
namespace Mi
open PySem PySem.Spec PyProof.Rows L2

/-! ### the text against the small language -/
structure Tab where
  cons : List (Str × Int)
  fns : List (Str × Nat)
  /-- class, how many arguments, attributes -/
  clss : List (Str × Nat × List Str)
  /-- class, its __eq__ among the defs -/
  eqs : List (Nat × Nat)
  /-- exception classes, their fields -/
  excs : List (Str × List Str)
  /-- the def that catches; what may be called within a lambda; levels -/
  fg : Nat
  lamN : Nat → Bool
  k2 : Nat
  ilv : Nat → Nat
  fl : Nat → List D → Option D
def nst : Expr → Bool
  | .Starred _ _ => false
  | _ => true
def nsl : Expr → Bool
  | .Slice _ _ _ _ => false
  | _ => true
def nset : Expr → Bool
  | .Set _ _ _ => false
  | _ => true
def ncal : Expr → Bool
  | .Call _ _ _ _ => false
  | _ => true
def visB (sc : Scope) (x : Str) : Bool := match sc.names.lookup x with
  | some .local => true
  | some .cell => true
  | some .free => true
  | _ => false
def locB (sc : Scope) (x : Str) : Bool := match sc.names.lookup x with
  | some .local => true
  | some .cell => true
  | _ => false
def gloB (sc : Scope) (x : Str) : Bool := match sc.names.lookup x with
  | some .globalImplicit => true
  | _ => false
def okN (x : Str) : Bool := !(x == ("__debug__" : Str)) && !(x == ("__classdict__" : Str)) && !(x == ("" : Str))
def tyUse : List String := ["int", "bool", "tuple", "list", "str"]
def bltN : List Str := ["len", "tuple", "list", "int", "abs", "max", "min", "sum", "all", "any", "sorted", "isinstance", "range", "zip", "enumerate", "bool", "str", "repr", "ValueError", "dict"]
section
variable (T : Tab) (n nc : Nat → Bool) (N : List Str)
def mTy (sc : Scope) : Ty → Expr → Bool
  | .b m, e => match e with
    | .Name x _ => gloB sc x && okN x && decide (x = Str.ofString m) && decide (m ∈ tyUse)
    | _ => false
  | .c k, e => match e with
    | .Name x _ => gloB sc x && okN x && decide ((T.clss[k]?).map (·.1) = some x)
    | _ => false
def mTys (sc : Scope) : List Ty → List Expr → Bool
  | [], [] => true
  | t :: ts, e :: es => nst e && mTy T sc t e && mTys sc ts es
  | _, _ => false
def mNm (sc0 : Scope) (i : Nat) (e : Expr) : Bool := match e with
  | .Name x _ => decide (N[i]? = some x) && locB sc0 x && okN x
  | _ => false
def mNms (sc0 : Scope) : List Nat → List Expr → Bool
  | [], [] => true
  | i :: is, e :: es => nst e && mNm N sc0 i e && mNms sc0 is es
  | _, _ => false
def mTg (sc0 : Scope) : Tg → Expr → Bool
  | .nm i, e => mNm N sc0 i e
  | .tp is, e => match e with
    | .Tuple es _ _ => mNms N sc0 is es
    | _ => false
def isTp : Expr → Bool
  | .Tuple _ _ _ => true
  | _ => false
def tgIn (vs : List Nat) : Tg → Bool
  | .nm i => decide (i ∈ vs)
  | .tp is => is.all fun i => decide (i ∈ vs)
mutual
def mE (n nc : Nat → Bool) (N : List Str) (sc : Scope) : IE → Expr → Bool
  | .int i, e => match e with
    | .Constant (.int j) _ _ => decide (i = j)
    | _ => false
  | .bl b, e => match e with
    | .Constant (.bool c) _ _ => decide (b = c)
    | _ => false
  | .non, e => match e with
    | .Constant .none _ _ => true
    | _ => false
  | .str x, e => match e with
    | .Constant (.str y) _ _ => decide (x = y)
    | _ => false
  | .var i, e => match e with
    | .Name x _ => decide (N[i]? = some x) && visB sc x && okN x
    | _ => false
  | .con k, e => match e with
    | .Name x _ => gloB sc x && okN x && decide ((T.cons[k]?).map (·.1) = some x)
    | _ => false
  | .fnv k, e => match e with
    | .Name x _ => gloB sc x && okN x && n k && decide ((T.fns[k]?).map (·.1) = some x)
    | _ => false
  | .bin o a b, e => match e with
    | .BinOp l op r _ => decide (op = opOf o) && mE n nc N sc a l && mE n nc N sc b r
    | _ => false
  | .neg a, e => match e with
    | .UnaryOp .USub x _ => mE n nc N sc a x
    | _ => false
  | .not a, e => match e with
    | .UnaryOp .Not x _ => mE n nc N sc a x
    | _ => false
  | .cmp o a b, e => match e with
    | .Compare l [op] [r] _ => decide (op = copOf o) && mE n nc N sc a l && mE n nc N sc b r
    | _ => false
  | .chain o o' a b c, e => match e with
    | .Compare l [op, op'] [r, r'] _ => decide (op = copOf o) && decide (op' = copOf o') && mE n nc N sc a l && mE n nc N sc b r && mE n nc N sc c r'
    | _ => false
  | .and xs, e => match e with
    | .BoolOp .And es _ => mEs n nc N sc xs es
    | _ => false
  | .or xs, e => match e with
    | .BoolOp .Or es _ => mEs n nc N sc xs es
    | _ => false
  | .ite c a b, e => match e with
    | .IfExp t x y _ => mT n nc N sc c t && mE n nc N sc a x && mE n nc N sc b y
    | _ => false
  | .tup xs, e => match e with
    | .Tuple es _ _ => mEs n nc N sc xs es
    | _ => false
  | .lst xs, e => match e with
    | .List es _ => mEs n nc N sc xs es
    | _ => false
  | .ix a b, e => match e with
    | .Subscript x y _ => nsl y && mE n nc N sc a x && mE n nc N sc b y
    | _ => false
  | .sl a lo hi, e => match e with
    | .Subscript x (.Slice l h none _) _ => mE n nc N sc a x && mO n nc N sc lo l && mO n nc N sc hi h
    | _ => false
  | .fld a f, e => match e with
    | .Attribute x g _ => decide (f = g) && ncal x && mE n nc N sc a x
    | _ => false
  | .call k xs, e => match e with
    | .Call (.Name x _) es [] _ => gloB sc x && okN x && n k && decide (T.fns[k]? = some (x, es.length)) && mEs n nc N sc xs es
    | _ => false
  | .mk c xs, e => match e with
    | .Call (.Name x _) (e0 :: es) [] _ => gloB sc x && okN x && nc c && decide ((T.clss[c]?).map (fun t => (t.1, t.2.1)) = some (x, es.length + 1)) && mEs n nc N sc xs (e0 :: es)
    | _ => false
  | .blt f xs, e => match e with
    | .Call (.Name x _) (e0 :: es) [] _ => gloB sc x && okN x && decide (x = bfName f) && mEs n nc N sc xs (e0 :: es)
    | _ => false
  | .isi a t, e => match e with
    | .Call (.Name x _) [y, z] [] _ => gloB sc x && okN x && decide (x = ("isinstance" : Str)) && nst y && nst z && mE n nc N sc a y && mTy T sc t z
    | _ => false
  | .isis a ts, e => match e with
    | .Call (.Name x _) [y, .Tuple zs _ _] [] _ => gloB sc x && okN x && decide (x = ("isinstance" : Str)) && nst y && mE n nc N sc a y && mTys T sc ts zs && decide (ts.length ≤ 10)
    | _ => false
  | .comp elt tg it ifs own, e => match e with
    | .ListComp x [⟨t, i, fs, k⟩] scope _ => decide (k = 0) && blkC N sc scope own && nset i && mI n nc N sc it t i && mTg N scope tg t && tgIn (own.map (·.2)) tg && mTs n nc N (relS scope sc) ifs fs && decide (fs.length ≤ 1) && mE n nc N (relS scope sc) elt x
    | _ => false
  | .pget a f, e => match e with
    | .Subscript x (.Constant (.str g) _ _) _ => decide (f = g) && mE n nc N sc a x
    | _ => false
  | .eqo ne c k a b, e => match e with
    | .Compare l [op] [r] _ => decide (op = eqOp ne) && n k && decide ((c, k) ∈ T.eqs) && mE n nc N sc a l && mE n nc N sc b r
    | _ => false
  | .fault g lam, e => match e with
    | .Call (.Name x _) [.Lambda ⟨[], [], none, [], [], none, []⟩ b scope _] [] _ => gloB sc x && okN x && n g && decide (g = T.fg) && decide (T.fns[g]? = some (x, 1)) && LamX.lamSB sc scope &&
        mE (fun i => n i && T.lamN i) (fun c => nc c && decide (c < 1000) && decide (T.ilv c + 1 ≤ T.k2)) N scope lam b
    | _ => false
  | .callv ks i xs, e => match e with
    | .Call (.Name x _) (e0 :: es) [] _ => decide (N[i]? = some x) && visB sc x && okN x && ks.all (fun k => n k && decide ((T.fns[k]?).map (·.2) = some (es.length + 1)) && decide ((T.fns[k]?).map (·.1) ≠ some "")) && mEs n nc N sc xs (e0 :: es)
    | _ => false
  | .dlen a, e => match e with
    | .Call (.Name x _) [.Call (.Name y _) [z] [] _] [] _ => gloB sc x && okN x && decide (x = ("len" : Str)) && gloB sc y && okN y && decide (y = ("dict" : Str)) && nst z && mE n nc N sc a z
    | _ => false
def mT (n nc : Nat → Bool) (N : List Str) (sc : Scope) : IE → Expr → Bool
  | .not a, e => match e with
    | .UnaryOp .Not x _ => mT n nc N sc a x
    | _ => false
  | .and xs, e => match e with
    | .BoolOp .And es _ => mTs n nc N sc xs es && !es.isEmpty
    | _ => false
  | .or xs, e => match e with
    | .BoolOp .Or es _ => mTs n nc N sc xs es && !es.isEmpty
    | _ => false
  | .cmp o a b, e => match e with
    | .Compare l [op] [r] _ => decide (op = copOf o) && mE n nc N sc a l && mE n nc N sc b r
    | _ => false
  | .chain o o' a b c, e => match e with
    | .Compare l [op, op'] [r, r'] _ => decide (op = copOf o) && decide (op' = copOf o') && mE n nc N sc a l && mE n nc N sc b r && mE n nc N sc c r'
    | _ => false
  | .var i, e => match e with
    | .Name x _ => decide (N[i]? = some x) && visB sc x && okN x
    | _ => false
  | .call k xs, e => match e with
    | .Call (.Name x _) es [] _ => gloB sc x && okN x && n k && decide (T.fns[k]? = some (x, es.length)) && mEs n nc N sc xs es
    | _ => false
  | .blt f xs, e => match e with
    | .Call (.Name x _) (e0 :: es) [] _ => gloB sc x && okN x && decide (x = bfName f) && mEs n nc N sc xs (e0 :: es)
    | _ => false
  | .isi a t, e => match e with
    | .Call (.Name x _) [y, z] [] _ => gloB sc x && okN x && decide (x = ("isinstance" : Str)) && nst y && nst z && mE n nc N sc a y && mTy T sc t z
    | _ => false
  | .isis a ts, e => match e with
    | .Call (.Name x _) [y, .Tuple zs _ _] [] _ => gloB sc x && okN x && decide (x = ("isinstance" : Str)) && nst y && mE n nc N sc a y && mTys T sc ts zs && decide (ts.length ≤ 10)
    | _ => false
  | .fld a f, e => match e with
    | .Attribute x g _ => decide (f = g) && ncal x && mE n nc N sc a x
    | _ => false
  | .bl b, e => match e with
    | .Constant (.bool c) _ _ => decide (b = c)
    | _ => false
  | .eqo ne c k a b, e => match e with
    | .Compare l [op] [r] _ => decide (op = eqOp ne) && n k && decide ((c, k) ∈ T.eqs) && mE n nc N sc a l && mE n nc N sc b r
    | _ => false
  | _, _ => false
def mEs (n nc : Nat → Bool) (N : List Str) (sc : Scope) : IEs → List Expr → Bool
  | .nil, es => match es with
    | [] => true
    | _ => false
  | .cons a r, es => match es with
    | e :: es => nst e && mE n nc N sc a e && mEs n nc N sc r es
    | _ => false
def mTs (n nc : Nat → Bool) (N : List Str) (sc : Scope) : IEs → List Expr → Bool
  | .nil, es => match es with
    | [] => true
    | _ => false
  | .cons a r, es => match es with
    | e :: es => mT n nc N sc a e && mTs n nc N sc r es
    | _ => false
def mO (n nc : Nat → Bool) (N : List Str) (sc : Scope) : IO → Option Expr → Bool
  | .no, o => match o with
    | none => true
    | _ => false
  | .so a, o => match o with
    | some e => mE n nc N sc a e
    | _ => false
/-- behind the target's form -/
def mI (n nc : Nat → Bool) (N : List Str) (sc : Scope) : II → Expr → Expr → Bool
  | .seq a, _, e => mE n nc N sc a e
  | .rng1 a, _, e => match e with
    | .Call (.Name x _) [y] [] _ => gloB sc x && okN x && decide (x = ("range" : Str)) && nst y && mE n nc N sc a y
    | _ => false
  | .rng2 a b, _, e => match e with
    | .Call (.Name x _) [y, z] [] _ => gloB sc x && okN x && decide (x = ("range" : Str)) && nst y && nst z && mE n nc N sc a y && mE n nc N sc b z
    | _ => false
  | .zip a b, t, e => match e with
    | .Call (.Name x _) [y, z] [] _ => isTp t && gloB sc x && okN x && decide (x = ("zip" : Str)) && nst y && nst z && mE n nc N sc a y && mE n nc N sc b z
    | _ => false
  | .enum a, t, e => match e with
    | .Call (.Name x _) [y] [] _ => isTp t && gloB sc x && okN x && decide (x = ("enumerate" : Str)) && nst y && mE n nc N sc a y
    | _ => false
end
end

/-! ### what is known of classes -/
structure ClsF (K : PySem.W.Frag) (G : Ad) : Prop where
  cl : ∀ c, c < G.nc → Cls K (G.cls c)
  noat : ∀ c, c < G.nc → ∀ f ∈ G.att c, NoAttr K (G.cls c) f
  nd : ∀ c, c < G.nc → (G.att c).Nodup ∧ (G.att c).length ≤ 900
  ha : ∀ c, c < G.nc → PySem.W.findIn K (.ref (G.cls c)) "__class__" = some (some (.builtin "object.__class__"))
  hm : ∀ c, c < G.nc → PySem.W.mroIn K (G.cls c) (.type "object") = some true
  hn : 0 < G.nc → PySem.W.specialIn K (.builtin "object.__class__") "__get__" = some (some (.builtin "getset_descriptor.__get__"))
  ht : 0 < G.nc → PySem.W.takesIn K (.builtin "object.__class__") = some true
  kcc : ∀ c d, c < G.nc → d < G.nc → PySem.W.kitOne K (.ref (G.cls c)) (.ref (G.cls d)) = some (decide (c = d))
  kbc : ∀ c, c < G.nc → ∀ m ∈ "NoneType" :: tyUse, PySem.W.kitOne K (.type m) (.ref (G.cls c)) = some false
  kcb : ∀ c, c < G.nc → ∀ m ∈ tyUse, PySem.W.kitOne K (.ref (G.cls c)) (.type m) = some false

/-! ### the promise of an __init__ -/
def spIni (G : Ad) (c m : Nat) (ini : List D → PenS → R (List D)) : Sp := fun vs H Q E => vs.length = m + 1 ∧ ∃ x dx args, vs = .ref x :: args ∧ H x = some (.ins (G.cls c) dx []) ∧
  ∃ F pn p ds, FOk G F H pn p ∧ F x = none ∧ Reps G pn F args ds ∧ match ini ds p with
    | .ok fs p' => ∀ F' H' ws dx', (∀ a o, ¬ IsPen pn a → (∀ ps, o ≠ .tbl ps) → a ≠ x → H a = some o → H' a = some o) → (∀ a, Fr H' a → Fr H a) → Same F F' → (∀ a, F' a ≠ none → F a ≠ none ∨ Fr H a) → FOk G F' H' pn p' → F' x = none →
        H' x = some (.ins (G.cls c) dx' ((G.att c).zip ws)) → ws.length = (G.att c).length → Reps G pn F' ws fs → Q .non H'
    | .err k fs p' => ∀ F' H' dy, (∀ a o, ¬ IsPen pn a → (∀ ps, o ≠ .tbl ps) → a ≠ x → H a = some o → H' a = some o) → (∀ a, Fr H' a → Fr H a) → Same F F' → (∀ a, F' a ≠ none → F a ≠ none ∨ Fr H a) → FOk G F' H' pn p' → XAt G pn F' H' k fs dy → E (.ref (G.cls k)) (some dy) H'
    | .stuck => False

section
variable {X : Cx} {e : Expr} {es : List Expr} {sc : Scope} {x : Str}
theorem star_cons (h : nst e = true) (env : Env) : starEach (e :: es) env = (false, eval e env) :: starEach es env := by
  cases e <;> first | rfl | cases h
theorem star_plain : ∀ {es : List Expr}, (∀ e ∈ es, nst e = true) → ∀ (pos : Pos) (env : Env), (backTo pos (starEach es env)).any (·.1) = false
  | [], _, _, _ => rfl
  | e :: es, h, pos, env => by
    rw [star_cons (h e (by simp))]
    have ih := star_plain (es := es) (fun e he => h e (by simp [he])) pos env
    unfold backTo at ih ⊢
    simp only [List.map_cons, List.any_cons, ih]
    rfl
theorem plain_ix (h : nsl e = true) : PlainIx e := fun o i => by
  cases e <;> first | rfl | cases h
theorem attr_base (h : ncal e = true) (f : Str) (env : Env) (w : Sem Value) : attributeBase e f env w = w := by
  cases e <;> first | rfl | cases h
theorem fold_set (h : nset e = true) (env : Env) (x : Value) : foldedSetIterable e env x = pure x := by
  cases e <;> first | rfl | cases h
theorem vis_of (h : visB sc x = true) : Vis sc x := by
  unfold visB at h
  unfold Vis
  cases q : sc.names.lookup x with
  | none => rw [q] at h; cases h
  | some k => rw [q] at h; cases k <;> first | exact .inl rfl | exact .inr (.inl rfl) | exact .inr (.inr rfl) | cases h
theorem glo_of (hs : X.env.scope = sc) (h : gloB sc x = true) : Gl X x := by
  unfold gloB at h
  unfold Gl Env.kindOf
  rw [hs]
  cases q : sc.names.lookup x with
  | none => rw [q] at h; cases h
  | some k => rw [q] at h; cases k <;> first | rfl | cases h
theorem okN1 (h : okN x = true) : (x == ("__debug__" : Str)) = false := by
  unfold okN at h; simp only [Bool.and_eq_true, Bool.not_eq_true'] at h; exact h.1.1
theorem okN2 (h : okN x = true) : (x == ("__classdict__" : Str)) = false := by
  unfold okN at h; simp only [Bool.and_eq_true, Bool.not_eq_true'] at h; exact h.1.2
theorem okN3 (h : okN x = true) : x ≠ ("" : Str) := by
  unfold okN at h; simp only [Bool.and_eq_true, Bool.not_eq_true'] at h; simpa using h.2
end
end Mi

set_option Elab.async false
set_option linter.all false
set_option maxRecDepth 100000
set_option maxHeartbeats 2000000
namespace Mi
open PySem PySem.Spec PyProof.Rows L2
/-! ### repr -/
/-! ### what the law's own look at an error tells -/
structure KEnt where
  c : Nat
  tag : Str
  fs : List (Str × Bool)
abbrev XTab := List (Str × List Str)
/-- exception classes are numbered from here on -/
def xc (j : Nat) : Nat := 1000 + j
def fldD (at_ : List Str) (fs : List D) (f : Str × Bool) : Option D := ((at_.zip fs).lookup f.1).bind fun d => if f.2 = true then reprD d else some d
def fldsD (at_ : List Str) (fs : List D) : List (Str × Bool) → Option (List D)
  | [] => some []
  | f :: r => (fldD at_ fs f).bind fun d => (fldsD at_ fs r).map (d :: ·)
def entD (at_ : List Str) (j : Nat) (fs : List D) (e : KEnt) : Option (List D) := if j = e.c then (fldsD at_ fs e.fs).map fun ds => [.tup (.str e.tag :: ds)] else some []
def kindsD (at_ : List Str) (j : Nat) (fs : List D) : List KEnt → Option (List D)
  | [] => some []
  | e :: r => (entD at_ j fs e).bind fun a => (kindsD at_ j fs r).map (a ++ ·)
/-- what is known of the exception classes -/
structure XEnv (K : PySem.W.Frag) (mg : Str → Option Value) (G : Ad) (xs : XTab) : Prop where
  gl : ∀ (j : Nat) x at_, xs[j]? = some (x, at_) → mg x = some (.ref (G.cls (xc j))) ∧ G.att (xc j) = at_
  xk : ∀ j, j < xs.length → XcK K (G.cls (xc j))
  kit : ∀ i j, i < xs.length → j < xs.length → PySem.W.kitOne K (.ref (G.cls (xc i))) (.ref (G.cls (xc j))) = some (decide (i = j))
  kve : ∀ j, j < xs.length → PySem.W.kitOne K (.ref (G.cls (xc j))) (.type "ValueError") = some true
  noat : ∀ j, j < xs.length → ∀ f ∈ G.att (xc j), PySem.W.findIn K (.ref (G.cls (xc j))) f = some none
  fr : mg "isinstance" = none ∧ mg "repr" = none ∧ mg "len" = none ∧ mg "ValueError" = none
def mFld (sc : Scope) (f : Str × Bool) : Expr → Bool
  | .Attribute (.Name x _) g _ => !f.2 && decide (x = ("e" : Str)) && decide (g = f.1)
  | .Call (.Name r _) [.Attribute (.Name x _) g _] [] _ => f.2 && decide (r = ("repr" : Str)) && decide (x = ("e" : Str)) && decide (g = f.1)
  | _ => false
def mFlds (sc : Scope) : List (Str × Bool) → List Expr → Bool
  | [], [] => true
  | f :: fs, e :: es => mFld sc f e && mFlds sc fs es
  | _, _ => false
def mEnt (xs : XTab) (sc : Scope) (n : KEnt) : Stmt → Bool
  | .If (.Call (.Name i _) [.Name x _, .Name c _] [] _) [.Expr (.Call (.Attribute (.Name l _) m ap) [.Tuple (.Constant (.str tg) _ _ :: es) _ _] [] cp) _] [] _ =>
    decide (i = ("isinstance" : Str)) && decide (x = ("e" : Str)) && decide ((xs[n.c]?).map (·.1) = some c) && gloB sc c && okN c && decide (l = ("found" : Str)) && decide (m = ("append" : Str)) && (ap.endLine == cp.line) && decide (tg = n.tag) && mFlds sc n.fs es && decide (es.length ≤ 10)
  | _ => false
def kN : List Str := ["e", "found"]
def kSc (sc : Scope) : Bool := decide (sc.kind = .function) && locB sc "e" && locB sc "found" && gloB sc "isinstance" && gloB sc "repr" && decide (sc.isCoroutine = false) && decide (sc.isGenerator = false) && sc.names.all (fun y => decide (y.2 ≠ .free))
/-- ents, then the tail -/
def mEnts (xs : XTab) (sc : Scope) (tl : List Stmt → Bool) : List KEnt → List Stmt → Bool
  | [], sts => tl sts
  | n :: r, sts => match sts with
    | st :: sts => mEnt xs sc n st && mEnts xs sc tl r sts
    | _ => false
section
variable {G : Ad}
theorem FOk.penK' {F H : Hp} {pn : PN} {p : PenS} (h : FOk G F H pn p) {a : Addr} (q : IsPen pn a) : ∃ kvs, H a = some (.dK kvs) := by
  obtain ⟨ca, rfl⟩ := q
  have z := h.pen
  cases p with
  | none => exact z.elim
  | some st => exact ⟨_, z.2.1⟩
theorem np_of {F H : Hp} {pn : PN} {p : PenS} {a : Addr} {o : HO} (h : FOk G F H pn p) (e : H a = some o) (n : ∀ k, o ≠ .dK k) : ¬ IsPen pn a := fun q => by
  obtain ⟨kvs, z⟩ := h.penK' q
  rw [e] at z; cases z; exact n _ rfl
theorem FOk.other' {F H : Hp} {pn : PN} {p : PenS} {a : Addr} {o : HO} (h : FOk G F H pn p) (hF : F a = none) (hp : ¬ IsPen pn a) (hpl : ∀ u, H a = some u → plainO u) : FOk G F (upd H a o) pn p := by
  refine ⟨fun b u e => ?_, ?_, h.notb, tabs_upd h.tabs hpl⟩
  · have : b ≠ a := fun z => by subst z; rw [hF] at e; cases e
    rw [upd_ne this]; exact h.sub b u e
  · have z := h.pen
    cases pn with
    | none => cases p with | none => trivial | some _ => exact z.elim
    | some q =>
      obtain ⟨pa, ca⟩ := q
      cases p with
      | none => exact z.elim
      | some st =>
        obtain ⟨z1, z2, z3⟩ := z
        have hpa : pa ≠ a := fun e => hp ⟨ca, by rw [e]⟩
        exact ⟨z1, by rw [upd_ne hpa]; exact z2, z3⟩
theorem Step.ownW' {F H F' H' : Hp} {pn : PN} {p' : PenS} {a : Addr} {o : HO} (s : Step G pn p' F H F' H') (hn : Fr H a) (hF : F' a = none) (hp : ¬ IsPen pn a) (hpl : ∀ u, H' a = some u → plainO u) : Step G pn p' F H F' (upd H' a o) where
  keep := fun b u n q e => by rw [upd_ne (ne_fr e q hn)]; exact s.keep b u n q e
  there := fun b e => by
    by_cases hb : b = a
    · subst hb; exact hn
    · exact s.there b fun u hu => e u (by rw [upd_ne hb]; exact hu)
  same := s.same
  new := s.new
  ok := s.ok.other' hF hp hpl
/-- the exception's fields, later -/
theorem XAt.later {pn : PN} {p p' : PenS} {F H F' H' : Hp} {c : Nat} {fs : List D} {dx : Addr} (x : XAt G pn F H c fs dx) (fk : FOk G F H pn p) (s : Step G pn p' F H F' H') : XAt G pn F' H' c fs dx := by
  obtain ⟨ws, h1, h2, h3⟩ := x
  refine ⟨ws, s.keep _ _ (np_of fk h1 (fun _ z => by cases z)) (fun _ z => by cases z) h1, h2, fun i f d e1 e2 => ?_⟩
  obtain ⟨v, q1, q2⟩ := h3 i f d e1 e2
  exact ⟨v, q1, q2.mono s.same⟩
theorem zip_look : ∀ {at_ : List Str} {fs : List D} {f : Str} {d : D}, (at_.zip fs).lookup f = some d → ∃ i : Nat, at_[i]? = some f ∧ fs[i]? = some d
  | [], _, _, _, h => by simp at h
  | _ :: _, [], _, _, h => by simp at h
  | a :: at_, d0 :: fs, f, d, h => by
    simp only [List.zip_cons_cons, List.lookup_cons] at h
    cases q : f == a with
    | true => rw [q] at h; cases h; exact ⟨0, by simp [beq_iff_eq.mp q], rfl⟩
    | false =>
      rw [q] at h
      obtain ⟨i, h1, h2⟩ := zip_look h
      exact ⟨i + 1, by simpa using h1, by simpa using h2⟩
/-- while the looks go on: the list at l -/
def KSt (G : Ad) (q : AO) (F0 H0 : Hp) (pn : PN) (p : PenS) (l : Addr) (acc : List D) (σ : L2.St) (H : Hp) : Prop :=
  ∃ F vs, Step G pn p F0 H0 F H ∧ H0 l = none ∧ F l = none ∧ H l = some (.lst vs) ∧ Reps G pn F vs acc ∧ σ = [some (.ref q.1), some (.ref l)] ∧ acc.length ≤ 100
end
section
variable {X : Cx} {G : Ad} {xs : XTab} {sc : Scope} {q : AO}
variable (hN : X.N = kN) (hs : X.env.scope = sc) (hsc : kSc sc = true) (hX : XEnv X.K X.mg G xs) (hq : q ∈ X.pn) (hf : ∃ vs, q.2.data = .fields vs)
theorem vis_loc {x : Str} (h : locB sc x = true) : Vis sc x := by
  unfold locB at h
  unfold Vis
  cases q : sc.names.lookup x with
  | none => rw [q] at h; cases h
  | some k => rw [q] at h; cases k <;> first | exact .inl rfl | exact .inr (.inl rfl) | cases h
include hN hs hsc
theorem k_e {p : Pos} : PE X (.Name "e" p) (tVar 0) := by
  unfold kSc at hsc
  simp only [Bool.and_eq_true] at hsc
  exact pe_var (by rw [hN]; rfl) (by rw [hs]; exact vis_loc hsc.1.1.1.1.1.1.2) (by decide +kernel) (by decide +kernel)
theorem k_found {p : Pos} : PE X (.Name "found" p) (tVar 1) := by
  unfold kSc at hsc
  simp only [Bool.and_eq_true] at hsc
  exact pe_var (by rw [hN]; rfl) (by rw [hs]; exact vis_loc hsc.1.1.1.1.1.2) (by decide +kernel) (by decide +kernel)
include hX hq hf
/-- one part of the tuple -/
theorem k_fld {f : Str × Bool} {e : Expr} (h : mFld sc f e = true) {j : Nat} {fs : List D} {dx : Addr} {F0 H0 : Hp} {pn : PN} {p : PenS} {E : XK} (hj : j < xs.length) (hz : Zc (.ref (G.cls (xc j))) (some dx) q.2)
    (fk0 : FOk G F0 H0 pn p) (hx : XAt G pn F0 H0 (xc j) fs dx) {d : D} (hd : fldD (G.att (xc j)) fs f = some d) :
    PE X e (fun σ H Q => σ[0]? = some (some (.ref q.1)) ∧ ∃ F, Step G pn p F0 H0 F H ∧ Out G (rD G pn) E pn F H (.ok d p) Q) ∧ nst e = true := by
  have gl : ∀ x, gloB sc x = true → Gl X x := fun x h => glo_of hs h
  unfold fldD at hd
  cases q1 : ((G.att (xc j)).zip fs).lookup f.1 with
  | none => rw [q1] at hd; cases hd
  | some d0 =>
    rw [q1] at hd
    simp only [Option.bind_some] at hd
    obtain ⟨i, i1, i2⟩ := zip_look q1
    have no : PySem.W.findIn X.K (.ref (G.cls (xc j))) f.1 = some none := hX.noat j hj _ (List.mem_of_getElem? i1)
    have att : ∀ {p1 p2 : Pos}, PE X (.Attribute (.Name "e" p1) f.1 p2) (fun σ H Q => σ[0]? = some (some (.ref q.1)) ∧ ∃ F, Step G pn p F0 H0 F H ∧ Out G (rD G pn) E pn F H (.ok d0 p) Q) := fun {p1 p2} => by
      refine peI (pe_xW (X := X) (a := q.1) (oe := q.2) (hX.xk j hj) no hq hz hf (k_e hN hs hsc) rfl) ?_
      rintro σ H Q ⟨h1, F, st, hQ⟩
      obtain ⟨ws, w1, w2, w3⟩ := hx.later fk0 st
      obtain ⟨v, v1, v2⟩ := w3 i f.1 d0 i1 i2
      exact ⟨.ref q.1, h1, rfl, rfl, dx, ws, v, rfl, w1, v1, hQ.here st.ok v2⟩
    unfold mFld at h
    split at h
    · simp only [Bool.and_eq_true, Bool.not_eq_true', decide_eq_true_eq] at h
      obtain ⟨⟨h1, rfl⟩, rfl⟩ := h
      rw [h1, if_neg Bool.false_ne_true] at hd
      cases hd
      exact ⟨att, rfl⟩
    · simp only [Bool.and_eq_true, decide_eq_true_eq] at h
      obtain ⟨⟨⟨h1, rfl⟩, rfl⟩, rfl⟩ := h
      rw [h1, if_pos rfl] at hd
      unfold kSc at hsc
      simp only [Bool.and_eq_true] at hsc
      refine ⟨peI (pe_callB (callR_repr (G := G) (E := E)) (gl _ hsc.1.1.1.2) hX.fr.2.1 (by decide +kernel) (pa_cons att pa_nil rfl) (by decide +kernel) (by decide +kernel) rfl rfl) ?_, rfl⟩
      rintro σ H Q ⟨h1, F, st, hQ⟩
      refine ⟨h1, F, st, fun v F' H' s' rv => ⟨F', pn, p, [d0], s'.ok, .cons rv .nil, ?_⟩⟩
      show Out G (rD G pn) E pn F' H' (R.of (reprD d0) p) Q
      rw [hd]
      exact fun b F2 H2 s2 rb => hQ b F2 H2 (s'.trans s2) rb
    · cases h
theorem k_flds {j : Nat} {fs : List D} {dx : Addr} {F0 H0 : Hp} {pn : PN} {p : PenS} {E : XK} (hj : j < xs.length) (hz : Zc (.ref (G.cls (xc j))) (some dx) q.2) (fk0 : FOk G F0 H0 pn p) (hx : XAt G pn F0 H0 (xc j) fs dx) :
    ∀ {ks : List (Str × Bool)} {es : List Expr} {ds : List D}, mFlds sc ks es = true → fldsD (G.att (xc j)) fs ks = some ds → PA X es (fun σ H Q => σ[0]? = some (some (.ref q.1)) ∧ ∃ F, Step G pn p F0 H0 F H ∧ Out G (rDs G pn) E pn F H (.ok ds p) Q) ∧ ds.length = es.length
  | [], [], ds, _, h => by
    cases h
    exact ⟨paI pa_nil fun σ H Q ⟨_, F, st, o⟩ => o.here st.ok .nil, rfl⟩
  | [], _ :: _, _, h, _ => by cases h
  | _ :: _, [], _, h, _ => by cases h
  | f :: ks, e :: es, ds, h, hd => by
    simp only [mFlds, Bool.and_eq_true] at h
    simp only [fldsD] at hd
    cases e1 : fldD (G.att (xc j)) fs f with
    | none => rw [e1] at hd; cases hd
    | some d =>
      rw [e1] at hd
      cases e2 : fldsD (G.att (xc j)) fs ks with
      | none => rw [e2] at hd; cases hd
      | some ds' =>
        rw [e2] at hd
        cases hd
        obtain ⟨pe, ns⟩ := k_fld hN hs hsc hX hq hf (E := E) h.1 hj hz fk0 hx e1
        obtain ⟨pa, hl⟩ := k_flds (E := E) hj hz fk0 hx h.2 e2
        refine ⟨paI (pa_cons pe pa (star_cons ns _)) ?_, by simp [hl]⟩
        rintro σ H Q ⟨h1, F, st, o⟩
        exact ⟨h1, F, st, fun v F' H' s' rv => ⟨h1, F', st.trans s', fun vs F2 H2 s2 rvs => o _ _ _ (s'.trans s2) (.cons (rv.mono s2.same) rvs)⟩⟩
/-- the looks, then the tail -/
theorem k_ents {j : Nat} {fs : List D} {dx l : Addr} {F0 H0 : Hp} {pn : PN} {p : PenS} (hj : j < xs.length) (hz : Zc (.ref (G.cls (xc j))) (some dx) q.2) (fk0 : FOk G F0 H0 pn p) (hx : XAt G pn F0 H0 (xc j) fs dx) {tl : List Stmt → Bool} {tt : TS}
    (htl : ∀ sts, tl sts = true → PSs X sts tt) : ∀ {ents : List KEnt} {sts : List Stmt} {acc add : List D}, mEnts xs sc tl ents sts = true → kindsD (G.att (xc j)) j fs ents = some add → acc.length + ents.length ≤ 100 →
      PSs X sts (fun Dn σ H => KSt G q F0 H0 pn p l acc σ H ∧ ∀ σ' H', KSt G q F0 H0 pn p l (acc ++ add) σ' H' → tt Dn σ' H')
  | [], sts, acc, add, h, hk, hl => by
    cases hk
    simp only [List.append_nil]
    exact pssI (htl sts h) fun Dn σ H ⟨a, b⟩ => b σ H a
  | n :: r, [], acc, add, h, hk, hl => by cases h
  | n :: r, st :: sts, acc, add, h, hk, hl => by
    simp only [mEnts, Bool.and_eq_true] at h
    simp only [kindsD] at hk
    cases e1 : entD (G.att (xc j)) j fs n with
    | none => rw [e1] at hk; cases hk
    | some a1 =>
      rw [e1] at hk
      cases e2 : kindsD (G.att (xc j)) j fs r with
      | none => rw [e2] at hk; cases hk
      | some a2 =>
        rw [e2] at hk
        cases hk
        have ha1 : a1.length ≤ 1 := by
          unfold entD at e1
          split at e1
          · cases e3 : fldsD (G.att (xc j)) fs n.fs with
            | none => rw [e3] at e1; cases e1
            | some ds => rw [e3] at e1; cases e1; simp
          · cases e1; simp
        have ih := k_ents (l := l) (acc := acc ++ a1) hj hz fk0 hx htl h.2 e2 (by simp at hl ⊢; omega)
        have h1 := h.1
        unfold mEnt at h1
        split at h1
        · rename_i i pi x px c pc pcall ll pl m ap tg kt pt es kk ptt cp pe pif
          simp only [Bool.and_eq_true, decide_eq_true_eq] at h1
          obtain ⟨⟨⟨⟨⟨⟨⟨⟨⟨⟨rfl, rfl⟩, hc⟩, hg⟩, ho⟩, rfl⟩, rfl⟩, hln⟩, rfl⟩, hfl⟩, hel⟩ := h1
          have hsc' := hsc
          unfold kSc at hsc'
          simp only [Bool.and_eq_true] at hsc'
          cases qc : xs[n.c]? with
          | none => rw [qc] at hc; cases hc
          | some z =>
            obtain ⟨cn, cat⟩ := z
            rw [qc] at hc
            cases hc
            have hnc : n.c < xs.length := (List.getElem?_eq_some_iff.mp qc).1
            have tst : PT X (.Call (.Name "isinstance" pi) [.Name "e" px, .Name cn pc] [] pcall) _ :=
              pt_truth (pe_callB (call_isW (a := q.1) (oe := q.2) (hX.xk j hj) hq hz hf) (glo_of hs hsc'.1.1.1.1.2) hX.fr.1 (by decide +kernel)
                (pa_cons (k_e hN hs hsc) (pa_cons (pe_glob (v := .ref (G.cls (xc n.c))) (glo_of hs hg) (hX.gl _ _ _ qc).1 rfl (okN1 ho)) pa_nil rfl) rfl) (by decide +kernel) (by decide +kernel) rfl rfl) (fun _ => rfl)
            by_cases hjn : j = n.c
            · -- it is of this class
              unfold entD at e1
              rw [if_pos hjn] at e1
              cases e3 : fldsD (G.att (xc j)) fs n.fs with
              | none => rw [e3] at e1; cases e1
              | some ds =>
                rw [e3] at e1
                simp only [Option.map_some, Option.some.injEq] at e1
                subst e1
                obtain ⟨pa, hdl⟩ := k_flds hN hs hsc hX hq hf (E := fun _ _ _ => False) hj hz fk0 hx hfl e3
                have tup : PE X (.Tuple (.Constant (.str n.tag) kt pt :: es) kk ptt) _ := pe_tup (pa_cons pe_str pa (star_cons rfl _))
                have body : PSs X [.Expr (.Call (.Attribute (.Name "found" pl) "append" ap) [.Tuple (.Constant (.str n.tag) kt pt :: es) kk ptt] [] cp) pe] _ :=
                  pss_one (ps_expr (pe_bm PySem.F.plainAttrs_list PySem.F.slot_list_append PySem.F.type_list_append mt_append (k_found hN hs hsc) (pa_cons tup pa_nil rfl) rfl rfl hln rfl rfl))
                refine pssI (pss_cons (ps_if tst body pss_nil) ih) ?_
                rintro Dn σ H ⟨⟨F, vs, s1, k1, k2, k3, k4, rfl, k6⟩, hT⟩
                have nl : ¬ IsPen pn l := np_of s1.ok k3 (fun _ z => by cases z)
                obtain ⟨ws, w1, _, _⟩ := hx.later fk0 s1
                refine ⟨.ref q.1, rfl, _, _, true, ws, rfl, (fun u z => z), w1, by rw [hX.kit _ _ hj hnc, hjn, decide_eq_true rfl], true, rfl, ?_⟩
                show ite (true = true) _ _
                rw [if_pos rfl]
                refine ⟨.ref l, rfl, .inl ⟨rfl, vs, .inl (.inl k3)⟩, rfl, F, s1, fun us F2 H2 s2 rus => ⟨?_, fun a ha => ?_⟩⟩
                · have := rus.length
                  simp only [List.length_cons]
                  rw [this, hdl, sizeLine_eq]; omega
                · have s3 := s1.trans s2
                  have hl2 : H2 l = some (.lst vs) := s2.keep _ _ nl (fun _ z => by cases z) k3
                  have hal : l ≠ a := fun z => by rw [z, ha] at hl2; cases hl2
                  have F2l : F2 l = none := by
                    cases z : F2 l with
                    | none => rfl
                    | some o =>
                      rcases s2.new l (by rw [z]; simp) with y | y
                      · exact absurd k2 y
                      · obtain ⟨_, y⟩ := y _ k3; cases y
                  have s4 := s3.trans (Step.laid (o := .tup (.str n.tag :: us)) s3.ok ha trivial)
                  have F3l : (upd F2 a (.tup (.str n.tag :: us))) l = none := by rw [upd_ne hal]; exact F2l
                  have H3l : (upd H2 a (.tup (.str n.tag :: us))) l = some (.lst vs) := by rw [upd_ne hal]; exact hl2
                  refine ⟨l, vs, .ref a, rfl, rfl, H3l, by rw [k4.length, sizeLine_eq]; omega, ?_⟩
                  have sm : Same F2 (upd F2 a (.tup (.str n.tag :: us))) := same_upd (s3.ok.sub.free ha)
                  have s5 := s4.ownW' (o := .lst (vs ++ [.ref a])) (.of k1) F3l nl (fun u e => by rw [H3l] at e; cases e; trivial)
                  refine ⟨⟨_, vs ++ [.ref a], s5, k1, F3l, upd_same, (k4.mono (s2.same.trans sm)).append (.cons (.tup upd_same (.cons (.str _) (rus.mono sm))) .nil), rfl, by simp at hl ⊢; omega⟩, fun σ' H' z => ?_⟩
                  exact hT σ' H' (by rw [← List.append_assoc]; exact z)
            · unfold entD at e1
              rw [if_neg hjn] at e1
              cases e1
              have body := pss_one (X := X) (ps_never (X := X) (st := .Expr (.Call (.Attribute (.Name "found" pl) "append" ap) [.Tuple (.Constant (.str n.tag) kt pt :: es) kk ptt] [] cp) pe))
              refine pssI (pss_cons (ps_if tst body pss_nil) ih) ?_
              rintro Dn σ H ⟨⟨F, vs, s1, k1, k2, k3, k4, rfl, k6⟩, hT⟩
              obtain ⟨ws, w1, _, _⟩ := hx.later fk0 s1
              refine ⟨.ref q.1, rfl, _, _, false, ws, rfl, (fun u z => z), w1, by rw [hX.kit _ _ hj hnc, decide_eq_false hjn], false, rfl, ?_⟩
              show ite (false = true) _ _
              rw [if_neg Bool.false_ne_true]
              show KSt G q F0 H0 pn p l (acc ++ []) _ H ∧ _
              rw [List.append_nil]
              exact ⟨⟨F, vs, s1, k1, k2, k3, k4, rfl, k6⟩, by simpa using hT⟩
        · cases h1
end
end Mi

set_option Elab.async false
set_option linter.all false
set_option maxRecDepth 100000
set_option maxHeartbeats 2000000
namespace Mi
open PySem PySem.Spec PyProof.Rows L2
/-! ### the law's own looks at errors, and what catches them -/
section
variable {G : Ad}
theorem Step.give' {F H F' H' : Hp} {pn : PN} {p' : PenS} {a : Addr} {o : HO} (s : Step G pn p' F H F' H') (hn : Fr H a) (hF : F' a = none) (hH : H' a = some o) (hp : ¬ IsPen pn a) (ho : plainO o) : Step G pn p' F H (upd F' a o) H' where
  keep := s.keep
  there := s.there
  same := s.same.trans (same_upd hF)
  new := fun b e => by
    by_cases hb : b = a
    · subst hb; exact .inr hn
    · rw [upd_ne hb] at e; exact s.new b e
  ok := Step.more s.ok hF hH hp ho
/-- the promise of a look -/
def spK (G : Ad) (xs : XTab) (den : Nat → List D → Option (List D)) (q : AO) : Sp := fun vs H Q E => vs = [.ref q.1] ∧ (∃ vs, q.2.data = .fields vs) ∧ ∃ F pn p j fs dx, FOk G F H pn p ∧ XAt G pn F H (xc j) fs dx ∧ j < xs.length ∧
  Zc (.ref (G.cls (xc j))) (some dx) q.2 ∧ Out G (rD G pn) E pn F H (R.of ((den j fs).map D.lst) p) Q
def denK1 (G : Ad) (ents : List KEnt) (j : Nat) (fs : List D) : Option (List D) := kindsD (G.att (xc j)) j fs ents
def denK0 (G : Ad) (e0 e1 : List KEnt) (j : Nat) (fs : List D) : Option (List D) := (denK1 G e0 j fs).bind fun a => (denK1 G e1 j fs).map (a ++ ·)
def isFound : Expr → Bool
  | .Name x _ => decide (x = ("found" : Str))
  | _ => false
def mInit : Stmt → Bool
  | .Assign [.Name x _] (.List [] _) _ => decide (x = ("found" : Str))
  | _ => false
def tl1 : List Stmt → Bool
  | [.Return (some (.Name x _)) _] => decide (x = ("found" : Str))
  | _ => false
def tl0 (sc : Scope) : List Stmt → Bool
  | [.Return (some (.BinOp (.Name x _) .Add (.Call (.Name g _) [.Name e _] [] _) _)) _] => decide (x = ("found" : Str)) && decide (g = ("_law_more_kinds" : Str)) && decide (e = ("e" : Str)) && gloB sc "_law_more_kinds"
  | _ => false
def mBody (xs : XTab) (sc : Scope) (tl : List Stmt → Bool) (ents : List KEnt) : List Stmt → Bool
  | s1 :: r => mInit s1 && mEnts xs sc tl ents r && kSc sc && decide (ents.length ≤ 20)
  | _ => false
theorem kSc_fn {sc : Scope} (h : kSc sc = true) : FnScope kN ["e"] sc := by
  unfold kSc at h
  simp only [Bool.and_eq_true, decide_eq_true_eq, List.all_eq_true] at h
  obtain ⟨⟨⟨⟨⟨⟨⟨h1, h2⟩, h3⟩, h4⟩, h5⟩, h6⟩, h7⟩, h8⟩ := h
  refine ⟨h1, h6, h7, by decide, rfl, fun x hx => ?_, h8⟩
  have : x = ("e" : Str) := by simpa using hx
  subst this
  unfold locB at h2
  cases q : sc.names.lookup ("e" : Str) with
  | none => rw [q] at h2; cases h2
  | some k => rw [q] at h2; cases k <;> first | exact .inl rfl | exact .inr rfl | cases h2
theorem kSc_found {sc : Scope} (h : kSc sc = true) : L2.Loc sc ("found" : Str) := by
  unfold kSc at h
  simp only [Bool.and_eq_true] at h
  have h3 := h.1.1.1.1.1.2
  unfold locB at h3
  unfold L2.Loc
  cases q : sc.names.lookup ("found" : Str) with
  | none => rw [q] at h3; cases h3
  | some k => rw [q] at h3; cases k <;> first | exact .inl rfl | exact .inr rfl | cases h3
variable {P : Program} {w : World} {K : PySem.W.Frag} {mg : Str → Option Value} {base : Heap} {xs : XTab}
theorem k_body (hX : XEnv K mg G xs) {qual : Str} {body : List Stmt} {scope : Scope} {f : Addr} {tl : List Stmt → Bool} {ents : List KEnt} (hb : mBody xs scope tl ents body = true)
    {cdv : Value} {A : Around} {outer : List Env} {s : Shared} {H : Hp} {E : XK} {q : AO} {tt : TS} (hf : ∃ vs, q.2.data = .fields vs)
    (htl : ∀ sts, tl sts = true → PSs (L2H.cxH (L2.CX P w) P w K mg base kN qual scope f cdv A outer s H E q) sts tt)
    {F : Hp} {pn : PN} {p : PenS} {j : Nat} {fs : List D} {dx : Addr} {add : List D} (fk : FOk G F H pn p) (hx : XAt G pn F H (xc j) fs dx) (hj : j < xs.length) (hz : Zc (.ref (G.cls (xc j))) (some dx) q.2)
    (hk : denK1 G ents j fs = some add) : ∃ t, PSs (L2H.cxH (L2.CX P w) P w K mg base kN qual scope f cdv A outer s H E q) body t ∧
      ∀ Dn, (∀ l σ' H', KSt G q F H pn p l add σ' H' → tt Dn σ' H') → t Dn (L2.start kN [.ref q.1]) H := by
  cases body with
  | nil => cases hb
  | cons s1 r =>
    simp only [mBody, Bool.and_eq_true, decide_eq_true_eq] at hb
    obtain ⟨⟨⟨h1, h2⟩, h3⟩, h4⟩ := hb
    unfold mInit at h1
    split at h1
    · have h1 := of_decide_eq_true h1
      subst h1
      rename_i x px pl ps
      have st1 := ps_set (X := L2H.cxH (L2.CX P w) P w K mg base kN qual scope f cdv A outer s H E q) (i := 1) (x := "found") (pos' := px) (pos := ps) (show kN.Nodup by decide) rfl (kSc_found h3) (pe_lst (pos := pl) pa_nil) rfl (.inl rfl)
      -- the address of the list is known only once it is made
      refine ⟨fun Dn σ H1 => σ = L2.start kN [.ref q.1] ∧ H1 = H ∧ ∀ l σ' H', KSt G q F H pn p l add σ' H' → tt Dn σ' H', ?_, fun Dn h => ⟨rfl, rfl, h⟩⟩
      refine ⟨fun pins s' σ H1 Dn I ⟨e1, e2, h⟩ => ?_⟩
      subst e1 e2
      have main : ∀ l, PSs (L2H.cxH (L2.CX P w) P w K mg base kN qual scope f cdv A outer s H1 E q) r _ := fun l => k_ents (X := L2H.cxH (L2.CX P w) P w K mg base kN qual scope f cdv A outer s H1 E q) (l := l) (acc := []) rfl rfl h3 hX (by show q ∈ [q]; simp) hf hj hz fk hx htl h2 hk (by simp; omega)
      have all : PSs (L2H.cxH (L2.CX P w) P w K mg base kN qual scope f cdv A outer s H1 E q) r (fun Dn σ' H' => ∃ l, KSt G q F H1 pn p l [] σ' H' ∧ ∀ σ2 H2, KSt G q F H1 pn p l ([] ++ add) σ2 H2 → tt Dn σ2 H2) :=
        ⟨fun pins s σ H D I ⟨l, a, b⟩ => (main l).run pins s σ H D I ⟨a, b⟩⟩
      refine (pss_cons st1 all).run pins s' _ H1 Dn I ?_
      refine ⟨by rw [sizeLine_eq]; decide, fun l hl => ?_⟩
      obtain ⟨hF, hp⟩ : F l = none ∧ ¬ IsPen pn l := ⟨fk.sub.free hl, fun z => by obtain ⟨kvs, y⟩ := fk.penK' z; rw [hl] at y; cases y⟩
      exact ⟨l, ⟨F, [], Step.side fk hl, hl, hF, upd_same, .nil, rfl, by simp⟩, fun σ2 H2 z => h l σ2 H2 z⟩
    · cases h1
/-- the further looks -/
theorem more_ok (hX : XEnv K mg G xs) {x qual : Str} {params : Arguments} {body : List Stmt} {scope : Scope} {f : Addr} {fd : FuncData} (F : FunD K x qual params body scope [] [] f fd) {ents : List KEnt} (hb : mBody xs scope tl1 ents body = true) :
    FnW P w K mg base 1 f fd ["e"] (spK G xs (denK1 G ents)) := by
  have h3 : kSc scope = true := by
    cases body with
    | nil => cases hb
    | cons s1 r => simp only [mBody, Bool.and_eq_true] at hb; exact hb.1.2
  refine fn_warm (k := 0) F (kSc_fn h3) (fun q vs H Q E h => by rw [h.1]; rfl) (fun cdv A outer s H vs Q E q rm hsp => ?_)
  obtain ⟨rfl, hf, F0, pn, p, j, fs, dx, fk, hx, hj, hz, o⟩ := hsp
  cases hk : denK1 G ents j fs with
  | none => rw [hk] at o; exact o.elim
  | some add =>
    rw [hk] at o
    obtain ⟨t, ht, hq⟩ := k_body (P := P) (w := w) (base := base) (qual := qual) (f := f) (cdv := cdv) (A := A) (outer := outer) (s := s) (E := E) hX hb hf (tt := tRet (tVar 1)) (fun sts hs => by
      unfold tl1 at hs
      split at hs
      · have hs := of_decide_eq_true hs
        subst hs
        exact pss_one (ps_ret (k_found (X := L2H.cxH (L2.CX P w) P w K mg base kN qual scope f cdv A outer s H E q) rfl rfl h3))
      · cases hs) fk hx hj hz hk
    refine ⟨t, ht, hq _ ?_⟩
    rintro l σ' H' ⟨F1, vs, s1, k1, k2, k3, k4, rfl, k6⟩
    have nl : ¬ IsPen pn l := np_of s1.ok k3 (fun _ z => by cases z)
    exact ⟨.ref l, rfl, o (.ref l) (upd F1 l (.lst vs)) H' (s1.give' (.of k1) k2 k3 nl trivial) (.lst upd_same (k4.mono (same_upd k2)))⟩
/-- the looks -/
theorem kinds_ok (hX : XEnv K mg G xs) {x qual : Str} {params : Arguments} {body : List Stmt} {scope : Scope} {f f1 : Addr} {fd fd1 : FuncData} (F : FunD K x qual params body scope [] [] f fd) {e0 e1 : List KEnt} (hb : mBody xs scope (tl0 scope) e0 body = true)
    (Fm : FnW P w K mg base 1 f1 fd1 ["e"] (spK G xs (denK1 G e1))) (hm : mg "_law_more_kinds" = some (.ref f1)) (hkp : PySem.W.keepIn K (.ref f1) = true) (hbd : Binds K fd1 ["e"] []) (he1 : e1.length ≤ 20) :
    FnW P w K mg base 2 f fd ["e"] (spK G xs (denK0 G e0 e1)) := by
  have h3 : kSc scope = true := by
    cases body with
    | nil => cases hb
    | cons s1 r => simp only [mBody, Bool.and_eq_true] at hb; exact hb.1.2
  refine fn_warm (k := 1) F (kSc_fn h3) (fun q vs H Q E h => by rw [h.1]; rfl) (fun cdv A outer s H vs Q E q rm hsp => ?_)
  obtain ⟨rfl, hf, F0, pn, p, j, fs, dx, fk, hx, hj, hz, o⟩ := hsp
  unfold denK0 at o
  cases hk : denK1 G e0 j fs with
  | none => rw [hk] at o; exact o.elim
  | some add =>
    rw [hk] at o
    cases hk1 : denK1 G e1 j fs with
    | none => rw [hk1] at o; exact o.elim
    | some add1 =>
      rw [hk1] at o
      have hq0 : q ∈ (L2H.cxH (L2.CX P w) P w K mg base kN qual scope f cdv A outer s H E q).pn := by show q ∈ [q]; simp
      obtain ⟨t, ht, hq⟩ := k_body (P := P) (w := w) (base := base) (qual := qual) (f := f) (cdv := cdv) (A := A) (outer := outer) (s := s) (E := E) hX hb hf
        (tt := fun Dn σ H => tVar 1 σ H fun x H1 => tVar 0 σ H1 fun y H2 => spK G xs (denK1 G e1) q [y] H2 (fun y H2 => r2 G (rD G) (fun _ _ _ => False) (bin .add) x y H2 Dn.rt) (fun _ _ _ => False)) (fun sts hs => by
        unfold tl0 at hs
        split at hs
        · simp only [Bool.and_eq_true, decide_eq_true_eq] at hs
          obtain ⟨⟨⟨rfl, rfl⟩, rfl⟩, hg⟩ := hs
          refine pssI (pss_one (ps_ret (pe_op (opR_bin (G := G) (E := fun _ _ _ => False) .add) (k_found (X := L2H.cxH (L2.CX P w) P w K mg base kN qual scope f cdv A outer s H E q) rfl rfl h3)
            (pe_warm (X := L2H.cxH (L2.CX P w) P w K mg base kN qual scope f cdv A outer s H E q) Fm rm hq0 (glo_of rfl hg) hm hkp hbd (pa_cons (k_e rfl rfl h3) pa_nil rfl) (by decide +kernel) rfl rfl)))) ?_
          exact fun Dn σ H z => z
        · cases hs) fk hx hj hz hk
      refine ⟨t, ht, hq _ ?_⟩
      rintro l σ' H' ⟨F1, vs, s1, k1, k2, k3, k4, rfl, k6⟩
      have nl : ¬ IsPen pn l := np_of s1.ok k3 (fun _ z => by cases z)
      have s2 := s1.give' (.of k1) k2 k3 nl trivial
      refine ⟨.ref l, rfl, .ref q.1, rfl, rfl, hf, upd F1 l (.lst vs), pn, p, j, fs, dx, s2.ok, hx.later fk s2, hj, hz, ?_⟩
      rw [hk1]
      intro v F2 H2 s3 rv
      refine ⟨F2, pn, p, .lst add, .lst add1, s3.ok, .lst (s3.same _ _ upd_same) ((k4.mono (same_upd k2)).mono s3.same), rv, ?_⟩
      have hle : add.length + add1.length ≤ sizeLine := by
        have kl : ∀ (es : List KEnt) (a : List D), kindsD (G.att (xc j)) j fs es = some a → a.length ≤ es.length := by
          intro es
          induction es with
          | nil => intro a h; cases h; simp
          | cons n r ih =>
            intro a h
            simp only [kindsD] at h
            cases z1 : entD (G.att (xc j)) j fs n with
            | none => rw [z1] at h; cases h
            | some a1 =>
              rw [z1] at h
              cases z2 : kindsD (G.att (xc j)) j fs r with
              | none => rw [z2] at h; cases h
              | some a2 =>
                rw [z2] at h
                simp only [Option.bind_some, Option.map_some, Option.some.injEq] at h
                subst h
                have q1 : a1.length ≤ 1 := by
                  unfold entD at z1
                  split at z1
                  · cases z3 : fldsD (G.att (xc j)) fs n.fs with
                    | none => rw [z3] at z1; cases z1
                    | some ds => rw [z3] at z1; cases z1; simp
                  · cases z1; simp
                have := ih _ z2
                simp only [List.length_append, List.length_cons]; omega
        have a1 := kl _ _ hk1
        rw [sizeLine_eq]; omega
      show Out G (rD G pn) _ pn F2 H2 (R.of (bin .add (.lst add) (.lst add1)) p) Q
      have eb : bin .add (.lst add) (.lst add1) = some (.lst (add ++ add1)) := by
        show (if add.length + add1.length ≤ sizeLine then some (D.lst (add ++ add1)) else none) = _
        rw [if_pos hle]
      rw [eb]
      exact fun b F3 H3 s4 rb => o b F3 H3 (s2.trans (s3.trans s4)) rb
end
end Mi

set_option Elab.async false
set_option linter.all false
set_option maxRecDepth 100000
set_option maxHeartbeats 2000000
namespace Mi
open PySem PySem.Spec PyProof.Rows L2
/-! ### the def that catches -/
def fN : List Str := ["call", "found", "e"]
def fSc (sc : Scope) : Bool := decide (sc.kind = .function) && !sc.isCoroutine && !sc.isGenerator && decide (sc.names.lookup ("call" : Str) = some NameKind.local) && decide (sc.names.lookup ("found" : Str) = some NameKind.local) && decide (sc.names.lookup ("e" : Str) = some NameKind.local) && gloB sc "_law_kinds" && gloB sc "FigureError" && gloB sc "len" && gloB sc "isinstance" && gloB sc "ValueError" && sc.names.all (fun y => decide (y.2 ≠ NameKind.free))
def isLen : Expr → Bool
  | .Call (.Name f _) [.Name x _] [] _ => decide (f = ("len" : Str)) && decide (x = ("found" : Str))
  | _ => false
def mFault (sc : Scope) : List Stmt → Bool
  | [.Assign [.Name a1 _] (.Constant .none _ _) _,
     .Try [.Expr (.Call (.Name a2 _) [] [] _) _]
       [.ExceptHandler (some (.Name a3 _)) (some a4) [.Assign [.Name a5 _] (.Call (.Name a6 _) [.Name a7 _] [] _) _,
         .Assign [.Name a8 _] (.IfExp (.BoolOp .And [.Compare l1 [.Eq] [.Constant (.int i1) _ _] _, .Call (.Name a9 _) [.Name a10 _, .Name a11 _] [] _] _) (.Subscript (.Name a12 _) (.Constant (.int i2) _ _) _) (.Tuple [.Constant (.str _) _ _, l2] _ _) _) _] _] [] [] _,
     .Return (some (.Name a13 _)) _] =>
    decide (a1 = ("found" : Str)) && decide (a2 = ("call" : Str)) && decide (a3 = ("FigureError" : Str)) && decide (a4 = ("e" : Str)) && decide (a5 = ("found" : Str)) && decide (a6 = ("_law_kinds" : Str)) && decide (a7 = ("e" : Str)) && decide (a8 = ("found" : Str)) &&
    isLen l1 && decide (i1 = 1) && decide (a9 = ("isinstance" : Str)) && decide (a10 = ("e" : Str)) && decide (a11 = ("ValueError" : Str)) && decide (a12 = ("found" : Str)) && decide (i2 = 0) && isLen l2 && decide (a13 = ("found" : Str)) && fSc sc
  | _ => false
def faultD (den : Nat → List D → Option (List D)) (j : Nat) (fs : List D) : Option D := match den j fs with
  | some [d] => some d
  | _ => none
/-- what is wanted of an error -/
def EchF (G : Ad) (xs : XTab) (den : Nat → List D → Option (List D)) (Q : VK) : XK := fun cls d H => ∃ F pn p j fs dx d0, cls = .ref (G.cls (xc j)) ∧ d = some dx ∧ j < xs.length ∧ FOk G F H pn p ∧ XAt G pn F H (xc j) fs dx ∧ faultD den j fs = some d0 ∧
  Out G (rD G pn) (fun _ _ _ => False) pn F H (.ok d0 p) Q
def TFault (G : Ad) (xs : XTab) (den : Nat → List D → Option (List D)) : (XK → Hp → VK → Prop) → Hp → VK → Prop := fun tl H Q =>
  ∀ (Q' : VK) (E' : XK), (∀ v H1, Q .non H1 → Q' v H1) → (∀ cls d H', EchF G xs den Q cls d H' → E' cls d H') → tl E' H Q'
/-- the class above all -/
def FigF (K : PySem.W.Frag) (mg : Str → Option Value) (G : Ad) (xs : XTab) : Prop := ∃ CF : Addr, mg "FigureError" = some (.ref CF) ∧ ∀ j, j < xs.length → PySem.W.exmOne K (.ref (G.cls (xc j))) (.ref CF) = some true
theorem deq_ii' {i : Int} : deq (.int i) (.int i) = some true := by
  unfold deq
  rw [if_pos (by simp [D.py, SeqAt.shaped, PyData.canLay0, PyData.depth])]
  simp [D.py, PyData.eqv]
abbrev gY (X : Cx) (x : Str) (sg : Scope) (g : Addr) (cdg : Value) (s : Shared) (H : Hp) : Cx := (cxOf C8.CX0 X.prog X.w X.K X.mg X.base fN x sg g cdg X.A X.stack s H C8.E0).nox
theorem f_len {Z : Cx} {sg : Scope} {e : Expr} (hN : Z.N = fN) (hs : Z.env.scope = sg) (c5 : sg.names.lookup ("found" : Str) = some .local) (c9 : gloB sg "len" = true) (hm : Z.mg "len" = none) (h : isLen e = true) :
    PE Z e (tCB (fun xs H Q => ∃ p ys, xs = [.ref p] ∧ (SqL Z.K H p ys ∨ SqT Z.K H p ys) ∧ Q (.int ys.length) H) (fun σ H Q => tVar 1 σ H fun x H1 => Q [x] H1)) ∧ nst e = true := by
  unfold isLen at h
  split at h
  · simp only [Bool.and_eq_true, decide_eq_true_eq] at h
    obtain ⟨rfl, rfl⟩ := h
    refine ⟨pe_callB call_len_seq (glo_of hs c9) hm (by decide +kernel) (paI (pa_cons (pe_var (i := 1) (by rw [hN]; rfl) (by rw [hs]; exact .inl c5) (by decide +kernel) (by decide +kernel)) pa_nil rfl) fun σ H Q z => z) (by decide +kernel) (by decide +kernel) rfl rfl, rfl⟩
  · cases h
theorem fault_gives {X : Cx} {G : Ad} {xs : XTab} {x q : Str} {sg : Scope} {g f0 : Addr} {cdg : Value} {bg : List Stmt} {fd0 : FuncData} {den : Nat → List D → Option (List D)} (hX : XEnv X.K X.mg G xs) (hF : FigF X.K X.mg G xs)
    (hb : mFault sg bg = true) (Fk : FnW X.prog X.w X.K X.mg X.base 2 f0 fd0 ["e"] (spK G xs den)) (hm : X.mg "_law_kinds" = some (.ref f0)) (hkp : PySem.W.keepIn X.K (.ref f0) = true) (hbd : Binds X.K fd0 ["e"] []) (hr : Room 3 X.A) :
    LamX.GivesTo X fN x sg g cdg bg "call" q (TFault G xs den) := by
  intro f c' s H Q tl act hc hT
  unfold mFault at hb
  split at hb
  · rename_i a1 p1 k1 p2 p3 a2 p4 p5 p6 a3 p7 a4 a5 p8 a6 p9 a7 p10 p11 p12 a8 p13 l1 i1 k2 p14 p15 a9 p16 a10 p17 a11 p18 p19 p20 a12 p21 i2 k3 p22 p23 sv k4 p24 l2 k5 p25 p26 p27 p28 p29 a13 p30 p31
    simp only [Bool.and_eq_true, decide_eq_true_eq] at hb
    obtain ⟨⟨⟨⟨⟨⟨⟨⟨⟨⟨⟨⟨⟨⟨⟨⟨⟨rfl, rfl⟩, rfl⟩, rfl⟩, rfl⟩, rfl⟩, rfl⟩, rfl⟩, hl1⟩, rfl⟩, rfl⟩, rfl⟩, rfl⟩, rfl⟩, rfl⟩, hl2⟩, rfl⟩, hsc⟩ := hb
    unfold fSc at hsc
    simp only [Bool.and_eq_true, decide_eq_true_eq, Bool.not_eq_true', List.all_eq_true] at hsc
    obtain ⟨⟨⟨⟨⟨⟨⟨⟨⟨⟨⟨c1, c2⟩, c3⟩, c4⟩, c5⟩, c6⟩, c7⟩, c8⟩, c9⟩, c10⟩, c11⟩, c12⟩ := hsc
    obtain ⟨CF, hCF, hex⟩ := hF
    have ndY : fN.Nodup := by decide
    -- the suite
    have suite : ∀ (a : Addr) (oe : Obj) (cls : Value) (d : Option Addr) (pn : List AO), Zc cls d oe → (∃ vs, oe.data = .fields vs) →
        PSs ((gY X x sg g cdg s H).suite a ((a, oe) :: pn)) [.Assign [.Name "found" p8] (.Call (.Name "_law_kinds" p9) [.Name "e" p10] [] p11) p12,
          .Assign [.Name "found" p13] (.IfExp (.BoolOp .And [.Compare l1 [.Eq] [.Constant (.int 1) k2 p14] p15, .Call (.Name "isinstance" p16) [.Name "e" p17, .Name "ValueError" p18] [] p19] p20) (.Subscript (.Name "found" p21) (.Constant (.int 0) k3 p22) p23) (.Tuple [.Constant (.str sv) k4 p24, l2] k5 p25) p26) p27] (fun Dn σ H' => (∃ σ0 : L2.St, σ = σ0.set 2 (some (.ref a))) ∧ EchF G xs den Q cls d H' ∧ ∀ (σ' : L2.St) v H2, σ'[1]? = some (some v) → Q v H2 → Dn.nx σ' H2) := by
      intro a oe cls d pn hz hf
      refine ⟨?_⟩
      rintro pins s' σ H' Dn I ⟨⟨σ0, rfl⟩, ⟨F, pen, p, j, fs, dx, d0, rfl, rfl, hj, fk, hx, hd, ho⟩, hDn⟩
      have hlen : σ0.length = 3 := by
        have := I.len
        rw [List.length_set] at this
        exact this
      have hq : ((a, oe) : AO) ∈ ((gY X x sg g cdg s H).suite a ((a, oe) :: pn)).pn := List.mem_cons_self
      have rm : L2H.RoomH 2 ((gY X x sg g cdg s H).suite a ((a, oe) :: pn)).A := by
        have z : Room 2 (X.A.deeper (envOfC x sg s.heap.objs.size g cdg)) := hr.deeper _
        exact ⟨z.dp, z.un⟩
      have hu : ((gY X x sg g cdg s H).suite a ((a, oe) :: pn)).A.units + 64 < cLine := by
        have := rm.un
        omega
      have pe_e : ∀ {p : Pos}, PE ((gY X x sg g cdg s H).suite a ((a, oe) :: pn)) (.Name "e" p) (tVar 2) := pe_var rfl (.inl c6) (by decide +kernel) (by decide +kernel)
      have pe_f : ∀ {p : Pos}, PE ((gY X x sg g cdg s H).suite a ((a, oe) :: pn)) (.Name "found" p) (tVar 1) := pe_var rfl (.inl c5) (by decide +kernel) (by decide +kernel)
      have st1 := ps_set (X := (gY X x sg g cdg s H).suite a ((a, oe) :: pn)) (i := 1) (x := "found") (pos' := p8) (pos := p12) ndY rfl (.inl c5)
        (pe_warm (q := (a, oe)) (p1 := p9) (p2 := p11) Fk rm hq (glo_of rfl c7) hm hkp hbd (pa_cons (pe_e (p := p10)) pa_nil rfl) (by decide +kernel) rfl rfl) rfl (.inl rfl)
      obtain ⟨pl1, nl1⟩ := f_len (Z := (gY X x sg g cdg s H).suite a ((a, oe) :: pn)) rfl rfl c5 c9 hX.fr.2.2.1 hl1
      obtain ⟨pl2, nl2⟩ := f_len (Z := (gY X x sg g cdg s H).suite a ((a, oe) :: pn)) rfl rfl c5 c9 hX.fr.2.2.1 hl2
      have t1 := pt_cmpR (pos := p15) (opR_cmp (X := (gY X x sg g cdg s H).suite a ((a, oe) :: pn)) (G := G) (E := fun _ _ _ => False) hu .eq) pl1 (pe_int (i := 1) (j := k2) (pos := p14)) (nomark _ (by decide) (by decide))
      have t2 : PT ((gY X x sg g cdg s H).suite a ((a, oe) :: pn)) (.Call (.Name "isinstance" p16) [.Name "e" p17, .Name "ValueError" p18] [] p19) _ :=
        pt_truth (pe_callB (call_isW (a := a) (oe := oe) (hX.xk j hj) hq hz hf) (glo_of rfl c10) hX.fr.1 (by decide +kernel)
          (pa_cons pe_e (pa_cons (pe_bltn (v := .ty "ValueError") (u := .type "ValueError") (glo_of rfl c11) hX.fr.2.2.2 (by decide +kernel) rfl (by decide +kernel) (by decide +kernel)) pa_nil rfl) rfl) (by decide +kernel) (by decide +kernel) rfl rfl) (fun _ => rfl)
      have ife := pe_ifExp (pos := p26) ((pw_and (pos := p20) t1 (pw_and1 t2)).pt) (pe_ix (pos := p23) (ixR (X := (gY X x sg g cdg s H).suite a ((a, oe) :: pn)) (G := G) (E := fun _ _ _ => False)) (pe_f (p := p21)) (pe_int (i := 0) (j := k3) (pos := p22)) (plain_ix rfl))
        (pe_tup (x1 := k5) (pos := p25) (pa_cons (pe_str (x := sv) (j := k4) (pos := p24)) (pa_cons pl2 pa_nil (star_cons nl2 _)) rfl))
      have st2 := ps_set (X := (gY X x sg g cdg s H).suite a ((a, oe) :: pn)) (i := 1) (x := "found") (pos' := p13) (pos := p27) ndY rfl (.inl c5) ife rfl (.inl rfl)
      refine (pss_cons st1 (pss_one st2)).run pins s' _ H' Dn I ?_
      refine ⟨.ref a, by rw [List.getElem?_set_self (by omega)], rfl, hf, F, pen, p, j, fs, dx, fk, hx, hj, hz, ?_⟩
      have hd1 : den j fs = some [d0] := by
        unfold faultD at hd
        split at hd
        · rename_i z; cases hd; exact z
        · cases hd
      rw [hd1]
      intro v F1 H1 s1 rv
      obtain ⟨l, vs, rfl, e1, r1⟩ := rv.lst_inv
      obtain ⟨u, rfl, ru⟩ := r1.one
      have g1 : ((σ0.set 2 (some (.ref a))).set 1 (some (V.ref l)))[1]? = some (some (.ref l)) := List.getElem?_set_self (by rw [List.length_set]; omega)
      have g2 : ((σ0.set 2 (some (.ref a))).set 1 (some (V.ref l)))[2]? = some (some (.ref a)) := by rw [List.getElem?_set_ne (by decide), List.getElem?_set_self (by omega)]
      obtain ⟨ws, w1, _, _⟩ := hx.later fk s1
      have hit : PySem.W.kitOne X.K (.ref (G.cls (xc j))) (.type "ValueError") = some true := hX.kve j hj
      refine ⟨.ref l, g1, l, [u], rfl, .inl (.inl (.inl (s1.ok.sub _ _ e1))), F1, pen, p, .int 1, .int 1, s1.ok, .int _, .int _, ?_⟩
      show Out G (rD G pen) _ pen F1 H1 (R.of ((deq (.int 1) (.int 1)).map D.bl) p) _
      rw [deq_ii']
      intro b F2 H2 s2 rb
      cases rb
      refine ⟨true, rfl, ?_⟩
      show ite (true = true) _ _
      rw [if_pos rfl]
      have w2 := s2.keep _ _ (np_of s1.ok w1 (fun _ z => by cases z)) (fun _ z => by cases z) w1
      refine ⟨.ref a, g2, .ty "ValueError", .type "ValueError", true, ws, rfl, (fun u z => z), w2, hit, true, rfl, ?_⟩
      show ite (true = true) _ _
      rw [if_pos rfl]
      refine ⟨.ref l, g1, F2, pen, p, .lst [d0], .int 0, s2.ok, .lst (s2.same _ _ e1) ((Reps.cons ru .nil).mono s2.same), .int 0, ?_⟩
      show Out G (rD G pen) _ pen F2 H2 (R.of (some d0) p) _
      intro v F3 H3 s3 rv3
      refine hDn _ v H3 ?_ (ho v F3 H3 (s1.trans (s2.trans s3)) rv3)
      rw [List.getElem?_set_self (by rw [List.length_set, List.length_set]; omega)]
    have try_ := ps_try_as (X := gY X x sg g cdg s H) (pos := p29) (i := 2) (c := .ref CF) (np := p7) (pos' := p28) (body := [.Expr (.Call (.Name "call" p4) [] [] p5) p6])
      (tb := fun W Dn σ H => ∃ Ech : XK, (∀ cls d σ' H', Ech cls d H' → W cls d σ' H') ∧ σ[0]? = some (some (.ref f)) ∧ H c' = some (LamX.CodeO c' q) ∧ tl Ech H (fun _ H1 => Dn.nx σ H1))
      rfl rfl ndY rfl c6 ⟨glo_of rfl c8, by decide +kernel, .inl hCF⟩ LamX.takes0 (fun W pn xe tk _ => by
        refine ⟨fun pins s' σ H' Dn I ⟨Ech, hW, h1, h2, h3⟩ => ?_⟩
        exact (pss_one (ps_expr (pos := p6) (act W pn xe Ech p4 p5 tk hW) rfl)).run pins s' σ H' Dn I ⟨h1, h2, h3⟩) suite
    have st1 := ps_set (X := gY X x sg g cdg s H) (i := 1) (x := "found") (pos' := p1) (pos := p3) ndY rfl (.inl c5) (pe_non (j := k1) (pos := p2)) rfl (.inl rfl)
    have st3 := ps_ret (X := gY X x sg g cdg s H) (pos := p31) (pe_var (X := gY X x sg g cdg s H) (i := 1) (x := "found") (pos := p30) rfl (.inl c5) (by decide +kernel) (by decide +kernel))
    refine ⟨_, pss_cons st1 (pss_cons try_ (pss_one st3)), ?_⟩
    show ∃ Ech : XK, _
    refine ⟨EchF G xs den Q, ?_, rfl, hc, hT _ _ (fun v H1 z => ⟨.non, rfl, z⟩) fun _ _ _ z => z⟩
    rintro cls d σ' H' ⟨F, pen, p, j, fs, dx, d0, rfl, rfl, hj, fk, hx, hd, ho⟩
    refine ⟨true, hex j hj, fun _ a ha => ⟨⟨σ', rfl⟩, ⟨F, pen, p, j, fs, dx, d0, rfl, rfl, hj, fk, hx, hd, ho⟩, fun σ2 v H2 h1 h2 => ?_⟩, fun z => by cases z⟩
    exact ⟨v, by rw [List.getElem?_set_ne (by decide)]; exact h1, h2⟩
  · cases hb
end Mi

set_option Elab.async false
set_option linter.all false
set_option maxRecDepth 100000
namespace Mi
open PySem PySem.Spec PyProof.Rows L2
/-! ### what the __init__ of an exception promises -/
def spX (C : Addr) (at_ : List Str) : Sp := fun vs H Q _ => ∃ a args, vs = .ref a :: args ∧ args.length = at_.length ∧ H a = some (exo a C none) ∧
  ∀ d fs H2, H d = none → d ≠ a → H2 a = some (exo a C (some d)) → H2 d = some (exd d fs) → (∀ b, b ≠ a → b ≠ d → H2 b = H b) → (∀ (i : Nat) f v, at_[i]? = some f → args[i]? = some v → fs.lookup f = some v) → Q .non H2
structure ExcF (P : Program) (w : World) (K : PySem.W.Frag) (mg : Str → Option Value) (base : Heap) (C : Addr) (at_ : List Str) : Prop where
  ox : OexC K C
  ne : at_ ≠ []
  sm : at_.length ≤ 900
  ini : ∃ fI fd, PySem.W.findIn K (.ref C) "__init__" = some (some (.ref fI)) ∧ PySem.W.typeIn K (.ref fI) = some (.type "function") ∧ FnOk P w K mg base (L2.CX P w) 1 fI fd ("self" :: at_) (spX C at_) ∧ Binds K fd ("self" :: at_) []
/-- the def that catches, told of a context -/
structure FltC (T : Tab) (S : Sem0) (G : Ad) (lv : Nat → Nat) (X : Cx) : Prop where
  lam : T.lamN T.fg = false ∧ ∀ i, T.lamN i = true → lv i + 1 ≤ T.k2
  room : Room (T.k2 + 2) X.A
  at_ : ∃ c P, X.env.code = .ref c ∧ LamX.TabB X.base X.mg c P ∧ (P, X.env.qual ++ "<lambda>") ∈ G.tabs ∧ ∀ p ∈ G.tabs, p.1 = P → p.2 = X.env.qual ++ "<lambda>"
  df : ∃ (x : Str) (gA : Addr) (pg : Arguments) (bg : List Stmt) (sg : Scope) (dV kV doc pm cdv ct oc : Value) (an od : Option Addr) (osl : Array (Option Value)) (den : Nat → List D → Option (List D)),
    T.fns[T.fg]? = some (x, 1) ∧ X.mg x = some (.ref gA) ∧ PySem.W.keepIn X.K (.ref gA) = true ∧ X.K.lookup gA = some ⟨oc, od, .func (PySem.W.fnOf x x pg bg sg dV kV doc pm an cdv ct), osl⟩ ∧ PySem.W.codeIn X.K cdv x = true ∧
    L2.Binds X.K (PySem.W.fnOf x x pg bg sg dV kV doc pm an cdv ct) ["call"] [] ∧ FnScope fN ["call"] sg ∧ Vis sg "call" ∧ (∀ q, LamX.GivesTo X fN x sg gA cdv bg "call" q (TFault G T.excs den)) ∧
    ∀ c fs d, S.flt c fs = some d → ∃ j, c = xc j ∧ j < T.excs.length ∧ faultD den j fs = some d

/-! ### where one stands -/
structure Ctx (T : Tab) (S : Sem0) (G : Ad) (lv : Nat → Nat) (n nc : Nat → Bool) (N : List Str) (sc sc0 : Scope) (E : XK) (X : Cx) : Prop where
  hN : X.N = N
  nd : N.Nodup
  hsc : X.env.scope = sc
  loc : ∀ x, locB sc0 x = true → Loc X.env.scope x ∧ (X.fn x = true ∨ X.env.scope.names.lookup x = some .local)
  calm : X.calm = true
  units : X.A.units + 64 < cLine
  room : ∀ i, n i = true → Room (lv i) X.A
  con : ∀ i x v, T.cons[i]? = some (x, v) → S.con i = some v ∧ ∃ t, X.mg x = some (.int v t)
  fns : ∀ i x m, n i = true → T.fns[i]? = some (x, m) → ∃ fd ps, FnOk X.prog X.w X.K X.mg X.base (L2.CX X.prog X.w) (lv i) (G.fad i) fd ps (spOf G m (S.den i)) ∧ (x ≠ ("" : Str) → X.mg x = some (.ref (G.fad i)) ∧ PySem.W.keepIn X.K (.ref (G.fad i)) = true) ∧ Binds X.K fd ps []
  free : ∀ x ∈ bltN, X.mg x = none
  hnc : G.nc = T.clss.length
  att : S.att = G.att
  clsF : ClsF X.K G
  clsM : ∀ c x m at_, T.clss[c]? = some (x, m, at_) → X.mg x = some (.ref (G.cls c))
  mks : ∀ c x m at_, nc c = true → T.clss[c]? = some (x, m, at_) → ∃ f fd ps, FnOk X.prog X.w X.K X.mg X.base (L2.CX X.prog X.w) (T.ilv c) f fd ps (spIni G c m (S.ini c)) ∧ Mk X.K (G.cls c) f ∧ Binds X.K fd ps [] ∧ Room (T.ilv c + 1) X.A
  eqs : ∀ c k, (c, k) ∈ T.eqs → n k = true → c < G.nc ∧ ∃ f fd ps, FnOk X.prog X.w X.K X.mg X.base (L2.CX X.prog X.w) (lv k) f fd ps (spOf G 2 (S.den k)) ∧ Binds X.K fd ps [] ∧ Room (lv k + 1) X.A ∧
    PySem.W.findIn X.K (.ref (G.cls c)) "__ne__" = some (some (.builtin "object.__ne__")) ∧ PySem.W.findIn X.K (.ref (G.cls c)) "__eq__" = some (some (.ref f)) ∧ PySem.W.isFn X.K (.ref f) = true
  exc : ∀ j x at_, T.excs[j]? = some (x, at_) → nc (xc j) = true → X.mg x = some (.ref (G.cls (xc j))) ∧ G.att (xc j) = at_ ∧ ExcF X.prog X.w X.K X.mg X.base (G.cls (xc j)) at_ ∧ Room 2 X.A
  flt : n T.fg = true → FltC T S G lv X
  pass : Passes (L2.CX X.prog X.w) X E

end Mi

set_option Elab.async false
set_option linter.all false
set_option maxRecDepth 100000
namespace Mi
open PySem PySem.Spec PyProof.Rows L2

/-! ### what is walked -/
structure JOk (G : Ad) (pn : PN) (F : Hp) (J : It) (ds : List D) : Prop where
  go : ∀ i H, Same F H → i < ds.length → J.go i H
  stop : ∀ i H, Same F H → ds.length ≤ i → J.stop i H
  yld : ∀ i H x H' F1 p, Same F F1 → FOk G F1 H pn p → J.yld i H x H' → i < ds.length → ∃ d F2, ds[i]? = some d ∧ Step G pn p F1 H F2 H' ∧ Rep G pn F2 x d
abbrev rJ (G : Ad) (pn : PN) : Hp → It → List D → Prop := fun F J ds => JOk G pn F J ds
abbrev tI (G : Ad) (E : XK) (ev : DEnv → PenS → R (List D)) : TI := tG G (rJ G) E ev
theorem piI {X : Cx} {tg e : Expr} {t t' : TI} (h : PI X tg e t) (i : ∀ σ H Q, t' σ H Q → t σ H Q) : PI X tg e t' := ⟨fun pins s σ H Q I q => h.run pins s σ H Q I (i σ H Q q)⟩
section
variable {G : Ad} {pn : PN} {F : Hp} {K : PySem.W.Frag}
theorem sqL_inj {H : Hp} {a : Addr} {xs ys : List V} (h : H a = some (.lst xs)) (q : ∀ zs, SqL K H a zs → zs[0]? = ys[0]? ) : True := trivial
theorem jok_lst {a : Addr} {vs : List V} {ds : List D} (e : F a = some (.lst vs)) (r : Reps G pn F vs ds) : JOk G pn F (Itl K a) ds where
  go := fun i H s hi => by
    obtain ⟨v, hv, _⟩ := r.get (List.getElem?_eq_getElem hi)
    exact ⟨vs, v, SqL.of (s _ _ e), hv⟩
  stop := fun i H s hi => ⟨vs, SqL.of (s _ _ e), by rw [r.length]; exact hi⟩
  yld := fun i H x H' F1 p s fk y hi => by
    obtain ⟨rfl, y⟩ := y
    have hx := y vs (SqL.of (fk.sub _ _ (s _ _ e)))
    obtain ⟨d, hd, rd⟩ := r.get' hx
    exact ⟨d, F1, hd, Step.refl fk, rd.mono s⟩
theorem jok_tup {a : Addr} {vs : List V} {ds : List D} (e : F a = some (.tup vs)) (r : Reps G pn F vs ds) : JOk G pn F (Itt K a) ds where
  go := fun i H s hi => by
    obtain ⟨v, hv, _⟩ := r.get (List.getElem?_eq_getElem hi)
    exact ⟨vs, v, SqT.of (s _ _ e), hv⟩
  stop := fun i H s hi => ⟨vs, SqT.of (s _ _ e), by rw [r.length]; exact hi⟩
  yld := fun i H x H' F1 p s fk y hi => by
    obtain ⟨rfl, y⟩ := y
    have hx := y vs (SqT.of (fk.sub _ _ (s _ _ e)))
    obtain ⟨d, hd, rd⟩ := r.get' hx
    exact ⟨d, F1, hd, Step.refl fk, rd.mono s⟩
theorem rng_get {a b : Int} {i : Nat} (h : i < (b - a).toNat) : (rng a b)[i]? = some (.int (a + (i : Nat))) := by
  unfold rng
  rw [List.getElem?_map, List.getElem?_range h]
  rfl
theorem rng_length (a b : Int) : (rng a b).length = (b - a).toNat := by unfold rng; rw [List.length_map, List.length_range]
theorem jok_rng (a b : Int) : JOk G pn F (Itr a (b - a).toNat) (rng a b) where
  go := fun i H s hi => by rw [rng_length] at hi; exact hi
  stop := fun i H s hi => by rw [rng_length] at hi; exact hi
  yld := fun i H x H' F1 p s fk y hi => by
    obtain ⟨rfl, rfl⟩ := y
    rw [rng_length] at hi
    exact ⟨_, F1, rng_get hi, Step.refl fk, .int _⟩
theorem zipD_get : ∀ {xs ys : List D} {i : Nat} {x y : D}, xs[i]? = some x → ys[i]? = some y → (zipD xs ys)[i]? = some (.tup [x, y])
  | [], _, _, _, _, h, _ => by simp at h
  | _ :: _, [], _, _, _, _, h => by simp at h
  | x :: xs, y :: ys, 0, _, _, h1, h2 => by simp at h1 h2; subst h1 h2; rfl
  | x :: xs, y :: ys, i + 1, _, _, h1, h2 => by
    simp only [zipD, List.getElem?_cons_succ] at *
    exact zipD_get h1 h2
theorem zipD_length : ∀ (xs ys : List D), (zipD xs ys).length = min xs.length ys.length
  | [], _ => by simp [zipD]
  | _ :: _, [] => by simp [zipD]
  | x :: xs, y :: ys => by simp only [zipD, List.length_cons, zipD_length xs ys]; omega
theorem enumD_get : ∀ {xs : List D} {n i : Nat} {x : D}, xs[i]? = some x → (enumD n xs)[i]? = some (.tup [.int ((n + i : Nat) : Int), x])
  | [], _, _, _, h => by simp at h
  | x :: xs, n, 0, _, h => by simp at h; subst h; rfl
  | x :: xs, n, i + 1, _, h => by
    simp only [enumD, List.getElem?_cons_succ] at *
    rw [enumD_get h]
    congr 5
    omega
theorem enumD_length : ∀ (n : Nat) (xs : List D), (enumD n xs).length = xs.length
  | _, [] => rfl
  | n, x :: xs => by simp [enumD, enumD_length (n + 1) xs]
/-- a new pair is laid -/
theorem step_pair {H : Hp} {p : PenS} {T : Addr} {vs : List V} {ds : List D} (fk : FOk G F H pn p) (hn : H T = none) (r : Reps G pn F vs ds) :
    Step G pn p F H (upd F T (.tup vs)) (upd H T (.tup vs)) ∧ Rep G pn (upd F T (.tup vs)) (.ref T) (.tup ds) :=
  ⟨Step.laid fk hn trivial, .tup upd_same (r.mono (same_upd (fk.sub.free hn)))⟩
theorem jok_zipL {a b : Addr} {vs ws : List V} {ds es : List D} (e1 : F a = some (.lst vs)) (r1 : Reps G pn F vs ds) (e2 : F b = some (.lst ws)) (r2 : Reps G pn F ws es) : JOk G pn F (Itz K a b) (zipD ds es) where
  go := fun i H s hi => by
    rw [zipD_length] at hi
    obtain ⟨v, hv, _⟩ := r1.get (List.getElem?_eq_getElem (show i < ds.length by omega))
    obtain ⟨w, hw, _⟩ := r2.get (List.getElem?_eq_getElem (show i < es.length by omega))
    exact ⟨vs, ws, v, w, SqL.of (s _ _ e1), SqL.of (s _ _ e2), hv, hw⟩
  stop := fun i H s hi => by
    rw [zipD_length] at hi
    refine ⟨vs, ws, SqL.of (s _ _ e1), SqL.of (s _ _ e2), ?_⟩
    rw [r1.length, r2.length]; omega
  yld := fun i H x H' F1 p s fk y hi => by
    obtain ⟨T, x, y, rfl, hn, rfl, h1, h2⟩ := y
    have hx := h1 vs (SqL.of (fk.sub _ _ (s _ _ e1)))
    have hy := h2 ws (SqL.of (fk.sub _ _ (s _ _ e2)))
    obtain ⟨d, hd, rd⟩ := r1.get' hx
    obtain ⟨e, he, re⟩ := r2.get' hy
    obtain ⟨q1, q2⟩ := step_pair fk hn (.cons (rd.mono s) (.cons (re.mono s) .nil))
    exact ⟨_, _, zipD_get hd he, q1, q2⟩
theorem jok_zipT {a b : Addr} {vs ws : List V} {ds es : List D} (e1 : F a = some (.tup vs)) (r1 : Reps G pn F vs ds) (e2 : F b = some (.tup ws)) (r2 : Reps G pn F ws es) : JOk G pn F (RZ.ItzT K a b) (zipD ds es) where
  go := fun i H s hi => by
    rw [zipD_length] at hi
    obtain ⟨v, hv, _⟩ := r1.get (List.getElem?_eq_getElem (show i < ds.length by omega))
    obtain ⟨w, hw, _⟩ := r2.get (List.getElem?_eq_getElem (show i < es.length by omega))
    exact ⟨vs, ws, v, w, SqT.of (s _ _ e1), SqT.of (s _ _ e2), hv, hw⟩
  stop := fun i H s hi => by
    rw [zipD_length] at hi
    refine ⟨vs, ws, SqT.of (s _ _ e1), SqT.of (s _ _ e2), ?_⟩
    rw [r1.length, r2.length]; omega
  yld := fun i H x H' F1 p s fk y hi => by
    obtain ⟨T, x, y, rfl, hn, rfl, h1, h2⟩ := y
    have hx := h1 vs (SqT.of (fk.sub _ _ (s _ _ e1)))
    have hy := h2 ws (SqT.of (fk.sub _ _ (s _ _ e2)))
    obtain ⟨d, hd, rd⟩ := r1.get' hx
    obtain ⟨e, he, re⟩ := r2.get' hy
    obtain ⟨q1, q2⟩ := step_pair fk hn (.cons (rd.mono s) (.cons (re.mono s) .nil))
    exact ⟨_, _, zipD_get hd he, q1, q2⟩
theorem jok_enum {a : Addr} {vs : List V} {ds : List D} (e1 : F a = some (.lst vs)) (r1 : Reps G pn F vs ds) : JOk G pn F (Ite K a) (enumD 0 ds) where
  go := fun i H s hi => by
    rw [enumD_length] at hi
    obtain ⟨v, hv, _⟩ := r1.get (List.getElem?_eq_getElem hi)
    exact ⟨vs, v, SqL.of (s _ _ e1), hv⟩
  stop := fun i H s hi => ⟨vs, SqL.of (s _ _ e1), by rw [enumD_length] at hi; rw [r1.length]; exact hi⟩
  yld := fun i H x H' F1 p s fk y hi => by
    obtain ⟨T, x, rfl, hn, rfl, h1⟩ := y
    have hx := h1 vs (SqL.of (fk.sub _ _ (s _ _ e1)))
    obtain ⟨d, hd, rd⟩ := r1.get' hx
    obtain ⟨q1, q2⟩ := step_pair fk hn (.cons (.int ((i : Nat) : Int)) (.cons (rd.mono s) .nil))
    refine ⟨_, _, enumD_get hd, q1, ?_⟩
    rw [Nat.zero_add]
    exact q2
end

/-! ### targets -/
theorem DR.set {G : Ad} {pn : PN} {σ : L2.St} {ρ : DEnv} {F : Hp} (h : DR G pn σ ρ F) {v : V} {d : D} (r : Rep G pn F v d) (i : Nat) : DR G pn (σ.set i (some v)) (ρ.set i (some d)) F := by
  refine ⟨by rw [List.length_set, List.length_set]; exact h.1, fun j e q => ?_⟩
  by_cases hj : i = j
  · subst hj
    by_cases hl : i < ρ.length
    · rw [List.getElem?_set_self hl] at q
      cases q
      exact ⟨v, List.getElem?_set_self (by rw [h.1]; exact hl), r⟩
    · rw [List.getElem?_eq_none (by simpa using hl)] at q; cases q
  · rw [List.getElem?_set_ne hj] at q
    rw [List.getElem?_set_ne hj]
    exact h.2 j e q
theorem DR.wipe {G : Ad} {pn : PN} {σ : L2.St} {ρ : DEnv} {F : Hp} (h : DR G pn σ ρ F) : ∀ vs : List Nat, DR G pn (wipe σ vs) (wipeD ρ vs) F
  | [] => h
  | v :: vs => by
    have ih := h.wipe vs
    refine ⟨by unfold L2.wipe wipeD; rw [List.length_set, List.length_set]; exact ih.1, fun j e q => ?_⟩
    unfold wipeD at q
    unfold L2.wipe
    by_cases hj : v = j
    · subst hj
      by_cases hl : v < (wipeD ρ vs).length
      · rw [List.getElem?_set_self hl] at q; cases q
      · rw [List.getElem?_eq_none (by simpa using hl)] at q; cases q
    · rw [List.getElem?_set_ne hj] at q
      rw [List.getElem?_set_ne hj]
      exact ih.2 j e q
theorem wipe_get (σ : L2.St) : ∀ (vs : List Nat) (j : Nat), (wipe σ vs)[j]? = if j ∈ vs ∧ j < σ.length then some none else σ[j]?
  | [], j => by simp [L2.wipe]
  | v :: vs, j => by
    unfold L2.wipe
    by_cases hj : v = j
    · subst hj
      by_cases hl : v < σ.length
      · rw [List.getElem?_set_self (by rw [wipe_length]; exact hl), if_pos ⟨by simp, hl⟩]
      · rw [List.getElem?_eq_none (by rw [List.length_set, wipe_length]; omega), if_neg (by omega), List.getElem?_eq_none (by omega)]
    · rw [List.getElem?_set_ne hj, wipe_get σ vs j]
      have : (j ∈ v :: vs) ↔ j ∈ vs := by simp [Ne.symm hj]
      simp only [this]
theorem wipe_wipe (σ : L2.St) (vs : List Nat) : wipe (wipe σ vs) vs = wipe σ vs := by
  apply List.ext_getElem?
  intro j
  rw [wipe_get, wipe_get, wipe_length]
  split <;> rfl
theorem wipe_set {σ : L2.St} {vs : List Nat} {i : Nat} (x : Option V) (h : i ∈ vs) : wipe (σ.set i x) vs = wipe σ vs := by
  apply List.ext_getElem?
  intro j
  rw [wipe_get, wipe_get, List.length_set]
  split
  · rfl
  · rename_i hh
    by_cases hj : i = j
    · subst hj
      have hl : ¬ i < σ.length := fun z => hh ⟨h, z⟩
      rw [List.getElem?_eq_none (by rw [List.length_set]; omega), List.getElem?_eq_none (by omega)]
    · rw [List.getElem?_set_ne hj]
/-- a target by what it does to the meaning -/
def tgSt (σ : L2.St) : Tg → D → V → L2.St → Prop := fun _ _ _ _ => True
section
variable {G : Ad} {X : Cx} {N : List Str} {sc0 : Scope}
def gT (G : Ad) (vs : List Nat) (tg : Tg) : TG := fun v σ H Q => ∃ ρ F pn p d ρ', DR G pn σ ρ F ∧ FOk G F H pn p ∧ Rep G pn F v d ∧ asgTg ρ tg d = some ρ' ∧ ∀ σ', DR G pn σ' ρ' F → wipe σ' vs = wipe σ vs → Q σ' H
def gsT (G : Ad) (vs : List Nat) (is : List Nat) : TGs := fun xs σ H Q => ∃ ρ F pn p ds ρ', DR G pn σ ρ F ∧ FOk G F H pn p ∧ Reps G pn F xs ds ∧ setAll ρ is ds = some ρ' ∧ ∀ σ', DR G pn σ' ρ' F → wipe σ' vs = wipe σ vs → Q σ' H
theorem nst_asg {e : Expr} (h : nst e = true) (es : List Expr) (env : Env) : (assignEach (e :: es) env) = (false, assign e env) :: assignEach es env := by
  cases e <;> first | rfl | cases h
theorem mNms_nst : ∀ {is : List Nat} {es : List Expr}, mNms N sc0 is es = true → (∀ e ∈ es, nst e = true) ∧ is.length = es.length
  | [], [], _ => ⟨fun e h => by simp at h, rfl⟩
  | [], _ :: _, h => by cases h
  | _ :: _, [], h => by cases h
  | i :: is, e :: es, h => by
    simp only [mNms, Bool.and_eq_true] at h
    obtain ⟨q1, q2⟩ := mNms_nst h.2
    exact ⟨fun e' he => by
      rcases List.mem_cons.mp he with rfl | he
      · exact h.1.1
      · exact q1 e' he, by simp [q2]⟩
theorem asg_len : ∀ {es : List Expr}, (∀ e ∈ es, nst e = true) → ∀ (env : Env), (assignEach es env).length = es.length ∧ (assignEach es env).findIdx? (·.1) = none
  | [], _, _ => ⟨rfl, rfl⟩
  | e :: es, h, env => by
    obtain ⟨q1, q2⟩ := asg_len (es := es) (fun e he => h e (by simp [he])) env
    rw [nst_asg (h e (by simp))]
    refine ⟨by simp [q1], ?_⟩
    rw [List.findIdx?_cons, q2]
    rfl
variable (hN : X.N = N) (nd : N.Nodup) (loc : ∀ x, locB sc0 x = true → Loc X.env.scope x ∧ (X.fn x = true ∨ X.env.scope.names.lookup x = some .local)) (calm : X.calm = true) (vs : List Nat)
include hN nd loc
theorem pg_nm {i : Nat} {e : Expr} (h : mNm N sc0 i e = true) (hv : i ∈ vs) : PG X e (gT G vs (.nm i)) := by
  unfold mNm at h
  split at h
  · rename_i x pos
    simp only [Bool.and_eq_true, decide_eq_true_eq] at h
    obtain ⟨⟨h1, h2⟩, h3⟩ := h
    obtain ⟨l1, l2⟩ := loc x h2
    have pg : PG X (.Name x pos) (gName i) := pg_name (by rw [hN]; exact nd) (by rw [hN]; exact h1) l1 l2
    refine ⟨fun pins s σ H v u Q I r ⟨ρ, F, pn, p, d, ρ', dr, fk, rv, ha, q⟩ => pg.run pins s σ H v u Q I r ?_⟩
    cases ha
    exact q _ (dr.set rv i) (wipe_set _ hv)
  · cases h
theorem pgs_nms : ∀ {is : List Nat} {es : List Expr}, mNms N sc0 is es = true → (∀ i ∈ is, i ∈ vs) → PGs X es (gsT G vs is)
  | [], [], _, _ => by
    refine ⟨fun pins s σ H xs us Q I r ⟨ρ, F, pn, p, ds, ρ', dr, fk, rs, ha, q⟩ => ?_⟩
    cases ds with
    | nil =>
      cases rs
      cases ha
      exact (pgs_nil (X := X)).run pins s σ H [] us Q I r ⟨rfl, q _ dr rfl⟩
    | cons _ _ => cases ha
  | [], _ :: _, h, _ => by cases h
  | _ :: _, [], h, _ => by cases h
  | i :: is, e :: es, h, hv => by
    simp only [mNms, Bool.and_eq_true] at h
    have pg := pg_nm (G := G) hN nd loc vs h.1.2 (hv i (by simp))
    have pgs := pgs_nms (is := is) (es := es) h.2 (fun j hj => hv j (by simp [hj]))
    have z := pgs_cons pg pgs (by rw [nst_asg h.1.1]; rfl)
    refine ⟨fun pins s σ H xs us Q I r ⟨ρ, F, pn, p, ds, ρ', dr, fk, rs, ha, q⟩ => z.run pins s σ H xs us Q I r ?_⟩
    cases ds with
    | nil => cases ha
    | cons d ds =>
      cases rs with
      | cons r1 r2 =>
        refine ⟨_, _, rfl, ρ, F, pn, p, d, _, dr, fk, r1, rfl, fun σ' dr' hw => ⟨_, F, pn, p, ds, ρ', dr', fk, r2, ha, fun σ'' dr'' hw' => q σ'' dr'' (hw'.trans hw)⟩⟩
include calm
theorem pg_tg {tg : Tg} {e : Expr} (h : mTg N sc0 tg e = true) (hv : tgIn vs tg = true) : PG X e (gT G vs tg) := by
  cases tg with
  | nm i => exact pg_nm hN nd loc vs h (by simpa [tgIn] using hv)
  | tp is =>
    simp only [mTg] at h
    split at h
    · rename_i es k pos
      obtain ⟨q1, q2⟩ := mNms_nst h
      obtain ⟨q3, q4⟩ := asg_len q1 X.env
      have pgs := pgs_nms (G := G) hN nd loc vs h (by simpa [tgIn] using hv)
      have z := pg_tup (k := k) (pos := pos) calm pgs q3 q4
      refine ⟨fun pins s σ H v u Q I r ⟨ρ, F, pn, p, d, ρ', dr, fk, rv, ha, q⟩ => z.run pins s σ H v u Q I r ?_⟩
      cases d with
      | tup ds =>
        obtain ⟨a, ws, rfl, e1, r1⟩ := rv.tup_inv
        have hl : ∀ {is : List Nat} {ds : List D} {ρ : DEnv}, setAll ρ is ds = some ρ' → is.length = ds.length := by
          intro is
          induction is with
          | nil => intro ds ρ h; cases ds <;> simp [setAll] at h ⊢
          | cons i is ih =>
            intro ds ρ h
            cases ds with
            | nil => simp [setAll] at h
            | cons d ds => simp only [setAll] at h; simp [ih h]
        exact ⟨a, ws, rfl, .inl (.inl (fk.sub _ _ e1)), by rw [r1.length, ← hl ha, q2], ρ, F, pn, p, ds, ρ', dr, fk, r1, ha, q⟩
      | _ => cases ha
    · cases h
end
end Mi

set_option Elab.async false
set_option linter.all false
set_option maxRecDepth 100000
namespace Mi
open PySem PySem.Spec PyProof.Rows L2
section
variable {G : Ad} {E : XK} {pn : PN} {F H : Hp} {p : PenS}
theorem Out.ret {α β : Type} {rep : Hp → β → α → Prop} {a : α} {Q : β → Hp → Prop} (h : Out G rep E pn F H (.ok a p) Q) (fk : FOk G F H pn p) : ∀ b, rep F b a → Q b H := fun b r => h b F H (Step.refl fk) r
theorem Out.ofMap {α β α' β' : Type} {rep : Hp → β → α → Prop} {rep' : Hp → β' → α' → Prop} {o : Option α} {f : α → α'} {g : β → β'} {Q : β' → Hp → Prop}
    (h : Out G rep' E pn F H (R.of (o.map f) p) Q) (hr : ∀ F b a, rep F b a → rep' F (g b) (f a)) : Out G rep E pn F H (R.of o p) (fun b H => Q (g b) H) := by
  cases o with
  | none => exact h.elim
  | some a => exact fun b F' H' s r => h (g b) F' H' s (hr _ _ _ r)
end
/-- a bool as a value -/
abbrev rBV (G : Ad) (pn : PN) : Hp → V → Bool → Prop := fun F v b => Rep G pn F v (.bl b)
abbrev rVb : Hp → V → Bool → Prop := fun F v b => v = .bl b

theorem zip_lookup {G : Ad} {pn : PN} {F : Hp} : ∀ {at_ : List Str} {vs : List V} {ds : List D} {f : Str} {d : D}, Reps G pn F vs ds → (at_.zip ds).lookup f = some d → ∃ v, (at_.zip vs).lookup f = some v ∧ Rep G pn F v d ∧ f ∈ at_
  | [], _, _, _, _, _, h => by simp at h
  | _ :: _, _, _, _, _, .nil, h => by simp at h
  | a :: at_, _, _, f, d, .cons (v := v) (vs := vs) r t, h => by
    simp only [List.zip_cons_cons, List.lookup_cons] at h ⊢
    cases q : f == a with
    | true =>
      rw [q] at h
      cases h
      exact ⟨v, rfl, r, by simp [beq_iff_eq.mp q]⟩
    | false =>
      rw [q] at h
      obtain ⟨w, h1, h2, h3⟩ := zip_lookup t h
      exact ⟨w, h1, h2, by simp [h3]⟩
theorem valV_cons {κ : Type} [DecidableEq κ] (k k' : κ) (v : V) (r : List (κ × V)) : valV ((k, v) :: r) k' = if k = k' then some v else valV r k' := by
  unfold valV
  rw [List.find?_cons]
  by_cases h : k = k'
  · rw [if_pos h]; simp [h]
  · rw [if_neg h]; simp [h]
theorem penGet_rep {G : Ad} {pn : PN} {F : Hp} {ca : Addr} {st : Pen} {f : Str} {d : D} (hca : F ca = some (.lst (st.cells.map V.int))) (h : penGet f st = some d) : ∃ v, valV (penK ca st) (Sum.inr f) = some v ∧ Rep G pn F v d := by
  unfold penGet at h
  unfold penK
  simp only [valV_cons, Sum.inr.injEq]
  split at h
  · rename_i e; cases h
    exact ⟨.ref ca, by rw [if_pos e.symm], .lst hca (reps_ints _)⟩
  split at h
  · rename_i n1 e; cases h
    exact ⟨.int st.at_, by rw [if_neg (Ne.symm n1), if_pos e.symm], .int _⟩
  split at h
  · rename_i n1 n2 e; cases h
    exact ⟨.int st.digits, by rw [if_neg (Ne.symm n1), if_neg (Ne.symm n2), if_pos e.symm], .int _⟩
  split at h
  · rename_i n1 n2 n3 e; cases h
    exact ⟨.int st.count, by rw [if_neg (Ne.symm n1), if_neg (Ne.symm n2), if_neg (Ne.symm n3), if_pos e.symm], .int _⟩
  split at h
  · rename_i n1 n2 n3 n4 e; cases h
    exact ⟨.int st.fold, by rw [if_neg (Ne.symm n1), if_neg (Ne.symm n2), if_neg (Ne.symm n3), if_neg (Ne.symm n4), if_pos e.symm], .int _⟩
  · cases h

section
variable {T : Tab} {S : Sem0} {G : Ad} {lv : Nat → Nat} {n nc : Nat → Bool} {N : List Str}
variable {sc sc0 : Scope} {E : XK} {X : Cx}
abbrev C0 (T : Tab) (S : Sem0) (G : Ad) (lv : Nat → Nat) (n nc : Nat → Bool) (N : List Str) (sc sc0 : Scope) (E : XK) (X : Cx) : Prop := Ctx T S G lv n nc N sc sc0 E X

def lenEs : IEs → Nat
  | .nil => 0
  | .cons _ r => lenEs r + 1
theorem evEs_len : ∀ {xs : IEs} {ρ : DEnv} {p p' : PenS} {ds : List D}, evEs S xs ρ p = .ok ds p' → ds.length = lenEs xs
  | .nil, _, _, _, _, h => by cases h; rfl
  | .cons a r, ρ, p, p', ds, h => by
    simp only [evEs] at h
    cases e1 : evE S a ρ p with
    | ok d p1 =>
      rw [e1] at h
      simp only [R.bind_ok] at h
      cases e2 : evEs S r ρ p1 with
      | ok ds' p2 =>
        rw [e2] at h
        simp only [R.bind_ok] at h
        cases h
        simp [lenEs, evEs_len e2]
      | err _ _ _ => rw [e2] at h; cases h
      | stuck => rw [e2] at h; cases h
    | err _ _ _ => rw [e1] at h; cases h
    | stuck => rw [e1] at h; cases h
theorem mEs_len : ∀ {xs : IEs} {es : List Expr}, mEs T n nc N sc xs es = true → lenEs xs = es.length
  | .nil, [], _ => rfl
  | .nil, _ :: _, h => by cases h
  | .cons _ _, [], h => by cases h
  | .cons a r, e :: es, h => by
    simp only [mEs, Bool.and_eq_true] at h
    simp [lenEs, mEs_len h.2]
theorem mEs_nst : ∀ {xs : IEs} {es : List Expr}, mEs T n nc N sc xs es = true → ∀ e ∈ es, nst e = true
  | .nil, [], _ => fun e h => by simp at h
  | .nil, _ :: _, h => by cases h
  | .cons _ _, [], h => by cases h
  | .cons a r, e :: es, h => by
    simp only [mEs, Bool.and_eq_true] at h
    intro e' he
    rcases List.mem_cons.mp he with rfl | he
    · exact h.1.1
    · exact mEs_nst h.2 e' he

theorem Ctx.dr (C : Ctx T S G lv n nc N sc sc0 E X) : True := trivial
theorem Ctx.hu1 (C : Ctx T S G lv n nc N sc sc0 E X) : X.A.units + 1 < cLine := Nat.lt_of_le_of_lt (Nat.add_le_add_left (by decide : 1 ≤ 64) _) C.units

/-! ### small pieces -/
theorem s_call (C : Ctx T S G lv n nc N sc sc0 E X) {k : Nat} {xs : IEs} {x : Str} {es : List Expr} {p1 p2 : Pos} (hg : gloB sc x = true) (ho : okN x = true) (hk : n k = true) (hf : T.fns[k]? = some (x, es.length))
    (hm : mEs T n nc N sc xs es = true) (ha : PA X es (tEs G E (evEs S xs))) : PE X (.Call (.Name x p1) es [] p2) (tE G E (evE S (.call k xs))) := by
  obtain ⟨fd, ps, F, hmk, hb⟩ := C.fns k x es.length hk hf
  obtain ⟨hmg, hkp⟩ := hmk (okN3 ho)
  cases es with
  | nil =>
    refine peI (pe_call0 F (C.room k hk) (glo_of C.hsc hg) hmg hkp hb .nil C.pass (okN1 ho)) ?_
    rintro σ H Q ⟨ρ, F0, pn, p, dr, fk, o⟩
    cases xs with
    | nil => exact ⟨rfl, F0, pn, p, [], fk, .nil, o⟩
    | cons _ _ => cases hm
  | cons e es =>
    have hn := mEs_nst hm
    refine peI (pe_call F (C.room k hk) (glo_of C.hsc hg) hmg hkp hb .nil C.pass ha (okN1 ho) (star_cons (hn e (by simp)) _) (star_plain (fun e he => hn e (by simp [he])) _ _)) ?_
    rintro σ H Q ⟨ρ, F0, pn, p, dr, fk, o⟩
    refine ⟨ρ, F0, pn, p, dr, fk, (o.bind (rep := rDs G pn)).imp ?_⟩
    rintro vs H1 ⟨F1, p1, ds, e1, s1, r1, o1⟩
    rw [List.append_nil]
    exact ⟨by rw [r1.length, evEs_len e1, mEs_len hm], F1, pn, p1, ds, s1.ok, r1, o1⟩
theorem boot_bf (f : BF) : bootBuiltins (bfName f) = some (bfVal f) := by
  cases f <;> decide +kernel
theorem bf_free (f : BF) : bfName f ∈ bltN := by cases f <;> decide +kernel
theorem bf_main (f : BF) : bfName f ≠ "__name__" := by cases f <;> decide +kernel
theorem s_blt (C : Ctx T S G lv n nc N sc sc0 E X) {f : BF} {xs : IEs} {x : Str} {e0 : Expr} {es : List Expr} {p1 p2 : Pos} (hg : gloB sc x = true) (ho : okN x = true) (hx : x = bfName f)
    (hm : mEs T n nc N sc xs (e0 :: es) = true) (ha : PA X (e0 :: es) (tEs G E (evEs S xs))) : PE X (.Call (.Name x p1) (e0 :: es) [] p2) (tE G E (evE S (.blt f xs))) := by
  subst hx
  have hn := mEs_nst hm
  have h1 := star_cons (hn e0 (by simp)) X.env (es := es)
  have h2 := star_plain (es := es) (fun e he => hn e (by simp [he])) p2 X.env
  have hgl := glo_of C.hsc hg
  have hfr := C.free _ (bf_free f)
  have hb := boot_bf f
  have hc := callR_bf (X := X) (G := G) (E := E) C.calm f
  have fin : ∀ (r : List V → Hp → VK → Prop), r = rCall G E (bfn f) → PE X (.Call (.Name (bfName f) p1) (e0 :: es) [] p2) (tCB r (tEs G E (evEs S xs))) → PE X (.Call (.Name (bfName f) p1) (e0 :: es) [] p2) (tE G E (evE S (.blt f xs))) := by
    rintro r rfl pe
    refine peI pe ?_
    rintro σ H Q ⟨ρ, F0, pn, p, dr, fk, o⟩
    refine ⟨ρ, F0, pn, p, dr, fk, (o.bind (rep := rDs G pn)).imp ?_⟩
    rintro vs H1 ⟨F1, p1, ds, e1, s1, r1, o1⟩
    exact ⟨F1, pn, p1, ds, s1.ok, r1, o1⟩
  refine fin _ rfl ?_
  cases f with
  | tuple => exact pe_callTy hc hgl hfr hb ha (bf_main _) (okN1 ho) h1 h2
  | list => exact pe_callTy hc hgl hfr hb ha (bf_main _) (okN1 ho) h1 h2
  | int => exact pe_callTy hc hgl hfr hb ha (bf_main _) (okN1 ho) h1 h2
  | len => exact pe_callB hc hgl hfr hb ha (bf_main _) (okN1 ho) h1 h2
  | abs => exact pe_callB hc hgl hfr hb ha (bf_main _) (okN1 ho) h1 h2
  | max => exact pe_callB hc hgl hfr hb ha (bf_main _) (okN1 ho) h1 h2
  | min => exact pe_callB hc hgl hfr hb ha (bf_main _) (okN1 ho) h1 h2
  | sum => exact pe_callB hc hgl hfr hb ha (bf_main _) (okN1 ho) h1 h2
  | all => exact pe_callB hc hgl hfr hb ha (bf_main _) (okN1 ho) h1 h2
  | any => exact pe_callB hc hgl hfr hb ha (bf_main _) (okN1 ho) h1 h2
  | sorted => exact pe_callB hc hgl hfr hb ha (bf_main _) (okN1 ho) h1 h2
  | repr => exact pe_callB hc hgl hfr hb ha (bf_main _) (okN1 ho) h1 h2

/-! ### isinstance -/
def tyV0 (G : Ad) : Ty → V
  | .b m => .ty m
  | .c k => .ref (G.cls k)
def tyVal (G : Ad) : Ty → Value
  | .b m => .type m
  | .c k => .ref (G.cls k)
theorem clsV_ty (G : Ad) (t : Ty) : ClsV (tyV0 G t) (tyVal G t) := by cases t <;> constructor
theorem boot_ty : ∀ m ∈ tyUse, bootBuiltins (Str.ofString m) = some (.type m) ∧ Str.ofString m ∈ bltN ∧ Str.ofString m ≠ "__name__" := by decide +kernel
/-- a type that the text may name -/
def TyOk (T : Tab) : Ty → Prop
  | .b m => m ∈ tyUse
  | .c k => k < T.clss.length
theorem s_ty (C : Ctx T S G lv n nc N sc sc0 E X) {t : Ty} {e : Expr} (h : mTy T sc t e = true) : PE X e (tC (tyV0 G t)) ∧ TyOk T t := by
  cases t with
  | b m =>
    simp only [mTy] at h
    split at h
    · simp only [Bool.and_eq_true, decide_eq_true_eq] at h
      obtain ⟨⟨⟨h1, h2⟩, rfl⟩, h4⟩ := h
      obtain ⟨b1, b2, b3⟩ := boot_ty m h4
      exact ⟨pe_bltn (glo_of C.hsc h1) (C.free _ b2) b1 rfl b3 (okN1 h2), h4⟩
    · cases h
  | c k =>
    simp only [mTy] at h
    split at h
    · simp only [Bool.and_eq_true, decide_eq_true_eq] at h
      obtain ⟨⟨h1, h2⟩, h4⟩ := h
      cases q : T.clss[k]? with
      | none => rw [q] at h4; cases h4
      | some z =>
        obtain ⟨x, m, at_⟩ := z
        rw [q] at h4
        cases h4
        exact ⟨pe_glob (glo_of C.hsc h1) (C.clsM k _ _ _ q) rfl (okN1 h2), (List.getElem?_eq_some_iff.mp q).1⟩
    · cases h
theorem s_tys (C : Ctx T S G lv n nc N sc sc0 E X) : ∀ {ts : List Ty} {es : List Expr}, mTys T sc ts es = true → PA X es (fun _ H Q => Q (ts.map (tyV0 G)) H) ∧ ∀ t ∈ ts, TyOk T t
  | [], [], _ => ⟨pa_nil, fun t h => by simp at h⟩
  | [], _ :: _, h => by cases h
  | _ :: _, [], h => by cases h
  | t :: ts, e :: es, h => by
    simp only [mTys, Bool.and_eq_true] at h
    obtain ⟨q1, q2⟩ := s_ty C h.1.2
    obtain ⟨q3, q4⟩ := s_tys C h.2
    exact ⟨paI (pa_cons q1 q3 (star_cons h.1.1 _)) fun σ H Q q => q, fun t' ht => by
      rcases List.mem_cons.mp ht with rfl | ht
      · exact q2
      · exact q4 t' ht⟩
theorem tyX_of (C : Ctx T S G lv n nc N sc sc0 E X) {pn : PN} {F H : Hp} {v : V} {d : D} {u : Ty} (s : Same F H) (r : Rep G pn F v d) (h : tyD d = some u) :
    TyX X.K H v (tyVal G u) ∧ (∀ m, u = .b m → m ∈ "NoneType" :: tyUse) ∧ (∀ c, u = .c c → c < G.nc) := by
  cases r with
  | non => cases h; exact ⟨.base .non, fun m e => by cases e; decide, fun c e => by cases e⟩
  | bl b => cases h; exact ⟨.base (.bl b), fun m e => by cases e; decide, fun c e => by cases e⟩
  | int i => cases h; exact ⟨.base (.int i), fun m e => by cases e; decide, fun c e => by cases e⟩
  | str x => cases h; exact ⟨.base (.str x), fun m e => by cases e; decide, fun c e => by cases e⟩
  | tup e r => cases h; exact ⟨.base (.tup (s _ _ e)), fun m e => by cases e; decide, fun c e => by cases e⟩
  | lst e r => cases h; exact ⟨.base (.lst (s _ _ e)), fun m e => by cases e; decide, fun c e => by cases e⟩
  | obj hc e l r =>
    cases h
    have z := C.clsF
    have q := TyX.base (.ins (s _ _ e) (z.cl _ hc) (z.ha _ hc) (z.hn (Nat.zero_lt_of_lt hc)) (z.ht (Nat.zero_lt_of_lt hc)) (z.hm _ hc))
    refine ⟨q, ⟨fun m e => ?_, fun c e => ?_⟩⟩
    · cases e
    · cases e; exact hc
  | fn k => cases h
  | pen e => cases h
theorem kit_of' (C : Ctx T S G lv n nc N sc sc0 E X) {u t : Ty} {b : Bool} (h1 : ∀ m, u = .b m → m ∈ "NoneType" :: tyUse) (h2 : ∀ c, u = .c c → c < G.nc) (h3 : TyOk T t) (h : kit u t = some b) :
    PySem.W.kitOne X.K (tyVal G u) (tyVal G t) = some b := by
  have z := C.clsF
  cases u with
  | b m =>
    cases t with
    | b m' => exact kit_ty h
    | c k => cases h; exact z.kbc k (by rw [C.hnc]; exact h3) m (h1 m rfl)
  | c c =>
    cases t with
    | b m' => cases h; exact z.kcb c (h2 c rfl) m' h3
    | c k => cases h; exact z.kcc c k (h2 c rfl) (by rw [C.hnc]; exact h3)
theorem kits_of (C : Ctx T S G lv n nc N sc sc0 E X) {u : Ty} (h1 : ∀ m, u = .b m → m ∈ "NoneType" :: tyUse) (h2 : ∀ c, u = .c c → c < G.nc) : ∀ {ts : List Ty} {b : Bool}, (∀ t ∈ ts, TyOk T t) → kits u ts = some b →
    PySem.W.kitAny X.K (tyVal G u) (ts.map (tyVal G)) = some b
  | [], b, _, h => by cases h; exact kitAny_nil
  | t :: ts, b, h3, h => by
    simp only [kits] at h
    cases q : kit u t with
    | none => rw [q] at h; cases h
    | some b' =>
      rw [q] at h
      have k1 := kit_of' C h1 h2 (h3 t (by simp)) q
      cases b' with
      | true => cases h; exact kitAny_cons k1 (fun z => by cases z) (fun _ => rfl)
      | false => exact kitAny_cons k1 (fun _ => kits_of C h1 h2 (fun t ht => h3 t (by simp [ht])) h) (fun z => by cases z)
theorem paired_cls (G : Ad) : ∀ ts : List Ty, Paired ClsV (ts.map (tyV0 G)) (ts.map (tyVal G))
  | [] => .nil
  | t :: ts => .cons (clsV_ty G t) (paired_cls G ts)
theorem s_isi (C : Ctx T S G lv n nc N sc sc0 E X) {a : IE} {t : Ty} {y z : Expr} {x : Str} {p1 p2 : Pos} (hg : gloB sc x = true) (ho : okN x = true) (hx : x = ("isinstance" : Str)) (hy : nst y = true) (hz : nst z = true)
    (ha : PE X y (tE G E (evE S a))) (ht : mTy T sc t z = true) : PE X (.Call (.Name x p1) [y, z] [] p2) (tE G E (evE S (.isi a t))) := by
  subst hx
  obtain ⟨q1, q2⟩ := s_ty C ht
  refine peI (pe_callB call_isi (glo_of C.hsc hg) (C.free _ (by decide +kernel)) (by decide +kernel) (pa_cons ha (pa_cons q1 pa_nil (star_cons hz _)) (star_cons hy _)) (by decide +kernel) (okN1 ho) (star_cons hy _)
    (star_plain (fun e he => by rw [List.mem_singleton.mp he]; exact hz) _ _)) ?_
  rintro σ H Q ⟨ρ, F0, pn, p, dr, fk, o⟩
  refine ⟨ρ, F0, pn, p, dr, fk, (o.bind (rep := rD G pn)).imp ?_⟩
  rintro v H1 ⟨F1, p1, d, e1, s1, r1, o1⟩
  obtain ⟨w, ew, o2⟩ := o1.ofH
  simp only [Option.bind_eq_some_iff, Option.map_eq_some_iff] at ew
  obtain ⟨u, hu, b, hb, rfl⟩ := ew
  obtain ⟨t1, t2, t3⟩ := tyX_of C s1.ok.sub r1 hu
  exact ⟨v, tyV0 G t, _, _, b, rfl, clsV_ty G t, t1, kit_of' C t2 t3 q2 hb, o2.here s1.ok (.bl b)⟩
theorem s_isis (C : Ctx T S G lv n nc N sc sc0 E X) {a : IE} {ts : List Ty} {y : Expr} {zs : List Expr} {x : Str} {kk : Nat} {p1 p2 p3 : Pos} (hg : gloB sc x = true) (ho : okN x = true) (hx : x = ("isinstance" : Str)) (hy : nst y = true)
    (ha : PE X y (tE G E (evE S a))) (ht : mTys T sc ts zs = true) (hl : ts.length ≤ 10) : PE X (.Call (.Name x p1) [y, .Tuple zs kk p3] [] p2) (tE G E (evE S (.isis a ts))) := by
  subst hx
  obtain ⟨q1, q2⟩ := s_tys C ht
  have hz : ts.length ≤ sizeLine := Nat.le_trans hl (by rw [sizeLine_eq]; decide)
  refine peI (pe_callB call_isiT (glo_of C.hsc hg) (C.free _ (by decide +kernel)) (by decide +kernel) (pa_cons ha (pa_cons (pe_tup q1) pa_nil) (star_cons hy _)) (by decide +kernel) (okN1 ho) (star_cons hy _) rfl) ?_
  rintro σ H Q ⟨ρ, F0, pn, p, dr, fk, o⟩
  refine ⟨ρ, F0, pn, p, dr, fk, (o.bind (rep := rD G pn)).imp ?_⟩
  rintro v H1 ⟨F1, p1, d, e1, s1, r1, o1⟩
  obtain ⟨w, ew, o2⟩ := o1.ofH
  simp only [Option.bind_eq_some_iff, Option.map_eq_some_iff] at ew
  obtain ⟨u, hu, b, hb, rfl⟩ := ew
  refine ⟨by rw [List.length_map]; exact hz, fun q hq => ?_⟩
  have st : Step G pn p1 F1 H1 F1 (upd H1 q (.tup (ts.map (tyV0 G)))) := Step.side s1.ok hq
  obtain ⟨t1, t2, t3⟩ := tyX_of C st.ok.sub r1 hu
  exact ⟨v, q, ts.map (tyV0 G), _, ts.map (tyVal G), b, rfl, upd_same, paired_cls G ts, t1, kits_of C t2 t3 q2 hb, o2 (.bl b) F1 _ st (.bl b)⟩
end
end Mi

set_option Elab.async false
set_option linter.all false
set_option maxRecDepth 100000
namespace Mi
open PySem PySem.Spec PyProof.Rows L2
section
variable {pn : PN} {p p' : PenS} {F H F' H' : Hp} {a : Addr} {o u : HO}
/-- a cell of one's own (not leant on) is written -/
theorem FOk.other (h : FOk G F H pn p) (hF : F a = none) (hp : ¬ IsPen pn a) (hpl : ∀ u, H a = some u → plainO u) : FOk G F (upd H a o) pn p := by
  refine ⟨fun b u e => ?_, ?_, h.notb, tabs_upd h.tabs hpl⟩
  · have : b ≠ a := fun z => by subst z; rw [hF] at e; cases e
    rw [upd_ne this]; exact h.sub b u e
  · have z := h.pen
    cases pn with
    | none => cases p with | none => trivial | some _ => exact z.elim
    | some q =>
      obtain ⟨pa, ca⟩ := q
      cases p with
      | none => exact z.elim
      | some st =>
        obtain ⟨z1, z2, z3⟩ := z
        have hpa : pa ≠ a := fun e => hp ⟨ca, by rw [e]⟩
        exact ⟨z1, by rw [upd_ne hpa]; exact z2, z3⟩
theorem FOk.fresh (h : FOk G F H pn p) (hn : Fr H a) : F a = none ∧ ¬ IsPen pn a := by
  refine ⟨?_, fun q => ?_⟩
  · cases z : F a with
    | none => rfl
    | some o => obtain ⟨ps, e⟩ := hn o (h.sub _ _ z); subst e; exact absurd z (h.notb a ps)
  · obtain ⟨kvs, z⟩ := h.penK' q
    obtain ⟨ps, e⟩ := hn _ z
    cases e
theorem Step.ownW (s : Step G pn p' F H F' H') (hn : Fr H a) (hF : F' a = none) (hp : ¬ IsPen pn a) (hpl : ∀ u, H' a = some u → plainO u) : Step G pn p' F H F' (upd H' a o) where
  keep := fun b u n q e => by rw [upd_ne (ne_fr e q hn)]; exact s.keep b u n q e
  there := fun b e => by
    by_cases hb : b = a
    · subst hb; exact hn
    · exact s.there b fun u hu => e u (by rw [upd_ne hb]; exact hu)
  same := s.same
  new := s.new
  ok := s.ok.other hF hp hpl
/-- a cell of one's own is leant on from now on -/
theorem Step.give (s : Step G pn p' F H F' H') (hn : Fr H a) (hF : F' a = none) (hH : H' a = some o) (hp : ¬ IsPen pn a) (ho : plainO o) : Step G pn p' F H (upd F' a o) H' where
  keep := s.keep
  there := s.there
  same := s.same.trans (same_upd hF)
  new := fun b e => by
    by_cases hb : b = a
    · subst hb; exact .inr hn
    · rw [upd_ne hb] at e; exact s.new b e
  ok := Step.more s.ok hF hH hp ho
end
theorem calm_ok {α : Type} {r : R α} {a : α} {p : PenS} (h : r.calm = .ok a p) : r = .ok a p := by
  cases r <;> simp [R.calm] at h ⊢
  exact h
theorem bind_ok_inv {α β : Type} {r : R α} {f : α → PenS → R β} {b : β} {p : PenS} (h : r.bind f = .ok b p) : ∃ a p1, r = .ok a p1 ∧ f a p1 = .ok b p := by
  cases r with
  | ok a p1 => exact ⟨a, p1, rfl, h⟩
  | err c fs p1 => cases h
  | stuck => cases h
theorem of_ok_inv {α : Type} {o : Option α} {p p' : PenS} {a : α} (h : R.of o p = .ok a p') : o = some a ∧ p' = p := by
  cases o with
  | none => cases h
  | some x => cases h; exact ⟨rfl, rfl⟩
theorem compLoop_nerr {f : D → PenS → R (Option D)} : ∀ {ds : List D} {p : PenS} {c : Nat} {fs : List D} {p' : PenS}, compLoop (fun d p => (f d p).calm) ds p ≠ .err c fs p'
  | [], _, _, _, _, h => by cases h
  | d :: ds, p, c, fs, p', h => by
    simp only [compLoop] at h
    cases e : (f d p).calm with
    | err c' fs' p1 => cases e2 : f d p <;> rw [e2] at e <;> cases e
    | stuck => rw [e] at h; cases h
    | ok o p1 =>
      rw [e] at h
      simp only [R.bind_ok] at h
      cases e3 : compLoop (fun d p => (f d p).calm) ds p1 with
      | err c' fs' p2 => exact compLoop_nerr e3
      | stuck => rw [e3] at h; cases h
      | ok r p2 => rw [e3] at h; cases h
/-- a fresh list -/
def OutO (G : Ad) (E : XK) (pn : PN) (F H : Hp) (r : R D) (Q : VK) : Prop := match r with
  | .ok d p' => ∀ xs, d = .lst xs → ∀ a vs F' H', Step G pn p' F H F' H' → Fr H a → F' a = none → H' a = some (.lst vs) → Reps G pn F' vs xs → Q (.ref a) H'
  | .err c fs p' => ∀ F' H' dx, Step G pn p' F H F' H' → XAt G pn F' H' c fs dx → E (.ref (G.cls c)) (some dx) H'
  | .stuck => False
theorem Out.toO {G : Ad} {E : XK} {pn : PN} {F H : Hp} {p : PenS} {r : R D} {Q : VK} (fk : FOk G F H pn p) (h : Out G (rD G pn) E pn F H r Q) : OutO G E pn F H r Q := by
  cases r with
  | stuck => exact h
  | err c fs p' => exact h
  | ok d p' =>
    rintro xs rfl a vs F' H' st hn hF hH rs
    exact h (.ref a) (upd F' a (.lst vs)) H' (st.give hn hF hH (fk.fresh hn).2 trivial) (.lst upd_same (rs.mono (same_upd hF)))
def tF (G : Ad) (E : XK) (ev : DEnv → PenS → R D) : TE := fun σ H Q => ∃ ρ F pn p, DR G pn σ ρ F ∧ FOk G F H pn p ∧ OutO G E pn F H (ev ρ p) Q
theorem tE_tF {G : Ad} {E : XK} {ev : DEnv → PenS → R D} {σ : L2.St} {H : Hp} {Q : VK} (h : tE G E ev σ H Q) : tF G E ev σ H Q := by
  obtain ⟨ρ, F, pn, p, dr, fk, o⟩ := h
  exact ⟨ρ, F, pn, p, dr, fk, o.toO fk⟩
section
variable {T : Tab} {S : Sem0} {G : Ad} {lv : Nat → Nat} {n nc : Nat → Bool} {N : List Str}
variable {sc sc0 : Scope} {E : XK} {X : Cx}
theorem Ctx.blk (C : Ctx T S G lv n nc N sc sc0 E X) (s : Shared) (H : Hp) (scope : Scope) (Cc : Addr) (cl : List (Str × Addr)) (fp : List Addr) :
    Ctx T S G lv n nc N (relS scope sc) scope E0 (X.blk s H scope (compEnvC scope cl Cc X.env) fp) where
  hN := C.hN
  nd := C.nd
  hsc := by
    show relS scope X.env.scope = _
    rw [C.hsc]
  loc := fun x h => by
    have hs : (compEnvC scope cl Cc X.env).scope = relS scope X.env.scope := rfl
    unfold locB at h
    cases q : scope.names.lookup x with
    | none => rw [q] at h; cases h
    | some k =>
      rw [q] at h
      cases k with
      | «local» =>
        have z : (relS scope X.env.scope).names.lookup x = some .local := lookup_relS_keep (by decide) q
        exact ⟨.inl z, .inr z⟩
      | cell =>
        have z : (relS scope X.env.scope).names.lookup x = some .cell := lookup_relS_keep (by decide) q
        exact ⟨.inr z, .inl (by show (scope.names.lookup x == some NameKind.cell) = true; rw [q]; rfl)⟩
      | _ => cases h
  calm := C.calm
  units := C.units
  room := C.room
  con := C.con
  fns := C.fns
  free := C.free
  hnc := C.hnc
  att := C.att
  clsF := C.clsF
  clsM := C.clsM
  mks := C.mks
  eqs := C.eqs
  exc := C.exc
  flt := fun h => let z := C.flt h; ⟨z.lam, z.room, z.at_, z.df⟩
  pass := passL

theorem s_comp (C : Ctx T S G lv n nc N sc sc0 E X) {elt : IE} {tg : Tg} {it : II} {ifs : IEs} {own : List (Str × Nat)} {x t i : Expr} {fs : List Expr} {scope : Scope} {pos : Pos}
    (hb : blkC N sc scope own = true) (hni : nset i = true) (htg : mTg N scope tg t = true) (hin : tgIn (own.map (·.2)) tg = true)
    (hi : PI X t i (tI G E (evI S it)))
    (hf : ∀ (s : Shared) (H : Hp) (C : Addr) (cl : List (Str × Addr)) (fp : List Addr), PTs (X.blk s H scope (compEnvC scope cl C X.env) fp) fs (tT G E0 (evAndT S ifs)))
    (he : ∀ (s : Shared) (H : Hp) (C : Addr) (cl : List (Str × Addr)) (fp : List Addr), PE (X.blk s H scope (compEnvC scope cl C X.env) fp) x (tE G E0 (evE S elt))) :
    PE X (.ListComp x [⟨t, i, fs, 0⟩] scope pos) (tF G E (evE S (.comp elt tg it ifs own))) ∧
    ∀ σ H Q, tF G E (evE S (.comp elt tg it ifs own)) σ H Q → tLc (tI G E (evI S it)) (gT G (own.map (·.2)) tg) (tT G E0 (evAndT S ifs)) (tE G E0 (evE S elt)) (own.map (·.2)) σ H Q := by
  have key : ∀ σ H Q, tF G E (evE S (.comp elt tg it ifs own)) σ H Q → tLc (tI G E (evI S it)) (gT G (own.map (·.2)) tg) (tT G E0 (evAndT S ifs)) (tE G E0 (evE S elt)) (own.map (·.2)) σ H Q := by
    rintro σ H Q ⟨ρ, F, pn, p, dr, fk, o⟩
    generalize hvs : own.map (·.2) = vs at *
    refine ⟨ρ, F, pn, p, dr, fk, ?_⟩
    simp only [evE, hvs] at o
    cases e1 : evI S it ρ p with
    | stuck => rw [e1] at o; exact o
    | err c fs' p' => rw [e1] at o; exact o
    | ok ds p1 =>
    rw [e1] at o
    simp only [R.bind_ok] at o
    intro J F1 H1 s1 jk Dd hD
    have o1 := o
    by_cases hlen : ds.length ≤ sizeLine
    · rw [if_pos hlen] at o1
      generalize hf0 : (fun d p => ((R.of (asgTg (wipeD ρ vs) tg d) p).bind fun ρ' p => (evAndT S ifs ρ' p).bind fun k p => if k = true then (evE S elt ρ' p).bind fun x p => R.ok (some x) p else R.ok none p)) = f0 at o1
      have o1' : OutO G E pn F H ((compLoop (fun d p => (f0 d p).calm) ds p1).bind fun xs p => R.ok (D.lst xs) p) Q := by
        rw [← hf0]; exact o1
      clear o1
      cases ec : compLoop (fun d p => (f0 d p).calm) ds p1 with
      | stuck => rw [ec] at o1'; exact o1'.elim
      | err c fs' p' => exact absurd ec compLoop_nerr
      | ok xs pe =>
        rw [ec] at o1'
        simp only [R.bind_ok] at o1'
        obtain ⟨hF1, hnp⟩ := s1.ok.fresh (.of hD)
        have drw : DR G pn (wipe σ vs) (wipeD ρ vs) F1 := (dr.mono s1.same).wipe vs
        refine ⟨fun i m H => m = ds.length - i ∧ i ≤ ds.length ∧ ∃ F' p' acc accd rest, F' Dd = none ∧ H Dd = some (.lst acc) ∧ Reps G pn F' acc accd ∧ Step G pn p' F1 H1 F' H ∧ compLoop (fun d p => (f0 d p).calm) (ds.drop i) p' = .ok rest pe ∧ accd ++ rest = xs ∧ acc.length ≤ i,
          ⟨ds.length, rfl, Nat.zero_le _, F1, p1, [], [], xs, hF1, upd_same, .nil, Step.side s1.ok hD, ec, rfl, Nat.le_refl _⟩, ?_⟩
        rintro i m H2 ⟨rfl, hi2, F2, p2, acc, accd, rest, hF2, hH2, ra, s2, el, ex, hal⟩
        by_cases hlt : i < ds.length
        · refine .inr ⟨jk.go i H2 (s2.same.trans s2.ok.sub) hlt, fun H' => ∃ m', m' < ds.length - i ∧ (m' = ds.length - (i + 1) ∧ i + 1 ≤ ds.length ∧ ∃ F' p' acc accd rest, F' Dd = none ∧ H' Dd = some (.lst acc) ∧ Reps G pn F' acc accd ∧ Step G pn p' F1 H1 F' H' ∧ compLoop (fun d p => (f0 d p).calm) (ds.drop (i + 1)) p' = .ok rest pe ∧ accd ++ rest = xs ∧ acc.length ≤ i + 1), fun H' h => h, ?_⟩
          intro xv H3 hy
          obtain ⟨d, F3, hd, s3, rx⟩ := jk.yld i H2 xv H3 F2 p2 s2.same s2.ok hy hlt
          have hdr : ds.drop i = d :: ds.drop (i + 1) := by
            rw [List.getElem?_eq_getElem hlt, Option.some.injEq] at hd
            rw [← hd]
            exact (List.getElem_cons_drop (h := hlt)).symm
          rw [hdr] at el
          simp only [compLoop] at el
          obtain ⟨od, p3, ef9, el1⟩ := bind_ok_inv el
          obtain ⟨rest', p4, el2, er⟩ := bind_ok_inv el1
          cases er
          clear el el1
          have ef := calm_ok ef9
          clear ef9
          rw [← hf0] at ef
          obtain ⟨ρ', p5, ea0, ef1⟩ := bind_ok_inv ef
          obtain ⟨ea, e55⟩ := of_ok_inv ea0
          clear ef ea0
          subst e55
          obtain ⟨k, p6, et, ef⟩ := bind_ok_inv ef1
          clear ef1
          refine ⟨wipeD ρ vs, F3, pn, p5, d, ρ', drw.mono (s2.same.trans s3.same), s3.ok, rx, ea, fun σ' dr' hw => ⟨hw.trans (wipe_wipe σ vs), ρ', F3, pn, p5, dr', s3.ok, ?_⟩⟩
          rw [et]
          intro b F4 H4 s4 hb4
          have hb4 : b = k := hb4
          subst hb4
          cases b with
          | false =>
            rw [if_neg Bool.false_ne_true] at ef
            cases ef
            rw [if_neg Bool.false_ne_true]
            have s34 := s3.trans s4
            have hF4 : F4 Dd = none := by
              cases q : F4 Dd with
              | none => rfl
              | some z =>
                rcases s34.new Dd (by rw [q]; simp) with w | w
                · exact absurd hF2 w
                · obtain ⟨_, w⟩ := w _ hH2; cases w
            exact ⟨_, by omega, rfl, hlt, F4, _, acc, accd, rest', hF4, s34.keep _ _ hnp (fun _ z => by cases z) hH2, ra.mono s34.same, s2.trans s34, el2, ex, by omega⟩
          | true =>
            rw [if_pos rfl] at ef
            rw [if_pos rfl]
            obtain ⟨y, p7, ee, ef⟩ := bind_ok_inv ef
            cases ef
            refine ⟨ρ', F4, pn, p6, dr'.mono s4.same, s4.ok, ?_⟩
            rw [ee]
            intro yv F5 H5 s5 ry
            have s35 := (s3.trans s4).trans s5
            have hF5 : F5 Dd = none := by
              cases q : F5 Dd with
              | none => rfl
              | some z =>
                rcases s35.new Dd (by rw [q]; simp) with w | w
                · exact absurd hF2 w
                · obtain ⟨_, w⟩ := w _ hH2; cases w
            refine ⟨acc, s35.keep _ _ hnp (fun _ z => by cases z) hH2, by omega, _, by omega, rfl, hlt, F5, _, acc ++ [yv], accd ++ [y], rest', hF5, upd_same, (ra.mono s35.same).append (.cons ry .nil), (s2.trans s35).ownW (.of hD) hF5 hnp (fun u e => by rw [s35.keep _ _ hnp (fun _ z => by cases z) hH2] at e; cases e; trivial), el2, ?_, ?_⟩
            · rw [List.append_assoc]; exact ex
            · rw [List.length_append]; simp; omega
        · have e : i = ds.length := by omega
          subst e
          refine .inl ⟨jk.stop _ H2 (s2.same.trans s2.ok.sub) (Nat.le_refl _), ?_⟩
          rw [List.drop_length] at el
          cases el
          rw [List.append_nil] at ex
          subst ex
          exact o1' _ rfl Dd acc F2 H2 (s1.trans s2) (s1.there _ (.of hD)) hF2 hH2 ra
    · rw [if_neg hlen] at o1; exact o1.elim
  refine ⟨peI (pe_lc C.calm (by rw [C.hN]; exact C.nd) hi (own := own) (blkOk_by (by rw [C.hN, C.hsc]; exact hb)) (fun s H Cc cl fp => ?_) hf he (fun z => fold_set hni _ z)) key, key⟩
  have C' := C.blk s H scope Cc cl fp
  exact pg_tg C'.hN C'.nd C'.loc C'.calm _ htg hin
end
end Mi

set_option Elab.async false
set_option linter.all false
set_option maxRecDepth 100000
namespace Mi
open PySem PySem.Spec PyProof.Rows L2
theorem tChain_imp {G : Ad} {E : XK} {o o' : COp} {ea eb ec : DEnv → PenS → R D} {σ : L2.St} {H : Hp} {Q Q' : VK} (h : tChain (r2 G (rD G) E (fun d e => (cmpV o d e).map D.bl)) (r2 G (rD G) E (fun d e => (cmpV o' d e).map D.bl)) (tE G E ea) (tE G E eb) (tE G E ec) σ H Q)
    (q : ∀ x H', Q x H' → Q' x H') : tChain (r2 G (rD G) E (fun d e => (cmpV o d e).map D.bl)) (r2 G (rD G) E (fun d e => (cmpV o' d e).map D.bl)) (tE G E ea) (tE G E eb) (tE G E ec) σ H Q' := by
  obtain ⟨ρ, F, pn, p, dr, fk, h⟩ := h
  refine ⟨ρ, F, pn, p, dr, fk, h.imp ?_⟩
  rintro x H1 ⟨ρ1, F1, pn1, p1, dr1, fk1, h1⟩
  refine ⟨ρ1, F1, pn1, p1, dr1, fk1, h1.imp ?_⟩
  rintro y H2 ⟨F2, pn2, p2, d, e, fk2, r1, r2', h2⟩
  refine ⟨F2, pn2, p2, d, e, fk2, r1, r2', h2.imp ?_⟩
  rintro z H3 ⟨k, rfl, h3⟩
  refine ⟨k, rfl, ?_⟩
  cases k with
  | false => exact q _ _ h3
  | true =>
    obtain ⟨ρ4, F4, pn4, p4, dr4, fk4, h4⟩ := h3
    refine ⟨ρ4, F4, pn4, p4, dr4, fk4, h4.imp ?_⟩
    rintro w H5 ⟨F5, pn5, p5, d5, e5, fk5, r5, r5', h5⟩
    exact ⟨F5, pn5, p5, d5, e5, fk5, r5, r5', h5.imp q⟩
section
variable {T : Tab} {S : Sem0} {G : Ad} {lv : Nat → Nat} {n nc : Nat → Bool} {N : List Str}
variable {sc sc0 : Scope} {E : XK} {X : Cx}
theorem s_mk (C : Ctx T S G lv n nc N sc sc0 E X) {c : Nat} {xs : IEs} {x : Str} {e0 : Expr} {es : List Expr} {p1 p2 : Pos} (hg : gloB sc x = true) (ho : okN x = true) (hc : nc c = true) (hf : (T.clss[c]?).map (fun t => (t.1, t.2.1)) = some (x, es.length + 1))
    (hm : mEs T n nc N sc xs (e0 :: es) = true) (ha : PA X (e0 :: es) (tEs G E (evEs S xs))) : PE X (.Call (.Name x p1) (e0 :: es) [] p2) (tE G E (evE S (.mk c xs))) := by
  cases q : T.clss[c]? with
  | none => rw [q] at hf; cases hf
  | some z =>
    obtain ⟨x', m, at_⟩ := z
    rw [q] at hf
    simp only [Option.map_some, Option.some.injEq, Prod.mk.injEq] at hf
    obtain ⟨rfl, rfl⟩ := hf
    obtain ⟨f, fd, ps, F1, M, hb, hr⟩ := C.mks c _ _ _ hc q
    have hmg := C.clsM c _ _ _ q
    have hcn : c < G.nc := by rw [C.hnc]; exact (List.getElem?_eq_some_iff.mp q).1
    have hn := mEs_nst hm
    refine peI (pe_make M F1 hr (glo_of C.hsc hg) hmg hb .nil C.pass ha (okN1 ho) (star_cons (hn e0 (by simp)) _) (star_plain (fun e he => hn e (by simp [he])) _ _)) ?_
    rintro σ H Q ⟨ρ, F0, pn, p, dr, fk, o⟩
    refine ⟨ρ, F0, pn, p, dr, fk, (Out.bind (rep := rDs G pn) (by simpa only [evE] using o)).imp ?_⟩
    rintro vs H1 ⟨F1, p1, ds, e1, s1, r1, o1⟩ x dx hx hdx hne
    have st1 : Step G pn p1 F1 H1 F1 (upd H1 dx (.own x)) := Step.side s1.ok hdx
    have hx1 : (upd H1 dx (.own x)) x = none := by rw [upd_ne (Ne.symm hne)]; exact hx
    have st2 : Step G pn p1 F1 (upd H1 dx (.own x)) F1 (upd (upd H1 dx (.own x)) x (.ins (G.cls c) dx [])) := Step.side st1.ok hx1
    obtain ⟨hFx, hnp⟩ := s1.ok.fresh (.of hx)
    rw [List.append_nil]
    refine ⟨by simp [r1.length, evEs_len e1, mEs_len hm], x, dx, vs, rfl, upd_same, F1, pn, p1, ds, st2.ok, hFx, r1, ?_⟩
    cases ei : S.ini c ds p1 with
    | stuck => rw [ei] at o1; exact o1.elim
    | err k fs p' =>
      rw [ei] at o1
      intro F' H' dy keep there same new ok xa
      refine o1 F' H' dy ⟨fun a u na q e => ?_, fun a e => ?_, same, fun a e => ?_, ok⟩ xa
      · have h1 : a ≠ x := ne_of_none e hx
        exact keep a u na q h1 (by rw [upd_ne h1, upd_ne (ne_of_none e hdx)]; exact e)
      · exact ((there a e).down (.of hx1)).down (.of hdx)
      · rcases new a e with z | z
        · exact .inl z
        · exact .inr ((z.down (.of hx1)).down (.of hdx))
    | ok fs p' =>
      rw [ei] at o1
      intro F' H' ws dx' keep there same new ok hF'x hH'x hl rw'
      refine ⟨rfl, o1 (.ref x) (upd F' x (.ins (G.cls c) dx' ((G.att c).zip ws))) H' ⟨fun a u na q e => ?_, fun a e => ?_, same.trans (same_upd hF'x), fun a e => ?_, Step.more ok hF'x hH'x hnp trivial⟩ (.obj hcn upd_same hl (rw'.mono (same_upd hF'x)))⟩
      · have h1 : a ≠ x := ne_of_none e hx
        exact keep a u na q h1 (by rw [upd_ne h1, upd_ne (ne_of_none e hdx)]; exact e)
      · exact ((there a e).down (.of hx1)).down (.of hdx)
      · by_cases h0 : a = x
        · subst h0; exact .inr (.of hx)
        · rw [upd_ne h0] at e
          rcases new a e with z | z
          · exact .inl z
          · exact .inr ((z.down (.of hx1)).down (.of hdx))
theorem s_seq (C : Ctx T S G lv n nc N sc sc0 E X) {a : IE} {t e : Expr} (ha : PE X e (tE G E (evE S a))) : PI X t e (tI G E (evI S (.seq a))) := by
  have hL : PI X t e (iList X.K (tE G E (evE S a))) := pi_list ha
  have hT : PI X t e (iTup X.K (tE G E (evE S a))) := pi_tup ha
  refine ⟨fun pins s σ H R' I ⟨ρ, F, pn, p, dr, fk, o⟩ => ?_⟩
  -- which of the two is told by the value
  have o' : Out G (rJ G pn) E pn F H ((evE S a ρ p).bind fun x p => R.of (seqOf x) p) R' := by simpa only [evI] using o
  cases ev : evE S a ρ p with
  | stuck => rw [ev] at o'; exact o'.elim
  | err c fs p1 =>
    rw [ev] at o'
    exact hL.run pins s σ H R' I ⟨ρ, F, pn, p, dr, fk, by rw [ev]; exact o'⟩
  | ok d p1 =>
    rw [ev] at o'
    simp only [R.bind_ok] at o'
    cases d with
    | tup ds =>
      refine hT.run pins s σ H R' I ⟨ρ, F, pn, p, dr, fk, ?_⟩
      rw [ev]
      intro v F1 H1 s1 r1
      obtain ⟨b, vs, rfl, e1, r2'⟩ := r1.tup_inv
      exact ⟨b, rfl, ⟨vs, SqT.of (s1.ok.sub _ _ e1)⟩, o' _ F1 H1 s1 (jok_tup e1 r2')⟩
    | lst ds =>
      refine hL.run pins s σ H R' I ⟨ρ, F, pn, p, dr, fk, ?_⟩
      rw [ev]
      intro v F1 H1 s1 r1
      obtain ⟨b, vs, rfl, e1, r2'⟩ := r1.lst_inv
      exact ⟨b, rfl, ⟨vs, SqL.of (s1.ok.sub _ _ e1)⟩, o' _ F1 H1 s1 (jok_lst e1 r2')⟩
    | _ => exact o'.elim
theorem s_rng1 (C : Ctx T S G lv n nc N sc sc0 E X) {a : IE} {t y : Expr} {p1 p2 : Pos} (hg : gloB sc ("range" : Str) = true) (hy : nst y = true) (ha : PE X y (tE G E (evE S a))) : PI X t (.Call (.Name "range" p1) [y] [] p2) (tI G E (evI S (.rng1 a))) := by
  refine piI (pi_range1 (glo_of C.hsc hg) (C.free _ (by decide +kernel)) (pa_cons ha pa_nil (star_cons hy _)) (by rw [star_cons hy]; rfl)) ?_
  rintro σ H Q ⟨ρ, F, pn, p, dr, fk, o⟩
  refine ⟨ρ, F, pn, p, dr, fk, (Out.bind (rep := rD G pn) (by simpa only [evI] using o)).imp ?_⟩
  rintro x H1 ⟨F1, p1, d, e1, s1, r1, o1⟩
  obtain ⟨w, ew, o2⟩ := o1.ofH
  cases d with
  | int i =>
    cases r1
    simp only [asInt, Option.bind_some, rngOf] at ew
    split at ew
    · rename_i hs
      cases ew
      refine ⟨i, rfl, hs.2.1.1, hs.2.1.2, ?_⟩
      have z := jok_rng (G := G) (pn := pn) (F := F1) 0 i
      rw [Int.sub_zero] at z
      exact Out.here s1.ok o2 z
    · cases ew
  | _ => cases ew
theorem s_rng2 (C : Ctx T S G lv n nc N sc sc0 E X) {a b : IE} {t y z : Expr} {p1 p2 : Pos} (hg : gloB sc ("range" : Str) = true) (hy : nst y = true) (hz : nst z = true) (ha : PE X y (tE G E (evE S a))) (hb : PE X z (tE G E (evE S b))) :
    PI X t (.Call (.Name "range" p1) [y, z] [] p2) (tI G E (evI S (.rng2 a b))) := by
  refine piI (pi_range2 (glo_of C.hsc hg) (C.free _ (by decide +kernel)) (pa_cons ha (pa_cons hb pa_nil (star_cons hz _)) (star_cons hy _)) (by rw [star_cons hy, star_cons hz]; rfl) (by rw [star_cons hz]; rfl)) ?_
  rintro σ H Q ⟨ρ, F, pn, p, dr, fk, o⟩
  refine ⟨ρ, F, pn, p, dr, fk, (Out.bind (rep := rD G pn) (by simpa only [evI] using o)).imp ?_⟩
  rintro x H1 ⟨F1, p1, d, e1, s1, r1, o1⟩
  refine ⟨ρ, F1, pn, p1, dr.mono s1.same, s1.ok, (o1.bind (rep := rD G pn)).imp ?_⟩
  rintro y' H2 ⟨F2, p2, d', e2, s2, r2', o2⟩
  obtain ⟨w, ew, o3⟩ := o2.ofH
  cases d with
  | int i =>
    cases d' with
    | int j =>
      cases r1
      cases r2'
      simp only [asInt, Option.bind_some, rngOf] at ew
      split at ew
      · rename_i hs
        cases ew
        exact ⟨i, j, rfl, ⟨hs.1.1, hs.1.2, hs.2.1.1, hs.2.1.2⟩, Out.here s2.ok o3 (jok_rng i j)⟩
      · cases ew
    | _ => cases ew
  | _ => cases ew
theorem s_zip (C : Ctx T S G lv n nc N sc sc0 E X) {a b : IE} {t y z : Expr} {p1 p2 : Pos} (ht : isTp t = true) (hg : gloB sc ("zip" : Str) = true) (hy : nst y = true) (hz : nst z = true) (ha : PE X y (tE G E (evE S a))) (hb : PE X z (tE G E (evE S b))) :
    PI X t (.Call (.Name "zip" p1) [y, z] [] p2) (tI G E (evI S (.zip a b))) := by
  cases t with
  | Tuple elts kk tpos =>
    refine piI (RZ.pi_zipA (glo_of C.hsc hg) (C.free _ (by decide +kernel)) (pa_cons ha (pa_cons hb pa_nil (star_cons hz _)) (star_cons hy _)) (star_cons hy _) (star_plain (fun e he => by rw [List.mem_singleton.mp he]; exact hz) _ _)) ?_
    rintro σ H Q ⟨ρ, F, pn, p, dr, fk, o⟩
    refine ⟨ρ, F, pn, p, dr, fk, (Out.bind (rep := rD G pn) (by simpa only [evI] using o)).imp ?_⟩
    rintro x H1 ⟨F1, p1, d, e1, s1, r1, o1⟩
    refine ⟨ρ, F1, pn, p1, dr.mono s1.same, s1.ok, (o1.bind (rep := rD G pn)).imp ?_⟩
    rintro y' H2 ⟨F2, p2, d', e2, s2, r2', o2⟩
    obtain ⟨w, ew, o3⟩ := o2.ofH
    have r1 := r1.mono s2.same
    cases d with
    | tup xs =>
      cases d' with
      | tup ys =>
        cases ew
        obtain ⟨a1, vs, rfl, q1, q2⟩ := r1.tup_inv
        obtain ⟨a2, ws, rfl, q3, q4⟩ := r2'.tup_inv
        exact ⟨a1, a2, vs, ws, rfl, .inr ⟨SqT.of (s2.ok.sub _ _ q1), SqT.of (s2.ok.sub _ _ q3), Out.here s2.ok o3 (jok_zipT q1 q2 q3 q4)⟩⟩
      | _ => cases ew
    | lst xs =>
      cases d' with
      | lst ys =>
        cases ew
        obtain ⟨a1, vs, rfl, q1, q2⟩ := r1.lst_inv
        obtain ⟨a2, ws, rfl, q3, q4⟩ := r2'.lst_inv
        exact ⟨a1, a2, vs, ws, rfl, .inl ⟨SqL.of (s2.ok.sub _ _ q1), SqL.of (s2.ok.sub _ _ q3), Out.here s2.ok o3 (jok_zipL q1 q2 q3 q4)⟩⟩
      | _ => cases ew
    | _ => cases d' <;> cases ew
  | _ => cases ht
theorem s_enum (C : Ctx T S G lv n nc N sc sc0 E X) {a : IE} {t y : Expr} {p1 p2 : Pos} (ht : isTp t = true) (hg : gloB sc ("enumerate" : Str) = true) (hy : nst y = true) (ha : PE X y (tE G E (evE S a))) :
    PI X t (.Call (.Name "enumerate" p1) [y] [] p2) (tI G E (evI S (.enum a))) := by
  cases t with
  | Tuple elts kk tpos =>
    refine piI (pi_enum (glo_of C.hsc hg) (C.free _ (by decide +kernel)) (pa_cons ha pa_nil (star_cons hy _)) (by rw [star_cons hy]; rfl)) ?_
    rintro σ H Q ⟨ρ, F, pn, p, dr, fk, o⟩
    refine ⟨ρ, F, pn, p, dr, fk, (Out.bind (rep := rD G pn) (by simpa only [evI] using o)).imp ?_⟩
    rintro x H1 ⟨F1, p1, d, e1, s1, r1, o1⟩
    obtain ⟨w, ew, o2⟩ := o1.ofH
    cases d with
    | lst xs =>
      cases ew
      obtain ⟨a1, vs, rfl, q1, q2⟩ := r1.lst_inv
      exact ⟨a1, vs, rfl, SqL.of (s1.ok.sub _ _ q1), Out.here s1.ok o2 (jok_enum q1 q2)⟩
    | _ => cases ew
  | _ => cases ht
end
end Mi

set_option Elab.async false
set_option linter.all false
set_option maxRecDepth 100000
set_option maxHeartbeats 1000000
namespace Mi
open PySem PySem.Spec PyProof.Rows L2
section
variable {T : Tab} {S : Sem0} {G : Ad} {lv : Nat → Nat} {n nc : Nat → Bool} {N : List Str}
variable {sc sc0 : Scope} {E : XK} {X : Cx}
abbrev lamn (T : Tab) (n : Nat → Bool) : Nat → Bool := fun i => n i && T.lamN i
abbrev lamc (T : Tab) (nc : Nat → Bool) : Nat → Bool := fun c => nc c && decide (c < 1000) && decide (T.ilv c + 1 ≤ T.k2)
theorem Ctx.lam (C : Ctx T S G lv n nc N sc sc0 E X) (z : FltC T S G lv X) {scope : Scope} (L : LamX.LamS X.env.scope scope) {A : Around} {outer : List Env} {s : Shared} {H : Hp} {E' : XK} {f c' : Addr}
    (hr : Room T.k2 (A.deeper (LamX.lamEnv X scope s.heap.objs.size f c'))) : Ctx T S G lv (lamn T n) (lamc T nc) N scope scope E' (LamX.lamCx X A outer s H E' scope f c') where
  hN := C.hN
  nd := C.nd
  hsc := rfl
  loc := fun x h => by
    unfold locB at h
    cases q : scope.names.lookup x with
    | none => rw [q] at h; cases h
    | some k =>
      rw [q] at h
      have o := L.own _ (PySem.mem_of_lookup q)
      cases k <;> first | exact absurd rfl o.1 | exact absurd rfl o.2 | cases h
  calm := rfl
  units := by have := hr.un; exact (show (A.deeper (LamX.lamEnv X scope s.heap.objs.size f c')).units + 64 < cLine by omega)
  room := fun i hi => by
    simp only [lamn, Bool.and_eq_true] at hi
    exact hr.mono (Nat.le_of_succ_le (z.lam.2 i hi.2))
  con := C.con
  fns := fun i x m hi => by
    simp only [lamn, Bool.and_eq_true] at hi
    exact C.fns i x m hi.1
  free := C.free
  hnc := C.hnc
  att := C.att
  clsF := C.clsF
  clsM := C.clsM
  mks := fun c x m at_ hc h => by
    simp only [lamc, Bool.and_eq_true, decide_eq_true_eq] at hc
    obtain ⟨f, fd, ps, F1, M, hb, _⟩ := C.mks c x m at_ hc.1.1 h
    exact ⟨f, fd, ps, F1, M, hb, hr.mono hc.2⟩
  eqs := fun c k h hk => by
    simp only [lamn, Bool.and_eq_true] at hk
    obtain ⟨h1, f, fd, ps, F1, hb, _, r⟩ := C.eqs c k h hk.1
    exact ⟨h1, f, fd, ps, F1, hb, hr.mono (z.lam.2 k hk.2), r⟩
  exc := fun j x at_ _ hc => by
    simp only [lamc, Bool.and_eq_true, decide_eq_true_eq] at hc
    have := hc.1.2
    unfold xc at this
    omega
  flt := fun h => by
    simp only [lamn, Bool.and_eq_true] at h
    rw [z.lam.1] at h
    exact absurd h.2 (by simp)
  pass := passes_call (X := LamX.lamCx X A outer s H E' scope f c') (takes_of rfl rfl rfl rfl) (fun _ _ _ _ h => h)
theorem Step.ofExt {pn : PN} {p : PenS} {F H H1 : Hp} (fk : FOk G F H pn p) (e : LamX.ExtN H H1) (t : LamX.Tabs G.tabs H1) : Step G pn p F H F H1 := by
  refine ⟨fun a o _ q h => e a o h q, fun a h o ho => ?_, Same.refl F, fun a h => .inl h, ⟨fun a o h => e a o (fk.sub a o h) (fun ps z => by subst z; exact fk.notb a ps h), ?_, fk.notb, t⟩⟩
  · by_cases hq : ∀ ps, o ≠ HO.tbl ps
    · exact h o (e a o ho hq)
    · exact Classical.byContradiction fun z => hq fun ps y => z ⟨ps, y⟩
  · have z := fk.pen
    cases pn with
    | none => cases p with | none => trivial | some _ => exact z.elim
    | some q =>
      obtain ⟨pa, ca⟩ := q
      cases p with
      | none => exact z.elim
      | some st =>
        obtain ⟨z1, z2, z3⟩ := z
        exact ⟨z1, e _ _ z2 (fun _ y => by cases y), z3⟩
theorem s_fault (C : Ctx T S G lv n nc N sc sc0 E X) {g : Nat} {lam : IE} {x : Str} {b : Expr} {scope : Scope} {p1 p2 p3 : Pos} (hg : gloB sc x = true) (ho : okN x = true) (hn : n g = true) (hfg : g = T.fg) (hf : T.fns[g]? = some (x, 1)) (hL : LamX.lamSB sc scope = true)
    (hb : ∀ {A : Around} {outer : List Env} {s : Shared} {H : Hp} {E' : XK} {f c' : Addr}, Ctx T S G lv (lamn T n) (lamc T nc) N scope scope E' (LamX.lamCx X A outer s H E' scope f c') → PE (LamX.lamCx X A outer s H E' scope f c') b (tE G E' (evE S lam))) :
    PE X (.Call (.Name x p1) [.Lambda ⟨[], [], none, [], [], none, []⟩ b scope p2] [] p3) (tE G E (evE S (.fault g lam))) := by
  subst hfg
  have z := C.flt hn
  obtain ⟨c, P, t1, t2, t3, t4⟩ := z.at_
  obtain ⟨x', gA, pg, bg, sg, dV, kV, doc, pm, cdv, ct, oc, an, od, osl, den, d1, d2, d3, d4, d5, d6, d7, d8, d9, d10⟩ := z.df
  rw [hf] at d1
  cases d1
  have Ls : LamX.LamS X.env.scope scope := by rw [C.hsc]; exact LamX.lamS_by hL
  refine peI (LamX.pe_lamcall (T := G.tabs) (TT := TFault G T.excs den) (k := T.k2) (t := fun E' => tE G E' (evE S lam)) (glo_of C.hsc hg) d2 d3 d4 d5 d6 d7 rfl d8 (d9 _) t2 t1 t3 t4 z.room Ls rfl (fun _ _ _ _ _ => rfl)
    (fun A outer s H E' f c' hr => hb (C.lam z Ls hr)) (okN1 ho) (by decide +kernel) (by decide +kernel)) ?_
  rintro σ H Q ⟨ρ, F, pn, p, dr, fk, o⟩
  refine ⟨fk.tabs, fun H1 eN T1 Q' E' hQ hE => ?_⟩
  have s0 : Step G pn p F H F H1 := Step.ofExt fk eN T1
  refine ⟨ρ, F, pn, p, dr, s0.ok, ?_⟩
  simp only [evE] at o
  cases ev : evE S lam ρ p with
  | stuck => rw [ev] at o; exact o.elim
  | ok d p' =>
    rw [ev] at o
    intro v F' H' s1 _
    exact hQ v H' (o .non F' H' ((Step.ofExt fk eN T1).trans s1) .non)
  | err c' fs p' =>
    rw [ev] at o
    intro F' H' dx s1 hx
    have o' : Out G (rD G pn) E pn F H (R.of (S.flt c' fs) p') Q := o
    cases ef : S.flt c' fs with
    | none => rw [ef] at o'; exact o'.elim
    | some d =>
      rw [ef] at o'
      obtain ⟨j, rfl, hj, hd⟩ := d10 c' fs d ef
      refine hE _ _ _ ⟨F', pn, p', j, fs, dx, d, rfl, rfl, hj, s1.ok, hx, hd, fun v F2 H2 s2 rv => ?_⟩
      exact o' v F2 H2 ((Step.ofExt fk eN T1).trans (s1.trans s2)) rv
theorem s_callv (C : Ctx T S G lv n nc N sc sc0 E X) {ks : List Nat} {i : Nat} {xs : IEs} {x : Str} {e0 : Expr} {es : List Expr} {p1 p2 : Pos} (hN : N[i]? = some x) (hv : visB sc x = true) (ho : okN x = true)
    (hk : ∀ k ∈ ks, n k = true ∧ (T.fns[k]?).map (·.2) = some (es.length + 1) ∧ (T.fns[k]?).map (·.1) ≠ some "") (hm : mEs T n nc N sc xs (e0 :: es) = true) (ha : PA X (e0 :: es) (tEs G E (evEs S xs))) :
    PE X (.Call (.Name x p1) (e0 :: es) [] p2) (tE G E (evE S (.callv ks i xs))) := by
  have hn := mEs_nst hm
  refine ⟨fun pins s σ H Q I ⟨ρ, F, pn, p, dr, fk, o⟩ => ?_⟩
  simp only [evE] at o
  cases q : ρ[i]?.join with
  | none => rw [q] at o; exact o.elim
  | some fv =>
    rw [q] at o
    simp only [R.of_some, R.bind_ok] at o
    have qi : ρ[i]? = some (some fv) := by
      cases q2 : ρ[i]? with
      | none => rw [q2] at q; cases q
      | some y => rw [q2] at q; exact congrArg some q
    obtain ⟨v, hv1, rv⟩ := dr.2 i fv qi
    cases fv with
    | fn k =>
      by_cases hks : k ∈ ks
      · have o2 : Out G (rD G pn) E pn F H ((evEs S xs ρ p).bind fun ds p => S.den k ds p) Q := by
          have o1 := o
          simp only [if_pos hks] at o1
          exact o1
        obtain ⟨h1, h2, h3⟩ := hk k hks
        cases qf : T.fns[k]? with
        | none => rw [qf] at h2; cases h2
        | some y =>
          obtain ⟨fx, m⟩ := y
          rw [qf] at h2 h3
          cases h2
          obtain ⟨fd, ps, F1, hmk, hb⟩ := C.fns k fx _ h1 qf
          obtain ⟨_, hkp⟩ := hmk (fun z => h3 (by rw [z]; rfl))
          refine (pe_callL (i := i) (f := G.fad k) (p := p1) (pos := p2) F1 (C.room k h1) (by rw [C.hN]; exact hN) (by rw [C.hsc]; exact vis_of hv) hkp hb .nil C.pass ha (okN1 ho) (okN2 ho) (star_cons (hn e0 (by simp)) _) (star_plain (fun e he => hn e (by simp [he])) _ _)).run pins s σ H Q I ?_
          cases rv
          refine ⟨hv1, ρ, F, pn, p, dr, fk, (o2.bind (rep := rDs G pn)).imp ?_⟩
          rintro vs H1 ⟨F2, p2, ds, e1, s1, r1, o1⟩
          rw [List.append_nil]
          exact ⟨by rw [r1.length, evEs_len e1, mEs_len hm]; rfl, F2, pn, p2, ds, s1.ok, r1, o1⟩
      · have o1 := o
        simp only [if_neg hks] at o1
        exact o1.elim
    | _ => exact o.elim
theorem keysOf_get : ∀ {ps : List D} {ks : List Key}, keysOf ps = some ks → ∀ {pn : PN} {F : Hp} {vs : List V}, Reps G pn F vs ps → ∃ (as : List Addr) (kvs : List (Key × V)), vs = as.map V.ref ∧ kvs.map (·.1) = ks ∧ Paired (fun a kv => F a = some (.tup [kV kv.1, kv.2])) as kvs
  | [], ks, h, _, _, _, .nil => by cases h; exact ⟨[], [], rfl, rfl, .nil⟩
  | d :: ps, ks, h, _, _, _, .cons (v := v) r t => by
    simp only [keysOf] at h
    cases e1 : keyOf d with
    | none => rw [e1] at h; cases h
    | some k =>
      rw [e1] at h
      cases e2 : keysOf ps with
      | none => rw [e2] at h; cases h
      | some ks' =>
        rw [e2] at h
        cases h
        obtain ⟨as, kvs, rfl, h2, h3⟩ := keysOf_get e2 t
        unfold keyOf at e1
        split at e1
        · cases e1
          obtain ⟨a, ws, rfl, f1, r1⟩ := r.tup_inv
          obtain ⟨x1, x2, rfl, q1, q2⟩ := r1.two
          cases q1
          exact ⟨a :: as, (.inl _, x2) :: kvs, rfl, by rw [List.map_cons, h2], .cons f1 h3⟩
        · cases e1
          obtain ⟨a, ws, rfl, f1, r1⟩ := r.tup_inv
          obtain ⟨x1, x2, rfl, q1, q2⟩ := r1.two
          cases q1
          exact ⟨a :: as, (.inr _, x2) :: kvs, rfl, by rw [List.map_cons, h2], .cons f1 h3⟩
        · cases e1
theorem putK_keys (kvs : List (Key × V)) (k : Key) (v : V) : (putK kvs k v).map (·.1) = putN (kvs.map (·.1)) k := by
  unfold putK putN
  have e : ((kvs.map (·.1)).any fun x => decide (x = k)) = kvs.any fun kv => decide (kv.1 = k) := by rw [List.any_map]; rfl
  rw [e]
  split
  · rw [List.map_map]
    apply List.map_congr_left
    intro kv _
    by_cases h : kv.1 = k <;> simp [h]
  · simp
theorem mergeK_keys : ∀ (more kvs : List (Key × V)), (mergeK kvs more).map (·.1) = (more.map (·.1)).foldl putN (kvs.map (·.1))
  | [], kvs => rfl
  | m :: more, kvs => by
    have ih := mergeK_keys more (putK kvs m.1 m.2)
    unfold mergeK at ih ⊢
    rw [List.foldl_cons, List.map_cons, List.foldl_cons, ih, putK_keys]
theorem s_dlen (C : Ctx T S G lv n nc N sc sc0 E X) {a : IE} {z : Expr} {p1 p2 p3 p4 : Pos} (hg : gloB sc "len" = true) (hg2 : gloB sc "dict" = true) (hz : nst z = true) (ha : PE X z (tE G E (evE S a))) :
    PE X (.Call (.Name "len" p1) [.Call (.Name "dict" p2) [z] [] p3] [] p4) (tE G E (evE S (.dlen a))) := by
  have d1 : PE X (.Call (.Name "dict" p2) [z] [] p3) _ := pe_callTy (call_dictP C.calm) (glo_of C.hsc hg2) (C.free _ (by decide +kernel)) (by decide +kernel) (paI (pa_cons ha pa_nil (star_cons hz _)) (t' := fun σ H Q => tE G E (evE S a) σ H fun x H1 => Q [x] H1) fun σ H Q q => q) (by decide +kernel) (by decide +kernel) (star_cons hz _) rfl
  refine peI (pe_callB call_lenD (glo_of C.hsc hg) (C.free _ (by decide +kernel)) (by decide +kernel) (pa_cons d1 pa_nil rfl) (by decide +kernel) (by decide +kernel) rfl rfl) ?_
  rintro σ H Q ⟨ρ, F, pn, p, dr, fk, o⟩
  refine ⟨ρ, F, pn, p, dr, fk, (Out.bind (rep := rD G pn) (by simpa only [evE] using o)).imp ?_⟩
  rintro x H1 ⟨F1, p1, d, e1, s1, r1, o1⟩
  obtain ⟨w, ew, o2⟩ := o1.ofH
  cases d with
  | lst ps =>
    simp only [dlenD, Option.map_eq_some_iff] at ew
    obtain ⟨ks, ek, rfl⟩ := ew
    obtain ⟨l, vs, rfl, hl, rs⟩ := r1.lst_inv
    obtain ⟨as, kvs, rfl, hk, hp⟩ := keysOf_get ek rs
    refine ⟨l, as, kvs, rfl, .inl (.inl (s1.ok.sub _ _ hl)), L2.Paired.mapP hp fun a kv h => .inl (.inl (s1.ok.sub _ _ h)), fun q hq => ?_⟩
    refine ⟨q, mergeK [] kvs, rfl, upd_same, ?_⟩
    have hlen : (mergeK [] kvs).length = (ks.foldl putN []).length := by
      rw [← List.length_map (f := (·.1)), mergeK_keys, hk]
      rfl
    rw [hlen]
    exact o2 _ F1 _ (Step.side s1.ok hq) (.int _)
  | _ => cases ew
end
end Mi

set_option Elab.async false
set_option linter.all false
set_option maxRecDepth 100000
set_option maxHeartbeats 4000000
namespace Mi
open PySem PySem.Spec PyProof.Rows L2
theorem tG_nil {α β : Type} {G : Ad} {rep : PN → Hp → β → α → Prop} {E : XK} {ev : DEnv → PenS → R α} {σ : L2.St} {H : Hp} {Q : β → Hp → Prop} (h : ∀ ρ p, ev ρ p = .stuck) (t : tG G rep E ev σ H Q) : False := by
  obtain ⟨ρ, F, pn, p, dr, fk, o⟩ := t
  rw [h] at o
  exact o
/-- two values in a row, then an operation -/
theorem bin_read {α β : Type} {G : Ad} {rep : PN → Hp → β → α → Prop} {E : XK} {ea eb : DEnv → PenS → R D} {f : D → D → Option α} {σ : L2.St} {H : Hp} {Q : β → Hp → Prop}
    (h : tG G rep E (fun ρ p => (ea ρ p).bind fun x p => (eb ρ p).bind fun y p => R.of (f x y) p) σ H Q) :
    tE G E ea σ H fun x H1 => tE G E eb σ H1 fun y H2 => r2 G rep E f x y H2 Q := by
  obtain ⟨ρ, F, pn, p, dr, fk, o⟩ := h
  refine ⟨ρ, F, pn, p, dr, fk, (o.bind (rep := rD G pn)).imp ?_⟩
  rintro x H1 ⟨F1, p1, d, e1, s1, r1, o1⟩
  refine ⟨ρ, F1, pn, p1, dr.mono s1.same, s1.ok, (o1.bind (rep := rD G pn)).imp ?_⟩
  rintro y H2 ⟨F2, p2, e, e2, s2, q2, o2⟩
  exact ⟨F2, pn, p2, d, e, s2.ok, r1.mono s2.same, q2, o2⟩
theorem chain_read {G : Ad} {E : XK} {o o' : COp} {ea eb ec : DEnv → PenS → R D} {σ : L2.St} {H : Hp} {Q : Bool → Hp → Prop}
    (h : tT G E (fun ρ p => (ea ρ p).bind fun x p => (eb ρ p).bind fun y p => (R.of (cmpV o x y) p).bind fun k p => if k = true then (ec ρ p).bind fun z p => R.of (cmpV o' y z) p else .ok false p) σ H Q) :
    tChain (r2 G (rD G) E (fun d e => (cmpV o d e).map D.bl)) (r2 G (rD G) E (fun d e => (cmpV o' d e).map D.bl)) (tE G E ea) (tE G E eb) (tE G E ec) σ H (fun x H' => ∃ k, x = .bl k ∧ Q k H') := by
  obtain ⟨ρ, F, pn, p, dr, fk, h⟩ := h
  refine ⟨ρ, F, pn, p, dr, fk, (h.bind (rep := rD G pn)).imp ?_⟩
  rintro x H1 ⟨F1, p1, d, e1, s1, r1, o1⟩
  refine ⟨ρ, F1, pn, p1, dr.mono s1.same, s1.ok, (o1.bind (rep := rD G pn)).imp ?_⟩
  rintro y H2 ⟨F2, p2, e, e2, s2, q2, o2⟩
  refine ⟨F2, pn, p2, d, e, s2.ok, r1.mono s2.same, q2, ?_⟩
  cases ec1 : cmpV o d e with
  | none => rw [ec1] at o2; exact o2.elim
  | some k =>
    rw [ec1] at o2
    simp only [R.of_some, R.bind_ok] at o2
    show Out G (rD G pn) E pn F2 H2 (R.of ((cmpV o d e).map D.bl) p2) _
    rw [ec1]
    show Out G (rD G pn) E pn F2 H2 (.ok (.bl k) p2) _
    intro b F3 H3 s3 rb
    have rb := rb.bl_inv
    subst rb
    refine ⟨k, rfl, ?_⟩
    cases k with
    | false =>
      rw [if_neg Bool.false_ne_true] at o2
      rw [if_neg Bool.false_ne_true]
      exact ⟨false, rfl, o2 false F3 H3 s3 rfl⟩
    | true =>
      rw [if_pos rfl] at o2
      rw [if_pos rfl]
      have o3 : Out G rB E pn F3 H3 ((ec ρ p2).bind fun z p => R.of (cmpV o' e z) p) Q := by
        cases q : (ec ρ p2).bind (fun z p => R.of (cmpV o' e z) p) with
        | stuck => rw [q] at o2; exact o2
        | err c fs p' => rw [q] at o2; exact fun F' H' dx st => o2 F' H' dx (s3.trans st)
        | ok b p' => rw [q] at o2; exact fun b F' H' st => o2 b F' H' (s3.trans st)
      refine ⟨ρ, F3, pn, p2, dr.mono (s1.same.trans (s2.same.trans s3.same)), s3.ok, (o3.bind (rep := rD G pn)).imp ?_⟩
      rintro w H4 ⟨F4, p4, z, e4, s4, r4, o4⟩
      refine ⟨F4, pn, p4, e, z, s4.ok, q2.mono (s3.same.trans s4.same), r4, ?_⟩
      cases ec2 : cmpV o' e z with
      | none => rw [ec2] at o4; exact o4.elim
      | some k =>
        rw [ec2] at o4
        show Out G (rD G pn) E pn F4 H4 (R.of ((cmpV o' e z).map D.bl) p4) _
        rw [ec2]
        show Out G (rD G pn) E pn F4 H4 (.ok (.bl k) p4) _
        intro b F5 H5 s5 rb
        have rb := rb.bl_inv
        subst rb
        exact ⟨k, rfl, o4 k F5 H5 s5 rfl⟩
/-- a bool's reading as a value, from the test's -/
theorem bl_read {G : Ad} {E : XK} {ev : DEnv → PenS → R Bool} {σ : L2.St} {H : Hp} {Q : VK} (h : tE G E (fun ρ p => (ev ρ p).bind fun k p => .ok (.bl k) p) σ H Q) : tT G E ev σ H (fun k H' => Q (.bl k) H') := by
  obtain ⟨ρ, F, pn, p, dr, fk, o⟩ := h
  refine ⟨ρ, F, pn, p, dr, fk, ?_⟩
  dsimp only at o
  cases e : ev ρ p with
  | stuck => rw [e] at o; exact o
  | err c fs p' => rw [e] at o; exact o
  | ok k p' =>
    rw [e] at o
    rintro b F' H' s rfl
    exact o (.bl b) F' H' s (.bl b)
/-- a value's truth -/
theorem tru_read {G : Ad} {K : PySem.W.Frag} {E : XK} {ev : DEnv → PenS → R D} {σ : L2.St} {H : Hp} {Q : Bool → Hp → Prop} (h : tT G E (fun ρ p => (ev ρ p).bind fun x p => R.of (truth x) p) σ H Q) :
    tE G E ev σ H fun x H1 => ∃ k, TruV K x H1 k ∧ Q k H1 := by
  obtain ⟨ρ, F, pn, p, dr, fk, o⟩ := h
  refine ⟨ρ, F, pn, p, dr, fk, (o.bind (rep := rD G pn)).imp ?_⟩
  rintro x H1 ⟨F1, p1, d, e1, s1, r1, o1⟩
  obtain ⟨k, ek, o2⟩ := o1.ofH
  exact ⟨k, r1.tru s1.ok.sub ek, o2.here s1.ok rfl⟩
theorem eqArgs_some {c : Nat} {x y : D} {ds : List D} (h : eqArgs c x y = some ds) : ∃ fs gs, x = .obj c fs ∧ y = .obj c gs ∧ ds = [.obj c fs, .obj c gs] := by
  cases x with
  | obj i fs =>
    cases y with
    | obj j gs =>
      simp only [eqArgs] at h
      split at h
      · rename_i q; obtain ⟨rfl, rfl⟩ := q; cases h; exact ⟨fs, gs, rfl, rfl, rfl⟩
      · cases h
    | _ => cases h
  | _ => cases h
section
variable {T : Tab} {S : Sem0} {G : Ad} {lv : Nat → Nat} {n nc : Nat → Bool} {N : List Str}
theorem evT_tru_eqo {ne : Bool} {c k : Nat} {a b : IE} : (fun ρ p => evT S (.eqo ne c k a b) ρ p) = fun ρ p => (evE S (.eqo ne c k a b) ρ p).bind fun x p => R.of (truth x) p := by
  funext ρ p
  simp only [evT, evE]
  cases evE S a ρ p with
  | ok x p1 =>
    simp only [R.bind_ok]
    cases evE S b ρ p1 with
    | ok y p2 =>
      simp only [R.bind_ok]
      cases eqArgs c x y <;> rfl
    | err _ _ _ => rfl
    | stuck => rfl
  | err _ _ _ => rfl
  | stuck => rfl
theorem s_eqo {sc sc0 : Scope} {E : XK} {X : Cx} (C : Ctx T S G lv n nc N sc sc0 E X) {ne : Bool} {c k : Nat} {a b : IE} (h2 : n k = true) (h3 : (c, k) ∈ T.eqs) : 
    OpR X (compareOp (eqOp ne)) (fun x y H Q => ∃ F pn p d e, FOk G F H pn p ∧ Rep G pn F x d ∧ Rep G pn F y e ∧ Out G (rD G pn) E pn F H ((R.of (eqArgs c d e) p).bind fun ds p => (S.den k ds p).bind (eqRes ne)) Q) := by
  obtain ⟨hc, f, fd, ps, Fn, hb, hr, hn, hs, hf⟩ := C.eqs c k h3 h2
  have op := op_eqo (c := c) (ne := ne) (E := E) Fn hb C.pass hr hn hs hf (C.clsF.hm c hc)
  rintro pins s σ H x y v u Q I rx ry ⟨F, pn, p, d, e, fk, r1, r2', o⟩
  cases q : eqArgs c d e with
  | none => rw [q] at o; exact o.elim
  | some ds =>
    rw [q] at o
    obtain ⟨fs, gs, rfl, rfl, rfl⟩ := eqArgs_some q
    exact op pins s σ H x y v u Q I rx ry ⟨F, pn, p, fs, gs, fk, r1, r2', o⟩
theorem eqo_test {ne : Bool} {G : Ad} {E : XK} {pn : PN} {F H : Hp} {p : PenS} {o : Option (List D)} {den : Den} {Q : Bool → Hp → Prop}
    (h : Out G rB E pn F H ((R.of o p).bind fun ds p => ((den ds p).bind (eqRes ne)).bind fun x p => R.of (truth x) p) Q) : Out G (rD G pn) E pn F H ((R.of o p).bind fun ds p => (den ds p).bind (eqRes ne)) (fun z H' => ∃ k, z = .bl k ∧ Q k H') := by
  cases o with
  | none => exact h.elim
  | some ds =>
    have h : Out G rB E pn F H (((den ds p).bind (eqRes ne)).bind fun x p => R.of (truth x) p) Q := h
    show Out G (rD G pn) E pn F H ((den ds p).bind (eqRes ne)) _
    refine (h.bind (rep := rD G pn)).imp ?_
    rintro z H1 ⟨F1, p1, d, e1, s1, r1, o1⟩
    obtain ⟨d0, p0, _, e2⟩ := bind_ok_inv e1
    cases d0 with
    | bl t =>
      cases e2
      cases r1
      exact ⟨_, rfl, o1.here s1.ok rfl⟩
    | _ => cases e2
theorem eqo_mark {ne : Bool} {b : Expr} : behindInMarks (eqOp ne) b = false := by
  cases ne
  · exact nobehind _ (by decide) (by decide)
  · exact nobehind _ (by decide) (by decide)
theorem evT_tru_call {k : Nat} {xs : IEs} : (fun ρ p => evT S (.call k xs) ρ p) = fun ρ p => (evE S (.call k xs) ρ p).bind fun x p => R.of (truth x) p := by
  funext ρ p
  simp only [evT, evE]
  cases evEs S xs ρ p <;> rfl
theorem evT_tru_blt {k : BF} {xs : IEs} : (fun ρ p => evT S (.blt k xs) ρ p) = fun ρ p => (evE S (.blt k xs) ρ p).bind fun x p => R.of (truth x) p := by
  funext ρ p
  simp only [evT, evE]
  cases evEs S xs ρ p <;> rfl
theorem evT_tru_fld {a : IE} {f : Str} : (fun ρ p => evT S (.fld a f) ρ p) = fun ρ p => (evE S (.fld a f) ρ p).bind fun x p => R.of (truth x) p := by
  funext ρ p
  simp only [evT, evE]
  cases evE S a ρ p <;> rfl
theorem evT_tru_isi {a : IE} {t : Ty} : (fun ρ p => evT S (.isi a t) ρ p) = fun ρ p => (evE S (.isi a t) ρ p).bind fun x p => R.of (truth x) p := by
  funext ρ p
  simp only [evT, evE]
  cases evE S a ρ p with
  | ok d p1 =>
    simp only [R.bind_ok]
    cases tyD d with
    | none => rfl
    | some u =>
      simp only [Option.bind_some]
      cases kit u t <;> rfl
  | err _ _ _ => rfl
  | stuck => rfl
theorem evT_tru_isis {a : IE} {t : List Ty} : (fun ρ p => evT S (.isis a t) ρ p) = fun ρ p => (evE S (.isis a t) ρ p).bind fun x p => R.of (truth x) p := by
  funext ρ p
  simp only [evT, evE]
  cases evE S a ρ p with
  | ok d p1 =>
    simp only [R.bind_ok]
    cases tyD d with
    | none => rfl
    | some u =>
      simp only [Option.bind_some]
      cases kits u t <;> rfl
  | err _ _ _ => rfl
  | stuck => rfl
mutual
theorem soundE : ∀ (ir : IE) {n nc : Nat → Bool} {sc sc0 : Scope} {E : XK} {X : Cx} (C : Ctx T S G lv n nc N sc sc0 E X) (e : Expr), mE T n nc N sc ir e = true → PE X e (tE G E (evE S ir))
  | .int i, n, nc, sc, sc0, E, X, C, e, h => by
    simp only [mE] at h
    split at h
    · cases of_decide_eq_true h
      exact peI pe_int fun σ H Q ⟨ρ, F, pn, p, dr, fk, o⟩ => o.here fk (.int i)
    · cases h
  | .bl i, n, nc, sc, sc0, E, X, C, e, h => by
    simp only [mE] at h
    split at h
    · cases of_decide_eq_true h
      exact peI pe_bl fun σ H Q ⟨ρ, F, pn, p, dr, fk, o⟩ => o.here fk (.bl i)
    · cases h
  | .non, n, nc, sc, sc0, E, X, C, e, h => by
    simp only [mE] at h
    split at h
    · exact peI pe_non fun σ H Q ⟨ρ, F, pn, p, dr, fk, o⟩ => o.here fk .non
    · cases h
  | .str i, n, nc, sc, sc0, E, X, C, e, h => by
    simp only [mE] at h
    split at h
    · cases of_decide_eq_true h
      exact peI pe_str fun σ H Q ⟨ρ, F, pn, p, dr, fk, o⟩ => o.here fk (.str i)
    · cases h
  | .var i, n, nc, sc, sc0, E, X, C, e, h => by
    simp only [mE] at h
    split at h
    · simp only [Bool.and_eq_true, decide_eq_true_eq] at h
      refine peI (pe_var (by rw [C.hN]; exact h.1.1) (by rw [C.hsc]; exact vis_of h.1.2) (okN1 h.2) (okN2 h.2)) ?_
      rintro σ H Q ⟨ρ, F, pn, p, dr, fk, o⟩
      obtain ⟨d, ed, o1⟩ := o.ofH
      cases q : ρ[i]? with
      | none => rw [q] at ed; cases ed
      | some z =>
        rw [q] at ed
        have ed : z = some d := ed
        subst ed
        obtain ⟨v, hv, rv⟩ := dr.2 i d q
        exact ⟨v, hv, o1.here fk rv⟩
    · cases h
  | .con k, n, nc, sc, sc0, E, X, C, e, h => by
    simp only [mE] at h
    split at h
    · simp only [Bool.and_eq_true, decide_eq_true_eq] at h
      obtain ⟨⟨h1, h2⟩, h3⟩ := h
      cases q : T.cons[k]? with
      | none => rw [q] at h3; cases h3
      | some z =>
        obtain ⟨x, v⟩ := z
        rw [q] at h3
        cases h3
        obtain ⟨c1, t, c2⟩ := C.con k x v q
        refine peI (pe_glob (v := .int v) (glo_of C.hsc h1) c2 ⟨t, rfl⟩ (okN1 h2)) ?_
        rintro σ H Q ⟨ρ, F, pn, p, dr, fk, o⟩
        simp only [evE, c1] at o
        exact o.here fk (.int v)
    · cases h
  | .fnv k, n, nc, sc, sc0, E, X, C, e, h => by
    simp only [mE] at h
    split at h
    · simp only [Bool.and_eq_true, decide_eq_true_eq] at h
      obtain ⟨⟨⟨h1, h2⟩, h3⟩, h4⟩ := h
      cases q : T.fns[k]? with
      | none => rw [q] at h4; cases h4
      | some z =>
        obtain ⟨x, m⟩ := z
        rw [q] at h4
        cases h4
        obtain ⟨fd, ps, _, hm, _⟩ := C.fns k x m h3 q
        exact peI (pe_glob (v := .ref (G.fad k)) (glo_of C.hsc h1) (hm (okN3 h2)).1 rfl (okN1 h2)) fun σ H Q ⟨ρ, F, pn, p, dr, fk, o⟩ => o.here fk (.fn k)
    · cases h
  | .bin op a b, n, nc, sc, sc0, E, X, C, e, h => by
    simp only [mE] at h
    split at h
    · simp only [Bool.and_eq_true, decide_eq_true_eq] at h
      obtain ⟨⟨rfl, h2⟩, h3⟩ := h
      refine peI (pe_op (opR_bin (G := G) (E := E) op) (soundE a C _ h2) (soundE b C _ h3)) ?_
      intro σ H Q t
      exact bin_read (by simpa only [evE] using t)
    · cases h
  | .neg a, n, nc, sc, sc0, E, X, C, e, h => by
    simp only [mE] at h
    split at h
    · refine peI (pe_un un_neg (soundE a C _ h)) ?_
      rintro σ H Q ⟨ρ, F, pn, p, dr, fk, o⟩
      refine ⟨ρ, F, pn, p, dr, fk, (Out.bind (rep := rD G pn) (by simpa only [evE] using o)).imp ?_⟩
      rintro x H1 ⟨F1, p1, d, e1, s1, r1, o1⟩
      obtain ⟨w, ew, o2⟩ := o1.ofH
      cases d <;> simp only [asInt, Option.map_some, Option.map_none] at ew <;> cases ew
      cases r1
      exact ⟨_, rfl, o2.here s1.ok (.int _)⟩
    · cases h
  | .not a, n, nc, sc, sc0, E, X, C, e, h => by
    simp only [mE] at h
    split at h
    · refine peI (pe_notT (soundE a C _ h)) ?_
      rintro σ H Q ⟨ρ, F, pn, p, dr, fk, o⟩
      refine ⟨ρ, F, pn, p, dr, fk, (Out.bind (rep := rD G pn) (by simpa only [evE] using o)).imp ?_⟩
      rintro x H1 ⟨F1, p1, d, e1, s1, r1, o1⟩
      obtain ⟨w, ew, o2⟩ := o1.ofH
      simp only [Option.map_eq_some_iff] at ew
      obtain ⟨k, ek, rfl⟩ := ew
      exact ⟨k, r1.tru s1.ok.sub ek, o2.here s1.ok (.bl _)⟩
    · cases h
  | .cmp op a b, n, nc, sc, sc0, E, X, C, e, h => by
    simp only [mE] at h
    split at h
    · simp only [Bool.and_eq_true, decide_eq_true_eq] at h
      obtain ⟨⟨rfl, h2⟩, h3⟩ := h
      refine peI (pe_cmpR (opR_cmp (G := G) (E := E) C.units op) (soundE a C _ h2) (soundE b C _ h3) (nomark _ (by cases op <;> decide) (by cases op <;> decide))) ?_
      intro σ H Q t
      exact bin_read (by simpa only [evE] using t)
    · cases h
  | .chain op op' a b c, n, nc, sc, sc0, E, X, C, e, h => by
    simp only [mE] at h
    split at h
    · simp only [Bool.and_eq_true, decide_eq_true_eq] at h
      obtain ⟨⟨⟨⟨rfl, rfl⟩, h2⟩, h3⟩, h4⟩ := h
      refine peI (pe_chain (opR_cmp (G := G) (E := E) C.units op) (opR_cmp (G := G) (E := E) C.units op') (soundE a C _ h2) (soundE b C _ h3) (soundE c C _ h4) (nomark _ (by cases op' <;> decide) (by cases op' <;> decide))) ?_
      intro σ H Q t
      have t2 : tT G E (fun ρ p => (evE S a ρ p).bind fun x p => (evE S b ρ p).bind fun y p => (R.of (cmpV op x y) p).bind fun k p => if k = true then (evE S c ρ p).bind fun z p => R.of (cmpV op' y z) p else .ok false p) σ H (fun k H' => Q (.bl k) H') := by
        refine bl_read ?_
        obtain ⟨ρ, F, pn, p, dr, fk, o⟩ := t
        refine ⟨ρ, F, pn, p, dr, fk, ?_⟩
        have ee : evE S (.chain op op' a b c) ρ p = ((evE S a ρ p).bind fun x p => (evE S b ρ p).bind fun y p => (R.of (cmpV op x y) p).bind fun k p => if k = true then (evE S c ρ p).bind fun z p => R.of (cmpV op' y z) p else .ok false p).bind fun k p => .ok (.bl k) p := by
          simp only [evE]
          cases evE S a ρ p with
          | ok x p1 =>
            simp only [R.bind_ok]
            cases evE S b ρ p1 with
            | ok y p2 =>
              simp only [R.bind_ok]
              cases cmpV op x y with
              | none => rfl
              | some k =>
                cases k with
                | false => rfl
                | true =>
                  simp only [R.of_some, R.bind_ok, if_true]
                  cases evE S c ρ p2 with
                  | ok z p3 => simp only [R.bind_ok]; cases cmpV op' y z <;> rfl
                  | err _ _ _ => rfl
                  | stuck => rfl
            | err _ _ _ => rfl
            | stuck => rfl
          | err _ _ _ => rfl
          | stuck => rfl
        rw [ee] at o
        exact o
      have t3 := chain_read t2
      -- the same with the value itself
      refine tChain_imp t3 ?_
      rintro x H' ⟨k, rfl, q⟩
      exact q
    · cases h
  | .and xs, n, nc, sc, sc0, E, X, C, e, h => by
    simp only [mE] at h
    split at h
    · exact soundAnd xs C _ _ h
    · cases h
  | .or xs, n, nc, sc, sc0, E, X, C, e, h => by
    simp only [mE] at h
    split at h
    · exact soundOr xs C _ _ h
    · cases h
  | .ite c a b, n, nc, sc, sc0, E, X, C, e, h => by
    simp only [mE] at h
    split at h
    · simp only [Bool.and_eq_true] at h
      refine peI (pe_ifExp (soundT c C _ h.1.1) (soundE a C _ h.1.2) (soundE b C _ h.2)) ?_
      rintro σ H Q ⟨ρ, F, pn, p, dr, fk, o⟩
      refine ⟨ρ, F, pn, p, dr, fk, (Out.bind (rep := rB) (by simpa only [evE] using o)).imp ?_⟩
      rintro k H1 ⟨F1, p1, k', e1, s1, rfl, o1⟩
      cases k with
      | true => exact ⟨ρ, F1, pn, p1, dr.mono s1.same, s1.ok, o1⟩
      | false => exact ⟨ρ, F1, pn, p1, dr.mono s1.same, s1.ok, o1⟩
    · cases h
  | .tup xs, n, nc, sc, sc0, E, X, C, e, h => by
    simp only [mE] at h
    split at h
    · refine peI (pe_tup (soundEs xs C _ h)) ?_
      rintro σ H Q ⟨ρ, F, pn, p, dr, fk, o⟩
      refine ⟨ρ, F, pn, p, dr, fk, (Out.bind (rep := rDs G pn) (by simpa only [evE] using o)).imp ?_⟩
      rintro vs H1 ⟨F1, p1, ds, e1, s1, r1, o1⟩
      obtain ⟨w, ew, o2⟩ := o1.ofH
      split at ew
      · rename_i hz
        cases ew
        refine ⟨by rw [r1.length]; exact hz, fun q hq => ?_⟩
        exact o2.new s1.ok hq (.tup upd_same (r1.mono (same_upd (s1.ok.sub.free hq))))
      · cases ew
    · cases h
  | .lst xs, n, nc, sc, sc0, E, X, C, e, h => by
    simp only [mE] at h
    split at h
    · refine peI (pe_lst (soundEs xs C _ h)) ?_
      rintro σ H Q ⟨ρ, F, pn, p, dr, fk, o⟩
      refine ⟨ρ, F, pn, p, dr, fk, (Out.bind (rep := rDs G pn) (by simpa only [evE] using o)).imp ?_⟩
      rintro vs H1 ⟨F1, p1, ds, e1, s1, r1, o1⟩
      obtain ⟨w, ew, o2⟩ := o1.ofH
      split at ew
      · rename_i hz
        cases ew
        refine ⟨by rw [r1.length]; exact hz, fun q hq => ?_⟩
        exact o2.new s1.ok hq (.lst upd_same (r1.mono (same_upd (s1.ok.sub.free hq))))
      · cases ew
    · cases h
  | .ix a b, n, nc, sc, sc0, E, X, C, e, h => by
    simp only [mE] at h
    split at h
    · simp only [Bool.and_eq_true] at h
      refine peI (pe_ix (ixR (G := G) (E := E)) (soundE a C _ h.1.2) (soundE b C _ h.2) (plain_ix h.1.1)) ?_
      intro σ H Q t
      exact bin_read (by simpa only [evE] using t)
    · cases h
  | .sl a lo hi, n, nc, sc, sc0, E, X, C, e, h => by
    simp only [mE] at h
    split at h
    · simp only [Bool.and_eq_true] at h
      refine peI (pe_slice (slR (G := G) (E := E)) (soundE a C _ h.1.1) (soundO lo C _ h.1.2) (soundO hi C _ h.2)) ?_
      rintro σ H Q ⟨ρ, F, pn, p, dr, fk, o⟩
      refine ⟨ρ, F, pn, p, dr, fk, (Out.bind (rep := rD G pn) (by simpa only [evE] using o)).imp ?_⟩
      rintro x H1 ⟨F1, p1, d, e1, s1, r1, o1⟩
      refine ⟨ρ, F1, pn, p1, dr.mono s1.same, s1.ok, (o1.bind (rep := rO)).imp ?_⟩
      rintro l H2 ⟨F2, p2, l', e2, s2, rfl, o2⟩
      refine ⟨ρ, F2, pn, p2, dr.mono (s1.same.trans s2.same), s2.ok, (o2.bind (rep := rO)).imp ?_⟩
      rintro u H3 ⟨F3, p3, u', e3, s3, rfl, o3⟩
      exact ⟨F3, pn, p3, d, s3.ok, r1.mono (s2.same.trans s3.same), o3⟩
    · cases h
  | .fld a f, n, nc, sc, sc0, E, X, C, e, h => by
    simp only [mE] at h
    split at h
    · simp only [Bool.and_eq_true, decide_eq_true_eq] at h
      obtain ⟨⟨rfl, h2⟩, h3⟩ := h
      refine peI (pe_fld (soundE a C _ h3) (attr_base h2 _ _ _)) ?_
      rintro σ H Q ⟨ρ, F, pn, p, dr, fk, o⟩
      refine ⟨ρ, F, pn, p, dr, fk, (Out.bind (rep := rD G pn) (by simpa only [evE] using o)).imp ?_⟩
      rintro x H1 ⟨F1, p1, d, e1, s1, r1, o1⟩
      obtain ⟨w, ew, o2⟩ := o1.ofH
      cases d with
      | obj c ds =>
        cases r1 with
        | obj hc e' l r =>
          rw [C.att] at ew
          obtain ⟨v, hv, rv, hf⟩ := zip_lookup r ew
          exact ⟨_, _, _, _, v, rfl, s1.ok.sub _ _ e', C.clsF.cl _ hc, C.clsF.noat _ hc _ hf, hv, o2.here s1.ok rv⟩
      | _ => cases ew
    · cases h
  | .call k xs, n, nc, sc, sc0, E, X, C, e, h => by
    simp only [mE] at h
    split at h
    · simp only [Bool.and_eq_true, decide_eq_true_eq] at h
      obtain ⟨⟨⟨⟨h1, h2⟩, h3⟩, h4⟩, h5⟩ := h
      exact s_call C h1 h2 h3 h4 h5 (soundEs xs C _ h5)
    · cases h
  | .mk c xs, n, nc, sc, sc0, E, X, C, e, h => by
    simp only [mE] at h
    split at h
    · simp only [Bool.and_eq_true, decide_eq_true_eq] at h
      obtain ⟨⟨⟨⟨h1, h2⟩, h3⟩, h4⟩, h5⟩ := h
      exact s_mk C h1 h2 h3 h4 h5 (soundEs xs C _ h5)
    · cases h
  | .blt f xs, n, nc, sc, sc0, E, X, C, e, h => by
    simp only [mE] at h
    split at h
    · simp only [Bool.and_eq_true, decide_eq_true_eq] at h
      obtain ⟨⟨⟨h1, h2⟩, h3⟩, h4⟩ := h
      exact s_blt C h1 h2 h3 h4 (soundEs xs C _ h4)
    · cases h
  | .isi a t, n, nc, sc, sc0, E, X, C, e, h => by
    simp only [mE] at h
    split at h
    · simp only [Bool.and_eq_true, decide_eq_true_eq] at h
      obtain ⟨⟨⟨⟨⟨⟨h1, h2⟩, h3⟩, h4⟩, h5⟩, h6⟩, h7⟩ := h
      exact s_isi C h1 h2 h3 h4 h5 (soundE a C _ h6) h7
    · cases h
  | .isis a ts, n, nc, sc, sc0, E, X, C, e, h => by
    simp only [mE] at h
    split at h
    · simp only [Bool.and_eq_true, decide_eq_true_eq] at h
      obtain ⟨⟨⟨⟨⟨⟨h1, h2⟩, h3⟩, h4⟩, h5⟩, h6⟩, h7⟩ := h
      exact s_isis C h1 h2 h3 h4 (soundE a C _ h5) h6 h7
    · cases h
  | .comp elt tg it ifs own, n, nc, sc, sc0, E, X, C, e, h => by
    simp only [mE] at h
    split at h
    · simp only [Bool.and_eq_true, decide_eq_true_eq] at h
      obtain ⟨⟨⟨⟨⟨⟨⟨⟨h1, h2⟩, h3⟩, h4⟩, h5⟩, h6⟩, h7⟩, h8⟩, h9⟩ := h
      subst h1
      exact peI (s_comp C h2 h3 h5 h6 (soundI it C _ _ h4) (fun s H Cc cl fp => soundTs ifs (C.blk s H _ Cc cl fp) _ h7 h8) (fun s H Cc cl fp => soundE elt (C.blk s H _ Cc cl fp) _ h9)).1 fun σ H Q t => tE_tF t
    · cases h
  | .pget a f, n, nc, sc, sc0, E, X, C, e, h => by
    simp only [mE] at h
    split at h
    · simp only [Bool.and_eq_true, decide_eq_true_eq] at h
      obtain ⟨rfl, h2⟩ := h
      refine peI (pe_dget C.hu1 (soundE a C _ h2) pe_str (fun _ _ => rfl)) ?_
      rintro σ H Q ⟨ρ, F, pn, p, dr, fk, o⟩
      refine ⟨ρ, F, pn, p, dr, fk, (Out.bind (rep := rD G pn) (by simpa only [evE] using o)).imp ?_⟩
      rintro x H1 ⟨F1, p1, d, e1, s1, r1, o1⟩
      cases d with
      | pen =>
        cases p1 with
        | none => exact o1.elim
        | some st =>
          obtain ⟨w, ew, o2⟩ := o1.ofH
          cases r1 with
          | pen epn =>
            subst epn
            have z := s1.ok.pen
            obtain ⟨z1, z2, z3⟩ := z
            obtain ⟨v, hv, rv⟩ := penGet_rep z3 ew
            refine ⟨_, v, rfl, ?_, o2.here s1.ok rv⟩
            have g := DGet.k (k := (Sum.inr f : Key)) z2
            rw [hv] at g
            exact g
      | _ => cases p1 <;> exact o1.elim
    · cases h
  | .eqo ne c k a b, n, nc, sc, sc0, E, X, C, e, h => by
    simp only [mE] at h
    split at h
    · simp only [Bool.and_eq_true, decide_eq_true_eq] at h
      obtain ⟨⟨⟨⟨rfl, h2⟩, h3⟩, h4⟩, h5⟩ := h
      refine peI (pe_cmpR (s_eqo C (a := a) (b := b) h2 h3) (soundE a C _ h4) (soundE b C _ h5) eqo_mark) ?_
      rintro σ H Q ⟨ρ, F, pn, p, dr, fk, o⟩
      refine ⟨ρ, F, pn, p, dr, fk, (Out.bind (rep := rD G pn) (by simpa only [evE] using o)).imp ?_⟩
      rintro x H1 ⟨F1, p1, d, e1, s1, r1, o1⟩
      refine ⟨ρ, F1, pn, p1, dr.mono s1.same, s1.ok, (o1.bind (rep := rD G pn)).imp ?_⟩
      rintro y H2 ⟨F2, p2, d', e2, s2, q2, o2⟩
      exact ⟨F2, pn, p2, d, d', s2.ok, r1.mono s2.same, q2, o2⟩
    · cases h
  | .fault g lam, n, nc, sc, sc0, E, X, C, e, h => by
    simp only [mE] at h
    split at h
    · simp only [Bool.and_eq_true, decide_eq_true_eq] at h
      obtain ⟨⟨⟨⟨⟨⟨h1, h2⟩, h3⟩, h4⟩, h5⟩, h6⟩, h7⟩ := h
      exact s_fault C h1 h2 h3 h4 h5 h6 (fun C' => soundE lam C' _ h7)
    · cases h
  | .callv ks i xs, n, nc, sc, sc0, E, X, C, e, h => by
    simp only [mE] at h
    split at h
    · simp only [Bool.and_eq_true, decide_eq_true_eq, List.all_eq_true] at h
      obtain ⟨⟨⟨⟨h1, h2⟩, h3⟩, h4⟩, h5⟩ := h
      exact s_callv C h1 h2 h3 (fun k hk => ⟨(h4 k hk).1.1, (h4 k hk).1.2, (h4 k hk).2⟩) h5 (soundEs xs C _ h5)
    · cases h
  | .dlen a, n, nc, sc, sc0, E, X, C, e, h => by
    simp only [mE] at h
    split at h
    · simp only [Bool.and_eq_true, decide_eq_true_eq] at h
      obtain ⟨⟨⟨⟨⟨⟨⟨h1, h2⟩, rfl⟩, h4⟩, h5⟩, rfl⟩, h7⟩, h8⟩ := h
      exact s_dlen C h1 h4 h7 (soundE a C _ h8)
    · cases h
theorem soundT : ∀ (ir : IE) {n nc : Nat → Bool} {sc sc0 : Scope} {E : XK} {X : Cx} (C : Ctx T S G lv n nc N sc sc0 E X) (e : Expr), mT T n nc N sc ir e = true → PT X e (tT G E (evT S ir))
  | .not a, n, nc, sc, sc0, E, X, C, e, h => by
    simp only [mT] at h
    split at h
    · refine ptI (pt_not (soundT a C _ h)) ?_
      rintro σ H Q ⟨ρ, F, pn, p, dr, fk, o⟩
      refine ⟨ρ, F, pn, p, dr, fk, (Out.bind (rep := rB) (by simpa only [evT] using o)).imp ?_⟩
      rintro k H1 ⟨F1, p1, k', e1, s1, rfl, o1⟩
      exact o1.here s1.ok rfl
    · cases h
  | .and xs, n, nc, sc, sc0, E, X, C, e, h => by
    simp only [mT] at h
    split at h
    · simp only [Bool.and_eq_true] at h
      exact (soundAndT xs C _ _ h.1 (by simpa using h.2)).pt
    · cases h
  | .or xs, n, nc, sc, sc0, E, X, C, e, h => by
    simp only [mT] at h
    split at h
    · simp only [Bool.and_eq_true] at h
      exact (soundOrT xs C _ _ h.1 (by simpa using h.2)).pt
    · cases h
  | .cmp op a b, n, nc, sc, sc0, E, X, C, e, h => by
    simp only [mT] at h
    split at h
    · simp only [Bool.and_eq_true, decide_eq_true_eq] at h
      obtain ⟨⟨rfl, h2⟩, h3⟩ := h
      refine ptI (pt_cmpR (opR_cmp (G := G) (E := E) C.units op) (soundE a C _ h2) (soundE b C _ h3) (nomark _ (by cases op <;> decide) (by cases op <;> decide))) ?_
      intro σ H Q t
      have t2 := bin_read (rep := fun _ => rB) (by simpa only [evT] using t)
      obtain ⟨ρ, F, pn, p, dr, fk, o⟩ := t2
      refine ⟨ρ, F, pn, p, dr, fk, o.imp ?_⟩
      rintro x H1 ⟨ρ', F1, pn', p1, dr1, fk1, o1⟩
      refine ⟨ρ', F1, pn', p1, dr1, fk1, o1.imp ?_⟩
      rintro y H2 ⟨F2, pn2, p2, d, e, fk2, r1, r2', o2⟩
      refine ⟨F2, pn2, p2, d, e, fk2, r1, r2', ?_⟩
      cases q : cmpV op d e with
      | none => rw [q] at o2; exact o2.elim
      | some k =>
        rw [q] at o2
        show Out G (rD G pn2) E pn2 F2 H2 (R.of ((cmpV op d e).map D.bl) p2) _
        rw [q]
        show Out G (rD G pn2) E pn2 F2 H2 (.ok (.bl k) p2) _
        intro b F3 H3 s3 rb
        have rb := rb.bl_inv
        subst rb
        exact ⟨k, rfl, o2 k F3 H3 s3 rfl⟩
    · cases h
  | .chain op op' a b c, n, nc, sc, sc0, E, X, C, e, h => by
    simp only [mT] at h
    split at h
    · simp only [Bool.and_eq_true, decide_eq_true_eq] at h
      obtain ⟨⟨⟨⟨rfl, rfl⟩, h2⟩, h3⟩, h4⟩ := h
      refine ptI (pt_chain (opR_cmp (G := G) (E := E) C.units op) (opR_cmp (G := G) (E := E) C.units op') (soundE a C _ h2) (soundE b C _ h3) (soundE c C _ h4) (nomark _ (by cases op' <;> decide) (by cases op' <;> decide))) ?_
      intro σ H Q t
      exact chain_read (by simpa only [evT] using t)
    · cases h
  | .var i, n, nc, sc, sc0, E, X, C, e, h => by
    have h0 : mE T n nc N sc (.var i) e = true := h
    simp only [mT] at h
    split at h
    · refine ptI (pt_truth (soundE (.var i) C _ h0) (fun _ => rfl)) ?_
      intro σ H Q t
      exact tru_read (by simpa only [evT, evE] using t)
    · cases h
  | .call k xs, n, nc, sc, sc0, E, X, C, e, h => by
    simp only [mT] at h
    split at h
    · simp only [Bool.and_eq_true, decide_eq_true_eq] at h
      obtain ⟨⟨⟨⟨h1, h2⟩, h3⟩, h4⟩, h5⟩ := h
      refine ptI (pt_truth (s_call C h1 h2 h3 h4 h5 (soundEs xs C _ h5)) (fun _ => rfl)) ?_
      intro σ H Q t
      exact tru_read (by rw [← evT_tru_call]; exact t)
    · cases h
  | .eqo ne c k a b, n, nc, sc, sc0, E, X, C, e, h => by
    simp only [mT] at h
    split at h
    · simp only [Bool.and_eq_true, decide_eq_true_eq] at h
      obtain ⟨⟨⟨⟨rfl, h2⟩, h3⟩, h4⟩, h5⟩ := h
      refine ptI (pt_cmpR (s_eqo C (a := a) (b := b) h2 h3) (soundE a C _ h4) (soundE b C _ h5) eqo_mark) ?_
      rintro σ H Q ⟨ρ, F, pn, p, dr, fk, o⟩
      refine ⟨ρ, F, pn, p, dr, fk, (Out.bind (rep := rD G pn) (by simpa only [evT] using o)).imp ?_⟩
      rintro x H1 ⟨F1, p1, d, e1, s1, r1, o1⟩
      refine ⟨ρ, F1, pn, p1, dr.mono s1.same, s1.ok, (o1.bind (rep := rD G pn)).imp ?_⟩
      rintro y H2 ⟨F2, p2, d', e2, s2, q2, o2⟩
      exact ⟨F2, pn, p2, d, d', s2.ok, r1.mono s2.same, q2, eqo_test o2⟩
    · cases h
  | .blt f xs, n, nc, sc, sc0, E, X, C, e, h => by
    simp only [mT] at h
    split at h
    · simp only [Bool.and_eq_true, decide_eq_true_eq] at h
      obtain ⟨⟨⟨h1, h2⟩, h3⟩, h4⟩ := h
      refine ptI (pt_truth (s_blt C h1 h2 h3 h4 (soundEs xs C _ h4)) (fun _ => rfl)) ?_
      intro σ H Q t
      exact tru_read (by rw [← evT_tru_blt]; exact t)
    · cases h
  | .isi a ty, n, nc, sc, sc0, E, X, C, e, h => by
    simp only [mT] at h
    split at h
    · simp only [Bool.and_eq_true, decide_eq_true_eq] at h
      obtain ⟨⟨⟨⟨⟨⟨h1, h2⟩, h3⟩, h4⟩, h5⟩, h6⟩, h7⟩ := h
      refine ptI (pt_truth (s_isi C h1 h2 h3 h4 h5 (soundE a C _ h6) h7) (fun _ => rfl)) ?_
      intro σ H Q t
      exact tru_read (by rw [← evT_tru_isi]; exact t)
    · cases h
  | .isis a ts, n, nc, sc, sc0, E, X, C, e, h => by
    simp only [mT] at h
    split at h
    · simp only [Bool.and_eq_true, decide_eq_true_eq] at h
      obtain ⟨⟨⟨⟨⟨⟨h1, h2⟩, h3⟩, h4⟩, h5⟩, h6⟩, h7⟩ := h
      refine ptI (pt_truth (s_isis C h1 h2 h3 h4 (soundE a C _ h5) h6 h7) (fun _ => rfl)) ?_
      intro σ H Q t
      exact tru_read (by rw [← evT_tru_isis]; exact t)
    · cases h
  | .fld a f, n, nc, sc, sc0, E, X, C, e, h => by
    have h0 : mE T n nc N sc (.fld a f) e = true := h
    have sf := soundE (.fld a f) C e h0
    simp only [mT] at h
    split at h
    · refine ptI (pt_truth sf (fun _ => rfl)) ?_
      intro σ H Q t
      exact tru_read (by rw [← evT_tru_fld]; exact t)
    · cases h
  | .bl b, n, nc, sc, sc0, E, X, C, e, h => by
    simp only [mT] at h
    split at h
    · cases of_decide_eq_true h
      refine ptI (pt_val pe_bl (fun _ => rfl)) ?_
      rintro σ H Q ⟨ρ, F, pn, p, dr, fk, o⟩
      exact ⟨b, rfl, o.here fk rfl⟩
    · cases h
  | .int _, _, _, _, _, _, _, _, _, h => by cases h
  | .non, _, _, _, _, _, _, _, _, h => by cases h
  | .str _, _, _, _, _, _, _, _, _, h => by cases h
  | .con _, _, _, _, _, _, _, _, _, h => by cases h
  | .fnv _, _, _, _, _, _, _, _, _, h => by cases h
  | .bin _ _ _, _, _, _, _, _, _, _, _, h => by cases h
  | .neg _, _, _, _, _, _, _, _, _, h => by cases h
  | .ite _ _ _, _, _, _, _, _, _, _, _, h => by cases h
  | .tup _, _, _, _, _, _, _, _, _, h => by cases h
  | .lst _, _, _, _, _, _, _, _, _, h => by cases h
  | .ix _ _, _, _, _, _, _, _, _, _, h => by cases h
  | .sl _ _ _, _, _, _, _, _, _, _, _, h => by cases h
  | .mk _ _, _, _, _, _, _, _, _, _, h => by cases h
  | .comp _ _ _ _ _, _, _, _, _, _, _, _, _, h => by cases h
  | .pget _ _, _, _, _, _, _, _, _, _, h => by cases h
  | .fault _ _, _, _, _, _, _, _, _, _, h => by cases h
  | .callv _ _ _, _, _, _, _, _, _, _, _, h => by cases h
  | .dlen _, _, _, _, _, _, _, _, _, h => by cases h
theorem soundEs : ∀ (xs : IEs) {n nc : Nat → Bool} {sc sc0 : Scope} {E : XK} {X : Cx} (C : Ctx T S G lv n nc N sc sc0 E X) (es : List Expr), mEs T n nc N sc xs es = true → PA X es (tEs G E (evEs S xs))
  | .nil, n, nc, sc, sc0, E, X, C, es, h => by
    simp only [mEs] at h
    split at h
    · exact paI pa_nil fun σ H Q ⟨ρ, F, pn, p, dr, fk, o⟩ => o.here fk .nil
    · cases h
  | .cons a r, n, nc, sc, sc0, E, X, C, es, h => by
    simp only [mEs] at h
    split at h
    · simp only [Bool.and_eq_true] at h
      refine paI (pa_cons (soundE a C _ h.1.2) (soundEs r C _ h.2) (star_cons h.1.1 _)) ?_
      rintro σ H Q ⟨ρ, F, pn, p, dr, fk, o⟩
      refine ⟨ρ, F, pn, p, dr, fk, (Out.bind (rep := rD G pn) (by simpa only [evEs] using o)).imp ?_⟩
      rintro x H1 ⟨F1, p1, d, e1, s1, r1, o1⟩
      refine ⟨ρ, F1, pn, p1, dr.mono s1.same, s1.ok, (o1.bind (rep := rDs G pn)).imp ?_⟩
      rintro xs' H2 ⟨F2, p2, ds, e2, s2, r2', o2⟩
      exact o2.here s2.ok (.cons (r1.mono s2.same) r2')
    · cases h
theorem soundAnd : ∀ (xs : IEs) {n nc : Nat → Bool} {sc sc0 : Scope} {E : XK} {X : Cx} (C : Ctx T S G lv n nc N sc sc0 E X) (es : List Expr) (pos : Pos), mEs T n nc N sc xs es = true → PE X (.BoolOp .And es pos) (tE G E (evAnd S xs))
  | .nil, n, nc, sc, sc0, E, X, C, es, pos, h => ⟨fun pins s σ H Q I t => (tG_nil (fun _ _ => by simp only [evAnd]) t).elim⟩
  | .cons a .nil, n, nc, sc, sc0, E, X, C, es, pos, h => by
    simp only [mEs] at h
    split at h
    · simp only [Bool.and_eq_true] at h
      have h2 := h.2
      split at h2
      · exact peI (pe_one (soundE a C _ h.1.2)) fun σ H Q t => by simpa only [evAnd] using t
      · cases h2
    · cases h
  | .cons a (.cons b r), n, nc, sc, sc0, E, X, C, es, pos, h => by
    cases es with
    | nil => simp [mEs] at h
    | cons e1 es1 =>
      rw [mEs] at h
      simp only [Bool.and_eq_true] at h
      have ih := soundAnd (.cons b r) C es1 pos h.2
      have h2 := h.2
      simp only [mEs] at h2
      split at h2
      · refine peI (pe_andT (soundE a C _ h.1.2) ih) ?_
        rintro σ H Q ⟨ρ, F, pn, p, dr, fk, o⟩
        refine ⟨ρ, F, pn, p, dr, fk, (Out.bind (rep := rD G pn) (by simpa only [evAnd] using o)).imp ?_⟩
        rintro x H1 ⟨F1, p1, d, e1, s1, r1, o1⟩
        cases q : truth d with
        | none => rw [q] at o1; exact o1.elim
        | some k =>
          rw [q] at o1
          simp only [R.of_some, R.bind_ok] at o1
          refine ⟨k, r1.tru s1.ok.sub q, ?_⟩
          cases k with
          | true => exact ⟨ρ, F1, pn, p1, dr.mono s1.same, s1.ok, o1⟩
          | false => exact Out.here s1.ok o1 r1
      · cases h2
theorem soundOr : ∀ (xs : IEs) {n nc : Nat → Bool} {sc sc0 : Scope} {E : XK} {X : Cx} (C : Ctx T S G lv n nc N sc sc0 E X) (es : List Expr) (pos : Pos), mEs T n nc N sc xs es = true → PE X (.BoolOp .Or es pos) (tE G E (evOr S xs))
  | .nil, n, nc, sc, sc0, E, X, C, es, pos, h => ⟨fun pins s σ H Q I t => (tG_nil (fun _ _ => by simp only [evOr]) t).elim⟩
  | .cons a .nil, n, nc, sc, sc0, E, X, C, es, pos, h => by
    simp only [mEs] at h
    split at h
    · simp only [Bool.and_eq_true] at h
      have h2 := h.2
      split at h2
      · exact peI (pe_one (soundE a C _ h.1.2)) fun σ H Q t => by simpa only [evOr] using t
      · cases h2
    · cases h
  | .cons a (.cons b r), n, nc, sc, sc0, E, X, C, es, pos, h => by
    cases es with
    | nil => simp [mEs] at h
    | cons e1 es1 =>
      rw [mEs] at h
      simp only [Bool.and_eq_true] at h
      have ih := soundOr (.cons b r) C es1 pos h.2
      have h2 := h.2
      simp only [mEs] at h2
      split at h2
      · refine peI (pe_orT (soundE a C _ h.1.2) ih) ?_
        rintro σ H Q ⟨ρ, F, pn, p, dr, fk, o⟩
        refine ⟨ρ, F, pn, p, dr, fk, (Out.bind (rep := rD G pn) (by simpa only [evOr] using o)).imp ?_⟩
        rintro x H1 ⟨F1, p1, d, e1, s1, r1, o1⟩
        cases q : truth d with
        | none => rw [q] at o1; exact o1.elim
        | some k =>
          rw [q] at o1
          simp only [R.of_some, R.bind_ok] at o1
          refine ⟨k, r1.tru s1.ok.sub q, ?_⟩
          cases k with
          | true => exact Out.here s1.ok o1 r1
          | false => exact ⟨ρ, F1, pn, p1, dr.mono s1.same, s1.ok, o1⟩
      · cases h2
theorem soundAndT : ∀ (xs : IEs) {n nc : Nat → Bool} {sc sc0 : Scope} {E : XK} {X : Cx} (C : Ctx T S G lv n nc N sc sc0 E X) (es : List Expr) (pos : Pos), mTs T n nc N sc xs es = true → es ≠ [] → PW X (.BoolOp .And es pos) (tT G E (evAndT S xs))
  | .nil, n, nc, sc, sc0, E, X, C, es, pos, h, hne => by
    cases es with
    | nil => exact absurd rfl hne
    | cons e1 es1 => simp [mTs] at h
  | .cons a r, n, nc, sc, sc0, E, X, C, es, pos, h, hne => by
    simp only [mTs] at h
    split at h
    · rename_i e1 es1
      simp only [Bool.and_eq_true] at h
      have sa := soundT a C _ h.1
      cases es1 with
      | nil =>
        have er : r = .nil := by
          cases r with
          | nil => rfl
          | cons _ _ => have := h.2; simp [mTs] at this
        subst er
        refine pwI (pw_and1 sa) ?_
        rintro σ H Q ⟨ρ, F, pn, p, dr, fk, o⟩
        refine ⟨ρ, F, pn, p, dr, fk, (Out.bind (rep := rB) (by simpa only [evAndT] using o)).imp ?_⟩
        rintro k H1 ⟨F1, p1, k', e1, s1, rfl, o1⟩
        cases k with
        | true => exact Out.here s1.ok o1 rfl
        | false => exact Out.here s1.ok o1 rfl
      | cons e2 es2 =>
        have ih := soundAndT r C (e2 :: es2) pos h.2 (by simp)
        refine pwI (pw_and sa ih) ?_
        rintro σ H Q ⟨ρ, F, pn, p, dr, fk, o⟩
        refine ⟨ρ, F, pn, p, dr, fk, (Out.bind (rep := rB) (by simpa only [evAndT] using o)).imp ?_⟩
        rintro k H1 ⟨F1, p1, k', e1, s1, rfl, o1⟩
        cases k with
        | true => exact ⟨ρ, F1, pn, p1, dr.mono s1.same, s1.ok, o1⟩
        | false => exact Out.here s1.ok o1 rfl
    · cases h
theorem soundOrT : ∀ (xs : IEs) {n nc : Nat → Bool} {sc sc0 : Scope} {E : XK} {X : Cx} (C : Ctx T S G lv n nc N sc sc0 E X) (es : List Expr) (pos : Pos), mTs T n nc N sc xs es = true → es ≠ [] → PW X (.BoolOp .Or es pos) (tT G E (evOrT S xs))
  | .nil, n, nc, sc, sc0, E, X, C, es, pos, h, hne => by
    cases es with
    | nil => exact absurd rfl hne
    | cons e1 es1 => simp [mTs] at h
  | .cons a r, n, nc, sc, sc0, E, X, C, es, pos, h, hne => by
    simp only [mTs] at h
    split at h
    · rename_i e1 es1
      simp only [Bool.and_eq_true] at h
      have sa := soundT a C _ h.1
      cases es1 with
      | nil =>
        have er : r = .nil := by
          cases r with
          | nil => rfl
          | cons _ _ => have := h.2; simp [mTs] at this
        subst er
        refine pwI (pw_or1 sa) ?_
        rintro σ H Q ⟨ρ, F, pn, p, dr, fk, o⟩
        refine ⟨ρ, F, pn, p, dr, fk, (Out.bind (rep := rB) (by simpa only [evOrT] using o)).imp ?_⟩
        rintro k H1 ⟨F1, p1, k', e1, s1, rfl, o1⟩
        cases k with
        | true => exact Out.here s1.ok o1 rfl
        | false => exact Out.here s1.ok o1 rfl
      | cons e2 es2 =>
        have ih := soundOrT r C (e2 :: es2) pos h.2 (by simp)
        refine pwI (pw_or sa ih) ?_
        rintro σ H Q ⟨ρ, F, pn, p, dr, fk, o⟩
        refine ⟨ρ, F, pn, p, dr, fk, (Out.bind (rep := rB) (by simpa only [evOrT] using o)).imp ?_⟩
        rintro k H1 ⟨F1, p1, k', e1, s1, rfl, o1⟩
        cases k with
        | true => exact Out.here s1.ok o1 rfl
        | false => exact ⟨ρ, F1, pn, p1, dr.mono s1.same, s1.ok, o1⟩
    · cases h
theorem soundTs : ∀ (xs : IEs) {n nc : Nat → Bool} {sc sc0 : Scope} {E : XK} {X : Cx} (C : Ctx T S G lv n nc N sc sc0 E X) (es : List Expr), mTs T n nc N sc xs es = true → es.length ≤ 1 → PTs X es (tT G E (evAndT S xs))
  | .nil, n, nc, sc, sc0, E, X, C, es, h, hl => by
    simp only [mTs] at h
    split at h
    · refine ⟨fun pins s σ H Q I ⟨ρ, F, pn, p, dr, fk, o⟩ => (pts_nil (X := X)).run pins s σ H Q I ?_⟩
      exact Out.here fk (by simpa only [evAndT] using o) rfl
    · cases h
  | .cons a r, n, nc, sc, sc0, E, X, C, es, h, hl => by
    simp only [mTs] at h
    split at h
    · rename_i e1 es1
      simp only [Bool.and_eq_true] at h
      have sa := soundT a C _ h.1
      cases es1 with
      | nil =>
        have er : r = .nil := by
          cases r with
          | nil => rfl
          | cons _ _ => have := h.2; simp [mTs] at this
        subst er
        have z := pts_one sa
        refine ⟨fun pins s σ H Q I ⟨ρ, F, pn, p, dr, fk, o⟩ => z.run pins s σ H Q I ?_⟩
        refine ⟨ρ, F, pn, p, dr, fk, (Out.bind (rep := rB) (by simpa only [evAndT] using o)).imp ?_⟩
        rintro k H1 ⟨F1, p1, k', e1, s1, rfl, o1⟩
        cases k with
        | true => exact Out.here s1.ok o1 rfl
        | false => exact Out.here s1.ok o1 rfl
      | cons e2 es2 => simp at hl
    · cases h
theorem soundO : ∀ (x : IO) {n nc : Nat → Bool} {sc sc0 : Scope} {E : XK} {X : Cx} (C : Ctx T S G lv n nc N sc sc0 E X) (o : Option Expr), mO T n nc N sc x o = true → PO X o (tO G E (evO S x))
  | .no, n, nc, sc, sc0, E, X, C, o, h => by
    simp only [mO] at h
    split at h
    · exact poI po_none fun σ H Q ⟨ρ, F, pn, p, dr, fk, o⟩ => Out.here fk (by simpa only [evO] using o) rfl
    · cases h
  | .so a, n, nc, sc, sc0, E, X, C, o, h => by
    simp only [mO] at h
    split at h
    · refine poI (po_some (soundE a C _ h)) ?_
      rintro σ H Q ⟨ρ, F, pn, p, dr, fk, o⟩
      refine ⟨ρ, F, pn, p, dr, fk, (Out.bind (rep := rD G pn) (by simpa only [evO] using o)).imp ?_⟩
      rintro x H1 ⟨F1, p1, d, e1, s1, r1, o1⟩
      obtain ⟨w, ew, o2⟩ := o1.ofH
      cases d <;> simp only [asInt, Option.map_some, Option.map_none] at ew <;> cases ew
      cases r1
      exact ⟨_, rfl, o2.here s1.ok rfl⟩
    · cases h
theorem soundI : ∀ (x : II) {n nc : Nat → Bool} {sc sc0 : Scope} {E : XK} {X : Cx} (C : Ctx T S G lv n nc N sc sc0 E X) (t e : Expr), mI T n nc N sc x t e = true → PI X t e (tI G E (evI S x))
  | .seq a, n, nc, sc, sc0, E, X, C, t, e, h => by
    have sa := soundE a C e h
    exact s_seq C sa
  | .rng1 a, n, nc, sc, sc0, E, X, C, t, e, h => by
    simp only [mI] at h
    split at h
    · simp only [Bool.and_eq_true, decide_eq_true_eq] at h
      obtain ⟨⟨⟨⟨h1, h2⟩, rfl⟩, h4⟩, h5⟩ := h
      exact s_rng1 C h1 h4 (soundE a C _ h5)
    · cases h
  | .rng2 a b, n, nc, sc, sc0, E, X, C, t, e, h => by
    simp only [mI] at h
    split at h
    · simp only [Bool.and_eq_true, decide_eq_true_eq] at h
      obtain ⟨⟨⟨⟨⟨⟨h1, h2⟩, rfl⟩, h4⟩, h5⟩, h6⟩, h7⟩ := h
      exact s_rng2 C h1 h4 h5 (soundE a C _ h6) (soundE b C _ h7)
    · cases h
  | .zip a b, n, nc, sc, sc0, E, X, C, t, e, h => by
    simp only [mI] at h
    split at h
    · simp only [Bool.and_eq_true, decide_eq_true_eq] at h
      obtain ⟨⟨⟨⟨⟨⟨⟨h0, h1⟩, h2⟩, rfl⟩, h4⟩, h5⟩, h6⟩, h7⟩ := h
      exact s_zip C h0 h1 h4 h5 (soundE a C _ h6) (soundE b C _ h7)
    · cases h
  | .enum a, n, nc, sc, sc0, E, X, C, t, e, h => by
    simp only [mI] at h
    split at h
    · simp only [Bool.and_eq_true, decide_eq_true_eq] at h
      obtain ⟨⟨⟨⟨⟨h0, h1⟩, h2⟩, rfl⟩, h4⟩, h5⟩ := h
      exact s_enum C h0 h1 h4 (soundE a C _ h5)
    · cases h
end
end
end Mi

set_option Elab.async false
set_option linter.all false
set_option maxRecDepth 100000
set_option maxHeartbeats 4000000
namespace Mi
open PySem PySem.Spec PyProof.Rows L2
/-! ### statements against the text -/
def ncomp : Expr → Bool
  | .ListComp _ _ _ _ => false
  | .SetComp _ _ _ _ => false
  | .DictComp _ _ _ _ _ => false
  | _ => true
/-- a comprehension that is stored as it is made -/
def compSw (sc : Scope) (x : Str) (p' : Pos) : Expr → Bool
  | .ListComp _ _ scope pos => decide (sc.names.lookup x = some .local) && decide (p'.line = pos.line) && !(scope.names.any fun (n, k) => n == x && (k == .local || k == .cell))
  | _ => false
/-- one that is not -/
def compNo (sc : Scope) (x : Str) : Expr → Bool
  | .ListComp _ _ _ _ => decide (sc.names.lookup x = some .cell)
  | e => ncomp e
def nTup : Expr → Bool
  | .Tuple _ _ _ => false
  | .List _ _ => false
  | _ => true
def foldT : Expr → Bool
  | .Tuple es _ _ => es.all (foldedForSure 8)
  | _ => false
/-- some name is not a plain local -/
def cellT (sc : Scope) (es : List Expr) : Bool := es.any fun
  | .Name x _ => !decide (sc.names.lookup x = some .local)
  | _ => true
/-- forms that make a new list -/
def frsh : IE → Bool
  | .lst _ => true
  | .blt .list _ => true
  | .comp _ _ _ _ _ => true
  | _ => false
/-- a, b = x, y that is no unpacking -/
def swp2 (sc : Scope) (p1 p2 : Pos) (x y : Str) (a b : Expr) : Bool :=
  decide (sc.names.lookup x = some .local) && decide (sc.names.lookup y = some .local) && decide (p1.line = p2.line) && decide (x ≠ y) && nst a && nst b && !([a, b].all (foldedForSure 8)) && !([a, b].all (constantsAlone 8))
section
variable (T : Tab) (n nc : Nat → Bool) (N : List Str)
mutual
def mS (sc : Scope) : IS → Stmt → Bool
  | .asg i e, st => match st with
    | .Assign [.Name x p'] v _ => decide (N[i]? = some x) && locB sc x && okN x && mE T n nc N sc e v && (compNo sc x v || compSw sc x p' v)
    | _ => false
  | .asgB i e, st => match st with
    | .Assign [.Name x _] v _ => decide (N[i]? = some x) && locB sc x && okN x && mE T n nc N sc e v && compNo sc x v
    | _ => false
  | .own i e, st => match st with
    | .Assign [.Name x p'] v _ => frsh e && decide (N[i]? = some x) && locB sc x && okN x && mE T n nc N sc e v && (compNo sc x v || compSw sc x p' v)
    | _ => false
  | .par i j a b, st => match st with
    | .Assign [.Tuple [.Name x p1, .Name y p2] _ _] (.Tuple [v, u] _ _) _ => decide (N[i]? = some x) && decide (N[j]? = some y) && decide (i ≠ j) && mE T n nc N sc a v && mE T n nc N sc b u && swp2 sc p1 p2 x y v u
    | _ => false
  | .unp is e, st => match st with
    | .Assign [.Tuple es k p'] v _ => mNms N sc is es && mE T n nc N sc e v && (nTup v || foldT v || cellT sc es)
    | _ => false
  | .app i e, st => match st with
    | .Expr (.Call (.Attribute (.Name x _) f ap) [v] [] cp) _ => decide (N[i]? = some x) && visB sc x && okN x && decide (f = ("append" : Str)) && nst v && (ap.endLine == cp.line) && mE T n nc N sc e v
    | _ => false
  | .appB i e, st => match st with
    | .Expr (.Call (.Attribute (.Name x _) f ap) [v] [] cp) _ => decide (N[i]? = some x) && visB sc x && okN x && decide (f = ("append" : Str)) && nst v && (ap.endLine == cp.line) && mE T n nc N sc e v
    | _ => false
  | .setf i f e, st => match st with
    | .Assign [.Attribute (.Name x _) g _] v _ => decide (N[i]? = some x) && visB sc x && okN x && decide (f = g) && mE T n nc N sc e v
    | _ => false
  | .pset f e a, st => match st with
    | .Assign [.Subscript y (.Constant (.str g) _ _) _] v _ => decide (f = g) && mE T n nc N sc e v && mE T n nc N sc a y
    | _ => false
  | .drop e, st => match st with
    | .Expr v _ => ncomp v && mE T n nc N sc e v
    | _ => false
  | .iff c a b, st => match st with
    | .If t x y _ => mT T n nc N sc c t && mSs sc a x && mSs sc b y
    | _ => false
  | .whl c b, st => match st with
    | .While t x [] _ => mT T n nc N sc c t && mSs sc b x
    | _ => false
  | .for_ tg it b, st => match st with
    | .For t i x [] _ => nset i && mTg N sc tg t && mI T n nc N sc it t i && mSs sc b x
    | _ => false
  | .ret e, st => match st with
    | .Return (some v) _ => mE T n nc N sc e v
    | _ => false
  | .retN, st => match st with
    | .Return none _ => true
    | _ => false
  | .brk, st => match st with
    | .Break _ => true
    | _ => false
  | .cnt, st => match st with
    | .Continue _ => true
    | _ => false
  | .pas, st => match st with
    | .Pass _ => true
    | _ => false
  | .rais c xs, st => match st with
    | .Raise (some (.Call (.Name x _) (e0 :: es) [] _)) none _ => gloB sc x && okN x && decide (1000 ≤ c) && nc c && decide ((T.excs[c - 1000]?).map (fun t => (t.1, t.2.length)) = some (x, es.length + 1)) && mEs T n nc N sc xs (e0 :: es)
    | _ => false
  | .nvr, _ => true
def mSs (sc : Scope) : ISs → List Stmt → Bool
  | .nil, sts => match sts with
    | [] => true
    | _ => false
  | .cons a r, sts => match sts with
    | st :: sts => mS sc a st && mSs sc r sts
    | _ => false
  | .frz _ r, sts => mSs sc r sts
end
end

/-! ### where a body stands -/
structure Since (M : Addr → Prop) (F0 H0 F H : Hp) : Prop where
  keep : ∀ a o, ¬ M a → (∀ ps, o ≠ .tbl ps) → H0 a = some o → H a = some o
  there : ∀ a, Fr H a → Fr H0 a
  same : Same F0 F
  new : ∀ a, F a ≠ none → F0 a ≠ none ∨ Fr H0 a
structure SR (G : Ad) (M : Addr → Prop) (F0 H0 : Hp) (pn : PN) (σ : L2.St) (H : Hp) (ρ : SEnv) (F : Hp) (p : PenS) : Prop where
  len : σ.length = ρ.length
  dat : ∀ (i : Nat) d, ρ[i]? = some (.d d) → ∃ v, σ[i]? = some (some v) ∧ Rep G pn F v d
  own : ∀ (i : Nat) xs, ρ[i]? = some (.o xs) → ∃ a vs, σ[i]? = some (some (.ref a)) ∧ H a = some (.lst vs) ∧ Reps G pn F vs xs ∧ F a = none ∧ Fr H0 a
  inj : ∀ (i j : Nat) xs ys a, ρ[i]? = some (.o xs) → ρ[j]? = some (.o ys) → σ[i]? = some (some (.ref a)) → σ[j]? = some (some (.ref a)) → i = j
  mak : ∀ (i : Nat) c fs, ρ[i]? = some (.w c fs) → ∃ a dx vs, σ[i]? = some (some (.ref a)) ∧ H a = some (.ins (G.cls c) dx (((G.att c).take fs.length).zip vs)) ∧ vs.length = fs.length ∧ fs.length ≤ (G.att c).length ∧ Reps G pn F vs fs ∧ F a = none ∧ M a ∧ c < G.nc
  one : ∀ (i j : Nat) c fs c' fs', ρ[i]? = some (.w c fs) → ρ[j]? = some (.w c' fs') → i = j
  since : Since M F0 H0 F H
  ok : FOk G F H pn p
  mp : ∀ a, IsPen pn a → M a
section
variable {G : Ad} {M : Addr → Prop} {F0 H0 F H F' H' : Hp} {pn : PN} {σ : L2.St} {ρ : SEnv} {p p' : PenS}
theorem FOk.penK (h : FOk G F H pn p) {a : Addr} (q : IsPen pn a) : ∃ kvs, H a = some (.dK kvs) := by
  obtain ⟨ca, rfl⟩ := q
  have z := h.pen
  cases p with
  | none => exact z.elim
  | some st => exact ⟨_, z.2.1⟩
theorem SR.lst_np (s : SR G M F0 H0 pn σ H ρ F p) {a : Addr} {vs : List V} (h : H a = some (.lst vs)) : ¬ IsPen pn a := fun q => by
  obtain ⟨kvs, e⟩ := s.ok.penK q
  rw [h] at e; cases e
theorem SR.ins_np (s : SR G M F0 H0 pn σ H ρ F p) {a C dx : Addr} {fs : List (Str × V)} (h : H a = some (.ins C dx fs)) : ¬ IsPen pn a := fun q => by
  obtain ⟨kvs, e⟩ := s.ok.penK q
  rw [h] at e; cases e
theorem Since.step (s : Since M F0 H0 F H) (mp : ∀ a, IsPen pn a → M a) (t : Step G pn p' F H F' H') : Since M F0 H0 F' H' where
  keep := fun a o n q e => t.keep a o (fun z => n (mp a z)) q (s.keep a o n q e)
  there := fun a e => s.there a (t.there a e)
  same := s.same.trans t.same
  new := fun a e => by
    rcases t.new a e with z | z
    · exact s.new a z
    · exact .inr (s.there a z)
theorem Step.still (t : Step G pn p' F H F' H') {a : Addr} {o : HO} (hF : F a = none) (hH : H a = some o) (hq : ∀ ps, o ≠ HO.tbl ps) : F' a = none := by
  cases q : F' a with
  | none => rfl
  | some z =>
    rcases t.new a (by rw [q]; simp) with w | w
    · exact absurd hF w
    · exact absurd rfl (ne_fr hH hq w)
theorem SR.step (s : SR G M F0 H0 pn σ H ρ F p) (t : Step G pn p' F H F' H') : SR G M F0 H0 pn σ H' ρ F' p' where
  len := s.len
  dat := fun i d e => let ⟨v, h1, h2⟩ := s.dat i d e; ⟨v, h1, h2.mono t.same⟩
  own := fun i xs e => by
    obtain ⟨a, vs, h1, h2, h3, h4, h5⟩ := s.own i xs e
    exact ⟨a, vs, h1, t.keep _ _ (s.lst_np h2) (fun _ z => by cases z) h2, h3.mono t.same, t.still h4 h2 (fun _ z => by cases z), h5⟩
  inj := s.inj
  mak := fun i c fs e => by
    obtain ⟨a, dx, vs, h1, h2, h3, h4, h5, h6, h7, h8⟩ := s.mak i c fs e
    exact ⟨a, dx, vs, h1, t.keep _ _ (s.ins_np h2) (fun _ z => by cases z) h2, h3, h4, h5.mono t.same, t.still h6 h2 (fun _ z => by cases z), h7, h8⟩
  one := s.one
  since := s.since.step s.mp t
  ok := t.ok
  mp := s.mp
theorem SR.dr (s : SR G M F0 H0 pn σ H ρ F p) : DR G pn σ (see ρ) F := by
  refine ⟨by rw [List.length_map]; exact s.len, fun i d e => ?_⟩
  rw [List.getElem?_map] at e
  cases q : ρ[i]? with
  | none => rw [q] at e; cases e
  | some z =>
    rw [q] at e
    cases z with
    | d x => cases e; exact s.dat i d q
    | _ => cases e
/-- data in a slot -/
theorem SR.set (s : SR G M F0 H0 pn σ H ρ F p) {v : V} {d : D} (r : Rep G pn F v d) (i : Nat) : SR G M F0 H0 pn (σ.set i (some v)) H (ρ.set i (.d d)) F p where
  len := by rw [List.length_set, List.length_set]; exact s.len
  dat := fun j e q => by
    by_cases hj : i = j
    · subst hj
      by_cases hl : i < ρ.length
      · rw [List.getElem?_set_self hl] at q
        cases q
        exact ⟨v, List.getElem?_set_self (by rw [s.len]; exact hl), r⟩
      · rw [List.getElem?_eq_none (by simpa using hl)] at q; cases q
    · rw [List.getElem?_set_ne hj] at q ⊢
      exact s.dat j e q
  own := fun j xs q => by
    by_cases hj : i = j
    · subst hj
      by_cases hl : i < ρ.length
      · rw [List.getElem?_set_self hl] at q; cases q
      · rw [List.getElem?_eq_none (by simpa using hl)] at q; cases q
    · rw [List.getElem?_set_ne hj] at q ⊢
      exact s.own j xs q
  inj := fun j k xs ys a h1 h2 h3 h4 => by
    by_cases hj : i = j
    · subst hj
      by_cases hl : i < ρ.length
      · rw [List.getElem?_set_self hl] at h1; cases h1
      · rw [List.getElem?_eq_none (by simpa using hl)] at h1; cases h1
    · by_cases hk : i = k
      · subst hk
        by_cases hl : i < ρ.length
        · rw [List.getElem?_set_self hl] at h2; cases h2
        · rw [List.getElem?_eq_none (by simpa using hl)] at h2; cases h2
      · rw [List.getElem?_set_ne hj] at h1 h3
        rw [List.getElem?_set_ne hk] at h2 h4
        exact s.inj j k xs ys a h1 h2 h3 h4
  mak := fun j c fs q => by
    by_cases hj : i = j
    · subst hj
      by_cases hl : i < ρ.length
      · rw [List.getElem?_set_self hl] at q; cases q
      · rw [List.getElem?_eq_none (by simpa using hl)] at q; cases q
    · rw [List.getElem?_set_ne hj] at q ⊢
      exact s.mak j c fs q
  one := fun j k c fs c' fs' h1 h2 => by
    by_cases hj : i = j
    · subst hj
      by_cases hl : i < ρ.length
      · rw [List.getElem?_set_self hl] at h1; cases h1
      · rw [List.getElem?_eq_none (by simpa using hl)] at h1; cases h1
    · by_cases hk : i = k
      · subst hk
        by_cases hl : i < ρ.length
        · rw [List.getElem?_set_self hl] at h2; cases h2
        · rw [List.getElem?_eq_none (by simpa using hl)] at h2; cases h2
      · rw [List.getElem?_set_ne hj] at h1
        rw [List.getElem?_set_ne hk] at h2
        exact s.one j k c fs c' fs' h1 h2
  since := s.since
  ok := s.ok
  mp := s.mp
/-- a list of one's own in a slot: new, or changed at its place -/
theorem SR.setO (s : SR G M F0 H0 pn σ H ρ F p) {a : Addr} {vs : List V} {xs : List D} (i : Nat) (hr : Reps G pn F vs xs) (hF : F a = none) (h0 : Fr H0 a) (hp : ¬ IsPen pn a) (hpl : ∀ u, H a = some u → plainO u)
    (hne : ∀ (j : Nat) ys, j ≠ i → ρ[j]? = some (.o ys) → σ[j]? ≠ some (some (.ref a))) (hmk : ∀ (j : Nat) c fs, ρ[j]? = some (.w c fs) → σ[j]? ≠ some (some (.ref a))) :
    SR G M F0 H0 pn (σ.set i (some (.ref a))) (upd H a (.lst vs)) (ρ.set i (.o xs)) F p where
  len := by rw [List.length_set, List.length_set]; exact s.len
  dat := fun j e q => by
    by_cases hj : i = j
    · subst hj
      by_cases hl : i < ρ.length
      · rw [List.getElem?_set_self hl] at q; cases q
      · rw [List.getElem?_eq_none (by simpa using hl)] at q; cases q
    · rw [List.getElem?_set_ne hj] at q ⊢
      exact s.dat j e q
  own := fun j ys q => by
    by_cases hj : i = j
    · subst hj
      by_cases hl : i < ρ.length
      · rw [List.getElem?_set_self hl] at q
        cases q
        exact ⟨a, vs, List.getElem?_set_self (by rw [s.len]; exact hl), upd_same, hr, hF, h0⟩
      · rw [List.getElem?_eq_none (by simpa using hl)] at q; cases q
    · rw [List.getElem?_set_ne hj] at q ⊢
      obtain ⟨b, ws, h1, h2, h3, h4, h5⟩ := s.own j ys q
      have hb : b ≠ a := fun e => hne j ys (Ne.symm hj) q (by rw [h1, e])
      exact ⟨b, ws, h1, by rw [upd_ne hb]; exact h2, h3, h4, h5⟩
  inj := fun j k ys zs b h1 h2 h3 h4 => by
    by_cases hj : i = j
    · by_cases hk : i = k
      · exact hj.symm.trans hk
      · subst hj
        by_cases hl : i < ρ.length
        · rw [List.getElem?_set_self (by rw [s.len]; exact hl)] at h3
          cases h3
          rw [List.getElem?_set_ne hk] at h2 h4
          exact absurd h4 (hne k zs (Ne.symm hk) h2)
        · rw [List.getElem?_eq_none (by simpa using hl)] at h1; cases h1
    · by_cases hk : i = k
      · subst hk
        by_cases hl : i < ρ.length
        · rw [List.getElem?_set_self (by rw [s.len]; exact hl)] at h4
          cases h4
          rw [List.getElem?_set_ne hj] at h1 h3
          exact absurd h3 (hne j ys (Ne.symm hj) h1)
        · rw [List.getElem?_eq_none (by simpa using hl)] at h2; cases h2
      · rw [List.getElem?_set_ne hj] at h1 h3
        rw [List.getElem?_set_ne hk] at h2 h4
        exact s.inj j k ys zs b h1 h2 h3 h4
  mak := fun j c fs q => by
    by_cases hj : i = j
    · subst hj
      by_cases hl : i < ρ.length
      · rw [List.getElem?_set_self hl] at q; cases q
      · rw [List.getElem?_eq_none (by simpa using hl)] at q; cases q
    · rw [List.getElem?_set_ne hj] at q ⊢
      obtain ⟨b, dx, ws, h1, h2, h3⟩ := s.mak j c fs q
      have hb : b ≠ a := fun e => hmk j c fs q (by rw [h1, e])
      exact ⟨b, dx, ws, h1, by rw [upd_ne hb]; exact h2, h3⟩
  one := fun j k c fs c' fs' h1 h2 => by
    by_cases hj : i = j
    · subst hj
      by_cases hl : i < ρ.length
      · rw [List.getElem?_set_self hl] at h1; cases h1
      · rw [List.getElem?_eq_none (by simpa using hl)] at h1; cases h1
    · by_cases hk : i = k
      · subst hk
        by_cases hl : i < ρ.length
        · rw [List.getElem?_set_self hl] at h2; cases h2
        · rw [List.getElem?_eq_none (by simpa using hl)] at h2; cases h2
      · rw [List.getElem?_set_ne hj] at h1
        rw [List.getElem?_set_ne hk] at h2
        exact s.one j k c fs c' fs' h1 h2
  since := ⟨fun b o n q e => by rw [upd_ne (ne_fr e q h0)]; exact s.since.keep b o n q e, fun b e => by
    by_cases hb : b = a
    · subst hb; exact h0
    · exact s.since.there b (fun u hu => e u (by rw [upd_ne hb]; exact hu)), s.since.same, s.since.new⟩
  ok := s.ok.other hF hp hpl
  mp := s.mp
/-- a field more -/
theorem SR.setW (s : SR G M F0 H0 pn σ H ρ F p) {i c : Nat} {fs : List D} {a dx : Addr} {vs : List V} {v : V} {d : D} (hi : ρ[i]? = some (.w c fs)) (hσ : σ[i]? = some (some (.ref a))) (hr : Rep G pn F v d) (hrs : Reps G pn F vs fs)
    (hl : fs.length + 1 ≤ (G.att c).length) (hF : F a = none) (hm : M a) (hp : ¬ IsPen pn a) (hH : ∃ fl, H a = some (.ins (G.cls c) dx fl)) (hc : c < G.nc) :
    SR G M F0 H0 pn σ (upd H a (.ins (G.cls c) dx (((G.att c).take (fs ++ [d]).length).zip (vs ++ [v])))) (ρ.set i (.w c (fs ++ [d]))) F p := by
  obtain ⟨fl, hH⟩ := hH
  have hil : i < ρ.length := (List.getElem?_eq_some_iff.mp hi).1
  exact {
    len := by rw [List.length_set]; exact s.len
    dat := fun j e q => by
      by_cases hj : i = j
      · subst hj; rw [List.getElem?_set_self hil] at q; cases q
      · rw [List.getElem?_set_ne hj] at q; exact s.dat j e q
    own := fun j ys q => by
      by_cases hj : i = j
      · subst hj; rw [List.getElem?_set_self hil] at q; cases q
      · rw [List.getElem?_set_ne hj] at q
        obtain ⟨b, ws, h1, h2, h3⟩ := s.own j ys q
        have hb : b ≠ a := fun e => by rw [e, hH] at h2; cases h2
        exact ⟨b, ws, h1, by rw [upd_ne hb]; exact h2, h3⟩
    inj := fun j k ys zs b h1 h2 h3 h4 => by
      by_cases hj : i = j
      · subst hj; rw [List.getElem?_set_self hil] at h1; cases h1
      · by_cases hk : i = k
        · subst hk; rw [List.getElem?_set_self hil] at h2; cases h2
        · rw [List.getElem?_set_ne hj] at h1
          rw [List.getElem?_set_ne hk] at h2
          exact s.inj j k ys zs b h1 h2 h3 h4
    mak := fun j c' fs' q => by
      by_cases hj : i = j
      · subst hj
        rw [List.getElem?_set_self hil] at q
        cases q
        exact ⟨a, dx, vs ++ [v], hσ, upd_same, by rw [List.length_append, List.length_append, hrs.length]; rfl, by rw [List.length_append]; exact hl, hrs.append (.cons hr .nil), hF, hm, hc⟩
      · rw [List.getElem?_set_ne hj] at q
        exact absurd (s.one i j _ _ _ _ hi q) hj
    one := fun j k c1 f1 c2 f2 h1 h2 => by
      by_cases hj : i = j
      · by_cases hk : i = k
        · exact hj.symm.trans hk
        · rw [List.getElem?_set_ne hk] at h2
          exact absurd (s.one i k _ _ _ _ hi h2) hk
      · rw [List.getElem?_set_ne hj] at h1
        exact absurd (s.one i j _ _ _ _ hi h1) hj
    since := ⟨fun b o n q e => by rw [upd_ne (fun z => n (by rw [z]; exact hm))]; exact s.since.keep b o n q e, fun b e => by
      by_cases hb : b = a
      · subst hb; obtain ⟨_, z⟩ := e _ upd_same; cases z
      · exact s.since.there b (fun u hu => e u (by rw [upd_ne hb]; exact hu)), s.since.same, s.since.new⟩
    ok := s.ok.other hF hp (fun u e => by rw [hH] at e; cases e; trivial)
    mp := s.mp }
/-- one's own list is let go: data from now on -/
theorem SR.frz (s : SR G M F0 H0 pn σ H ρ F p) {i : Nat} {xs : List D} (hi : ρ[i]? = some (.o xs)) : ∃ F', SR G M F0 H0 pn σ H (ρ.set i (.d (.lst xs))) F' p := by
  obtain ⟨a, vs, h1, h2, h3, h4, h5⟩ := s.own i xs hi
  have hp := s.lst_np h2
  have hil : i < ρ.length := (List.getElem?_eq_some_iff.mp hi).1
  have sm : Same F (upd F a (.lst vs)) := same_upd h4
  refine ⟨upd F a (.lst vs), ?_⟩
  exact {
    len := by rw [List.length_set]; exact s.len
    dat := fun j e q => by
      by_cases hj : i = j
      · subst hj
        rw [List.getElem?_set_self hil] at q
        cases q
        exact ⟨.ref a, h1, .lst upd_same (h3.mono sm)⟩
      · rw [List.getElem?_set_ne hj] at q
        obtain ⟨v, q1, q2⟩ := s.dat j e q
        exact ⟨v, q1, q2.mono sm⟩
    own := fun j ys q => by
      by_cases hj : i = j
      · subst hj; rw [List.getElem?_set_self hil] at q; cases q
      · rw [List.getElem?_set_ne hj] at q
        obtain ⟨b, ws, q1, q2, q3, q4, q5⟩ := s.own j ys q
        have hb : b ≠ a := fun e => hj (s.inj i j xs ys a hi q h1 (by rw [q1, e]))
        exact ⟨b, ws, q1, q2, q3.mono sm, by rw [upd_ne hb]; exact q4, q5⟩
    inj := fun j k ys zs b q1 q2 q3 q4 => by
      by_cases hj : i = j
      · subst hj; rw [List.getElem?_set_self hil] at q1; cases q1
      · by_cases hk : i = k
        · subst hk; rw [List.getElem?_set_self hil] at q2; cases q2
        · rw [List.getElem?_set_ne hj] at q1
          rw [List.getElem?_set_ne hk] at q2
          exact s.inj j k ys zs b q1 q2 q3 q4
    mak := fun j c fs q => by
      by_cases hj : i = j
      · subst hj; rw [List.getElem?_set_self hil] at q; cases q
      · rw [List.getElem?_set_ne hj] at q
        obtain ⟨b, dx, ws, q1, q2, q3, q4, q5, q6, q7⟩ := s.mak j c fs q
        have hb : b ≠ a := fun e => by rw [e, h2] at q2; cases q2
        exact ⟨b, dx, ws, q1, q2, q3, q4, q5.mono sm, by rw [upd_ne hb]; exact q6, q7⟩
    one := fun j k c1 f1 c2 f2 q1 q2 => by
      by_cases hj : i = j
      · subst hj; rw [List.getElem?_set_self hil] at q1; cases q1
      · by_cases hk : i = k
        · subst hk; rw [List.getElem?_set_self hil] at q2; cases q2
        · rw [List.getElem?_set_ne hj] at q1
          rw [List.getElem?_set_ne hk] at q2
          exact s.one j k c1 f1 c2 f2 q1 q2
    since := ⟨s.since.keep, s.since.there, s.since.same.trans sm, fun b e => by
      by_cases hb : b = a
      · subst hb; exact .inr h5
      · rw [upd_ne hb] at e; exact s.since.new b e⟩
    ok := Step.more s.ok h4 h2 hp trivial
    mp := s.mp }

/-! ### one's own lists lent -/
open Classical in
/-- the data's heap and one's own lists -/
noncomputable def lend (σ : L2.St) (ρ : SEnv) (F H : Hp) : Hp := fun a => if ∃ (i : Nat) (xs : List D), ρ[i]? = some (Sl.o xs) ∧ σ[i]? = some (some (V.ref a)) then H a else F a
open Classical in
/-- without one's own -/
noncomputable def back (σ : L2.St) (ρ : SEnv) (F : Hp) : Hp := fun a => if ∃ (i : Nat) (xs : List D), ρ[i]? = some (Sl.o xs) ∧ σ[i]? = some (some (V.ref a)) then none else F a
theorem lend_same (s : SR G M F0 H0 pn σ H ρ F p) : Same F (lend σ ρ F H) := fun a o e => by
  unfold lend
  split
  · rename_i q
    obtain ⟨i, xs, q1, q2⟩ := q
    obtain ⟨b, vs, h1, h2, h3, h4, h5⟩ := s.own i xs q1
    rw [q2] at h1; cases h1
    rw [e] at h4; cases h4
  · exact e
theorem lend_ok (s : SR G M F0 H0 pn σ H ρ F p) : FOk G (lend σ ρ F H) H pn p := by
  refine ⟨fun a o e => ?_, ?_, fun a ps e => ?_, s.ok.tabs⟩
  · unfold lend at e
    split at e
    · exact e
    · exact s.ok.sub a o e
  · have z := s.ok.pen
    cases pn with
    | none => cases p with | none => trivial | some _ => exact z.elim
    | some q =>
      obtain ⟨pa, ca⟩ := q
      cases p with
      | none => exact z.elim
      | some st =>
        obtain ⟨z1, z2, z3⟩ := z
        refine ⟨?_, z2, lend_same s _ _ z3⟩
        unfold lend
        split
        · rename_i q
          obtain ⟨i, xs, q1, q2⟩ := q
          obtain ⟨b, vs, h1, h2, h3, h4, h5⟩ := s.own i xs q1
          rw [q2] at h1; cases h1
          rw [z2] at h2; cases h2
        · exact z1
  · unfold lend at e
    split at e
    · rename_i q
      obtain ⟨i, xs, q1, q2⟩ := q
      obtain ⟨b, vs, h1, h2, h3, h4, h5⟩ := s.own i xs q1
      rw [q2] at h1; cases h1
      rw [e] at h2; cases h2
    · exact s.ok.notb a ps e
theorem SR.drB (s : SR G M F0 H0 pn σ H ρ F p) : DR G pn σ (seeB ρ) (lend σ ρ F H) := by
  refine ⟨by rw [List.length_map]; exact s.len, fun i d e => ?_⟩
  rw [List.getElem?_map] at e
  cases q : ρ[i]? with
  | none => rw [q] at e; cases e
  | some z =>
    rw [q] at e
    cases z with
    | d x =>
      cases e
      obtain ⟨v, h1, h2⟩ := s.dat i d q
      exact ⟨v, h1, h2.mono (lend_same s)⟩
    | o xs =>
      cases e
      obtain ⟨a, vs, h1, h2, h3, h4, h5⟩ := s.own i xs q
      refine ⟨.ref a, h1, .lst ?_ (h3.mono (lend_same s))⟩
      unfold lend
      rw [if_pos ⟨i, xs, q, h1⟩]
      exact h2
    | _ => cases e
/-- behind a piece that was lent them -/
theorem SR.stepB (s : SR G M F0 H0 pn σ H ρ F p) (t : Step G pn p' (lend σ ρ F H) H F' H') : SR G M F0 H0 pn σ H' ρ (back σ ρ F') p' ∧ Since M F0 H0 F' H' := by
  have ownF : ∀ {a : Addr}, (∃ (i : Nat) (xs : List D), ρ[i]? = some (Sl.o xs) ∧ σ[i]? = some (some (V.ref a))) → F a = none ∧ Fr H0 a ∧ ∃ vs, H a = some (.lst vs) := fun {a} q => by
    obtain ⟨i, xs, q1, q2⟩ := q
    obtain ⟨b, vs, h1, h2, h3, h4, h5⟩ := s.own i xs q1
    rw [q2] at h1; cases h1
    exact ⟨h4, h5, vs, h2⟩
  have sm : Same F (back σ ρ F') := fun a o e => by
    unfold back
    rw [if_neg (fun q => by rw [(ownF q).1] at e; cases e)]
    exact t.same a o (lend_same s a o e)
  have t2 : Step G pn p' F H (back σ ρ F') H' := by
    refine ⟨t.keep, t.there, sm, fun a e => ?_, ?_⟩
    · unfold back at e
      split at e
      · exact absurd rfl e
      · rename_i q
        rcases t.new a e with z | z
        · unfold lend at z
          rw [if_neg q] at z
          exact .inl z
        · exact .inr z
    · refine ⟨fun a o e => ?_, ?_, fun a ps e => ?_, t.ok.tabs⟩
      · unfold back at e
        split at e
        · cases e
        · exact t.ok.sub a o e
      · have z := t.ok.pen
        cases pn with
        | none => cases p' with | none => trivial | some _ => exact z.elim
        | some q =>
          obtain ⟨pa, ca⟩ := q
          cases p' with
          | none => exact z.elim
          | some st' =>
            obtain ⟨z1, z2, z3⟩ := z
            have y := s.ok.pen
            cases p with
            | none => exact y.elim
            | some st =>
              obtain ⟨y1, y2, y3⟩ := y
              have hca := sm ca _ y3
              refine ⟨?_, z2, ?_⟩
              · unfold back; split
                · rfl
                · exact z1
              · have y4 := t.same ca _ (lend_same s ca _ y3)
                rw [z3] at y4
                rw [← y4] at hca
                exact hca
      · unfold back at e
        split at e
        · cases e
        · exact t.ok.notb a ps e
  refine ⟨s.step t2, s.since.keep |> fun k => ⟨fun a o n q e => t.keep a o (fun z => n (s.mp a z)) q (k a o n q e), fun a e => s.since.there a (t.there a e), (s.since.same.trans (lend_same s)).trans t.same, fun a e => ?_⟩⟩
  rcases t.new a e with z | z
  · unfold lend at z
    split at z
    · rename_i q; exact .inr (ownF q).2.1
    · exact s.since.new a z
  · exact .inr (s.since.there a z)
mutual
theorem noLst_back {Fb : Hp} (hb : ∀ a o, F' a = some o → (∀ xs, o ≠ .lst xs) → Fb a = some o) : ∀ {v : V} {d : D}, Rep G pn F' v d → noLst d = true → Rep G pn Fb v d
  | _, _, .non, _ => .non
  | _, _, .bl b, _ => .bl b
  | _, _, .int i, _ => .int i
  | _, _, .str x, _ => .str x
  | _, _, .tup e r, h => .tup (hb _ _ e (fun xs z => by cases z)) (noLsts_back hb r (by simpa [noLst] using h))
  | _, _, .lst e r, h => by simp [noLst] at h
  | _, _, .obj c e l r, h => .obj c (hb _ _ e (fun xs z => by cases z)) l (noLsts_back hb r (by simpa [noLst] using h))
  | _, _, .fn k, _ => .fn k
  | _, _, .pen e, _ => .pen e
theorem noLsts_back {Fb : Hp} (hb : ∀ a o, F' a = some o → (∀ xs, o ≠ .lst xs) → Fb a = some o) : ∀ {vs : List V} {ds : List D}, Reps G pn F' vs ds → noLsts ds = true → Reps G pn Fb vs ds
  | _, _, .nil, _ => .nil
  | _, _, .cons r t, h => by
    simp only [noLsts, Bool.and_eq_true] at h
    exact .cons (noLst_back hb r h.1) (noLsts_back hb t h.2)
end
theorem SR.backRep (s : SR G M F0 H0 pn σ H ρ F p) (t : Step G pn p' (lend σ ρ F H) H F' H') {v : V} {d : D} (r : Rep G pn F' v d) (h : noLst d = true) : Rep G pn (back σ ρ F') v d := by
  refine noLst_back (fun a o e hne => ?_) r h
  unfold back
  rw [if_neg]
  · exact e
  · rintro ⟨i, xs, q1, q2⟩
    obtain ⟨b, vs, h1, h2, h3, h4, h5⟩ := s.own i xs q1
    rw [q2] at h1; cases h1
    have z : lend σ ρ F H a = some (.lst vs) := by
      unfold lend
      rw [if_pos ⟨i, xs, q1, q2⟩]
      exact h2
    have y := t.same a _ z
    rw [e] at y
    cases y
    exact hne vs rfl
end
end Mi

set_option Elab.async false
set_option linter.all false
set_option maxRecDepth 100000
set_option maxHeartbeats 4000000
namespace Mi
open PySem PySem.Spec PyProof.Rows L2
/-! ### what is wanted behind a statement -/
def OutS (G : Ad) (E : XK) (M : Addr → Prop) (F0 H0 : Hp) (pn : PN) (Dn : Ends) (r : R (Fl × SEnv)) : Prop := match r with
  | .stuck => False
  | .err c fs p' => ∀ F' H' dx, Since M F0 H0 F' H' → FOk G F' H' pn p' → XAt G pn F' H' c fs dx → E (.ref (G.cls c)) (some dx) H'
  | .ok (.nx, ρ) p' => ∀ σ' H' F', SR G M F0 H0 pn σ' H' ρ F' p' → Dn.nx σ' H'
  | .ok (.bk, ρ) p' => ∀ σ' H' F', SR G M F0 H0 pn σ' H' ρ F' p' → Dn.bk σ' H'
  | .ok (.ct, ρ) p' => ∀ σ' H' F', SR G M F0 H0 pn σ' H' ρ F' p' → Dn.ct σ' H'
  | .ok (.rt d, _) p' => ∀ v H' F', Since M F0 H0 F' H' → FOk G F' H' pn p' → Rep G pn F' v d → Dn.rt v H'
def tSt (G : Ad) (E : XK) (ev : SEnv → PenS → R (Fl × SEnv)) : TS := fun Dn σ H => ∃ M F0 H0 pn ρ F p, SR G M F0 H0 pn σ H ρ F p ∧ OutS G E M F0 H0 pn Dn (ev ρ p)
section
variable {G : Ad} {E : XK} {M : Addr → Prop} {F0 H0 F H : Hp} {pn : PN} {σ : L2.St} {ρ : SEnv} {p : PenS} {Dn : Ends}
theorem OutS.of {α β : Type} {rep : Hp → β → α → Prop} {r : R α} {k : α → PenS → R (Fl × SEnv)} (s : SR G M F0 H0 pn σ H ρ F p) (h : OutS G E M F0 H0 pn Dn (r.bind k)) :
    Out G rep E pn F H r (fun b H1 => ∃ F1 p1 a, r = .ok a p1 ∧ Step G pn p1 F H F1 H1 ∧ rep F1 b a ∧ OutS G E M F0 H0 pn Dn (k a p1)) := by
  cases r with
  | stuck => exact h
  | err c fs p1 => exact fun F' H' dx t x => h F' H' dx (s.since.step s.mp t) t.ok x
  | ok a p1 => exact fun b F1 H1 t rb => ⟨F1, p1, a, rfl, t, rb, h⟩
theorem OutS.ofB {α β : Type} {rep : Hp → β → α → Prop} {r : R α} {k : α → PenS → R (Fl × SEnv)} (s : SR G M F0 H0 pn σ H ρ F p) (h : OutS G E M F0 H0 pn Dn (r.bind k)) :
    Out G rep E pn (lend σ ρ F H) H r (fun b H1 => ∃ F1 p1 a, r = .ok a p1 ∧ Step G pn p1 (lend σ ρ F H) H F1 H1 ∧ rep F1 b a ∧ OutS G E M F0 H0 pn Dn (k a p1)) := by
  cases r with
  | stuck => exact h
  | err c fs p1 => exact fun F' H' dx t x => h F' H' dx (s.stepB t).2 t.ok x
  | ok a p1 => exact fun b F1 H1 t rb => ⟨F1, p1, a, rfl, t, rb, h⟩
theorem OutS.ofH {α : Type} {o : Option α} {k : α → PenS → R (Fl × SEnv)} (h : OutS G E M F0 H0 pn Dn ((R.of o p).bind k)) : ∃ a, o = some a ∧ OutS G E M F0 H0 pn Dn (k a p) := by
  cases o with
  | none => exact h.elim
  | some a => exact ⟨a, rfl, h⟩
/-- what comes behind -/
theorem OutS.seq {r : R (Fl × SEnv)} {k : SEnv → PenS → R (Fl × SEnv)} (h : OutS G E M F0 H0 pn Dn (r.bind fun (fl, ρ) p => match fl with
    | .nx => k ρ p
    | fl => .ok (fl, ρ) p)) : OutS G E M F0 H0 pn { Dn with nx := tSt G E k Dn } r := by
  cases r with
  | stuck => exact h
  | err c fs p1 => exact h
  | ok a p1 =>
    obtain ⟨fl, ρ1⟩ := a
    cases fl with
    | nx => exact fun σ' H' F' s => ⟨M, F0, H0, pn, ρ1, F', p1, s, h⟩
    | bk => exact h
    | ct => exact h
    | rt d => exact h
/-- a loop's body: round again at its end -/
theorem OutS.turn {r : R (Fl × SEnv)} {k : SEnv → PenS → R (Fl × SEnv)} (h : OutS G E M F0 H0 pn Dn (r.bind fun (fl, ρ) p => match fl with
    | .nx => k ρ p
    | .ct => k ρ p
    | .bk => .ok (.nx, ρ) p
    | .rt v => .ok (.rt v, ρ) p)) (Nx : L2.St → Hp → Prop) (hn : ∀ σ' H' ρ' F' p', SR G M F0 H0 pn σ' H' ρ' F' p' → OutS G E M F0 H0 pn Dn (k ρ' p') → Nx σ' H') :
    OutS G E M F0 H0 pn { Dn with nx := Nx, ct := Nx, bk := Dn.nx } r := by
  cases r with
  | stuck => exact h
  | err c fs p1 => exact h
  | ok a p1 =>
    obtain ⟨fl, ρ1⟩ := a
    cases fl with
    | nx => exact fun σ' H' F' s => hn σ' H' ρ1 F' p1 s h
    | bk => exact h
    | ct => exact fun σ' H' F' s => hn σ' H' ρ1 F' p1 s h
    | rt d => exact h
/-! the point that one looks back at may be moved ahead -/
theorem Since.rebase (s : Since M F0 H0 F H) : Since M F H0 F H := ⟨s.keep, s.there, Same.refl F, fun a e => .inl e⟩
theorem Since.unbase {F1 H1 : Hp} (s0 : Since M F0 H0 F H) (s : Since M F H0 F1 H1) : Since M F0 H0 F1 H1 :=
  ⟨s.keep, s.there, s0.same.trans s.same, fun a e => (s.new a e).elim (fun z => s0.new a z) .inr⟩
theorem SR.rebase (s : SR G M F0 H0 pn σ H ρ F p) : SR G M F H0 pn σ H ρ F p := { s with since := s.since.rebase }
theorem SR.unbase {F1 H1 : Hp} {σ1 : L2.St} {ρ1 : SEnv} {p1 : PenS} (s0 : Since M F0 H0 F H) (s : SR G M F H0 pn σ1 H1 ρ1 F1 p1) : SR G M F0 H0 pn σ1 H1 ρ1 F1 p1 := { s with since := s0.unbase s.since }
theorem OutS.rebase {r : R (Fl × SEnv)} (s0 : Since M F0 H0 F H) (h : OutS G E M F0 H0 pn Dn r) : OutS G E M F H0 pn Dn r := by
  cases r with
  | stuck => exact h
  | err c fs p1 => exact fun F' H' dx t => h F' H' dx (s0.unbase t)
  | ok a p1 =>
    obtain ⟨fl, ρ1⟩ := a
    cases fl with
    | nx => exact fun σ' H' F' t => h σ' H' F' (t.unbase s0)
    | bk => exact fun σ' H' F' t => h σ' H' F' (t.unbase s0)
    | ct => exact fun σ' H' F' t => h σ' H' F' (t.unbase s0)
    | rt d => exact fun v H' F' t => h v H' F' (s0.unbase t)
/-! ### targets of statements -/
def gS (G : Ad) (tg : Tg) : TG := fun v σ H Q => ∃ M F0 H0 pn ρ F p d ρ', SR G M F0 H0 pn σ H ρ F p ∧ Rep G pn F v d ∧ tgSl ρ tg d = some ρ' ∧ ∀ σ', SR G M F0 H0 pn σ' H ρ' F p → Q σ' H
def gSs (G : Ad) (is : List Nat) : TGs := fun xs σ H Q => ∃ M F0 H0 pn ρ F p ds ρ', SR G M F0 H0 pn σ H ρ F p ∧ Reps G pn F xs ds ∧ setSl ρ is ds = some ρ' ∧ ∀ σ', SR G M F0 H0 pn σ' H ρ' F p → Q σ' H
end
section
variable {G : Ad} {X : Cx} {N : List Str} {sc0 : Scope}
variable (hN : X.N = N) (nd : N.Nodup) (loc : ∀ x, locB sc0 x = true → Loc X.env.scope x ∧ (X.fn x = true ∨ X.env.scope.names.lookup x = some .local)) (calm : X.calm = true)
include hN nd loc
theorem pgS_nm {i : Nat} {e : Expr} (h : mNm N sc0 i e = true) : PG X e (gS G (.nm i)) := by
  unfold mNm at h
  split at h
  · rename_i x pos
    simp only [Bool.and_eq_true, decide_eq_true_eq] at h
    obtain ⟨⟨h1, h2⟩, h3⟩ := h
    obtain ⟨l1, l2⟩ := loc x h2
    have pg : PG X (.Name x pos) (gName i) := pg_name (by rw [hN]; exact nd) (by rw [hN]; exact h1) l1 l2
    refine ⟨fun pins s σ H v u Q I r ⟨M, F0, H0, pn, ρ, F, p, d, ρ', dr, rv, ha, q⟩ => pg.run pins s σ H v u Q I r ?_⟩
    cases ha
    exact q _ (dr.set rv i)
  · cases h
theorem pgsS_nms : ∀ {is : List Nat} {es : List Expr}, mNms N sc0 is es = true → PGs X es (gSs G is)
  | [], [], _ => by
    refine ⟨fun pins s σ H xs us Q I r ⟨M, F0, H0, pn, ρ, F, p, ds, ρ', dr, rs, ha, q⟩ => ?_⟩
    cases ds with
    | nil =>
      cases rs
      cases ha
      exact (pgs_nil (X := X)).run pins s σ H [] us Q I r ⟨rfl, q _ dr⟩
    | cons _ _ => cases ha
  | [], _ :: _, h => by cases h
  | _ :: _, [], h => by cases h
  | i :: is, e :: es, h => by
    simp only [mNms, Bool.and_eq_true] at h
    have pg := pgS_nm (G := G) hN nd loc h.1.2
    have pgs := pgsS_nms (is := is) (es := es) h.2
    have z := pgs_cons pg pgs (by rw [nst_asg h.1.1]; rfl)
    refine ⟨fun pins s σ H xs us Q I r ⟨M, F0, H0, pn, ρ, F, p, ds, ρ', dr, rs, ha, q⟩ => z.run pins s σ H xs us Q I r ?_⟩
    cases ds with
    | nil => cases ha
    | cons d ds =>
      cases rs with
      | cons r1 r2 =>
        exact ⟨_, _, rfl, M, F0, H0, pn, ρ, F, p, d, _, dr, r1, rfl, fun σ' dr' => ⟨M, F0, H0, pn, _, F, p, ds, ρ', dr', r2, ha, q⟩⟩
include calm
theorem pgS_tg {tg : Tg} {e : Expr} (h : mTg N sc0 tg e = true) : PG X e (gS G tg) := by
  cases tg with
  | nm i => exact pgS_nm hN nd loc h
  | tp is =>
    simp only [mTg] at h
    split at h
    · rename_i es k pos
      obtain ⟨q1, q2⟩ := mNms_nst h
      obtain ⟨q3, q4⟩ := asg_len q1 X.env
      have pgs := pgsS_nms (G := G) hN nd loc h
      have z := pg_tup (k := k) (pos := pos) calm pgs q3 q4
      refine ⟨fun pins s σ H v u Q I r ⟨M, F0, H0, pn, ρ, F, p, d, ρ', dr, rv, ha, q⟩ => z.run pins s σ H v u Q I r ?_⟩
      cases d with
      | tup ds =>
        obtain ⟨a, ws, rfl, e1, r1⟩ := rv.tup_inv
        have hl : ∀ {is : List Nat} {ds : List D} {ρ : SEnv}, setSl ρ is ds = some ρ' → is.length = ds.length := by
          intro is
          induction is with
          | nil => intro ds ρ h; cases ds <;> simp [setSl] at h ⊢
          | cons i is ih =>
            intro ds ρ h
            cases ds with
            | nil => simp [setSl] at h
            | cons d ds => simp only [setSl] at h; simp [ih h]
        exact ⟨a, ws, rfl, .inl (.inl (dr.ok.sub _ _ e1)), by rw [r1.length, ← hl ha, q2], M, F0, H0, pn, ρ, F, p, ds, ρ', dr, r1, ha, q⟩
      | _ => cases ha
    · cases h
end
section
/-! ### the model's questions about a statement's form -/
theorem swp_not {v : Expr} {t : Option Expr} {l : Nat} {env : Env} (h : ncomp v = true) : swapsWith v t l env = pure false := by
  cases v <;> first | rfl | cases h
theorem swp_cell {sc : Scope} {v : Expr} {x : Str} {p : Pos} {l : Nat} {env : Env} (hs : env.scope = sc) (h : compNo sc x v = true) : swapsWith v (some (.Name x p)) l env = pure false := by
  cases v <;> first | rfl | (exact swp_not h) | skip
  rename_i elt gs scope pos
  have h : decide (sc.names.lookup x = some .cell) = true := h
  have h := of_decide_eq_true h
  have k : env.kindOf x = some .cell := by unfold Env.kindOf; rw [hs]; exact h
  unfold swapsWith
  simp only [k]
  have z : ((some NameKind.cell : Option NameKind) == some NameKind.local) = false := by decide
  rw [z, Bool.and_false, Bool.false_and, Bool.false_and]
theorem swp_sub {v o i : Expr} {p : Pos} {l : Nat} {env : Env} : swapsWith v (some (.Subscript o i p)) l env = pure false := by
  cases v <;> rfl
theorem swp_att {v o : Expr} {f : Str} {p : Pos} {l : Nat} {env : Env} : swapsWith v (some (.Attribute o f p)) l env = pure false := by
  cases v <;> rfl
theorem swp_tup {v : Expr} {es : List Expr} {k : Nat} {p : Pos} {l : Nat} {env : Env} : swapsWith v (some (.Tuple es k p)) l env = pure false := by
  cases v <;> rfl
theorem blk_fn {env : Env} (hk : env.scope.kind = .function) : env.blockKind = .function := by unfold Env.blockKind; rw [hk]; rfl
theorem sws_no {sc : Scope} {p1 p2 pt pt2 : Pos} {kt k2 : Nat} {x y : Str} {a b : Expr} {env : Env} (hs : env.scope = sc) (hk : env.scope.kind = .function) (h : swp2 sc p1 p2 x y a b = true) :
    swappedStores [.Tuple [.Name x p1, .Name y p2] kt pt] (.Tuple [a, b] k2 pt2) env = pure (some [x, y]) := by
  unfold swp2 at h
  simp only [Bool.and_eq_true, decide_eq_true_eq, Bool.not_eq_true'] at h
  obtain ⟨⟨⟨⟨⟨⟨⟨h1, h2⟩, h3⟩, h4⟩, h5⟩, h6⟩, h7⟩, h8⟩ := h
  have k1 : env.kindOf x = some .local := by unfold Env.kindOf; rw [hs]; exact h1
  have k2' : env.kindOf y = some .local := by unfold Env.kindOf; rw [hs]; exact h2
  have hb := blk_fn hk
  have st : ([a, b].any fun | .Starred .. => true | _ => false) = false := by
    cases a <;> first | (cases h5; done) | (cases b <;> first | rfl | cases h6)
  have ln : ((p2.line == p1.line) : Bool) = true := by rw [h3]; exact beq_self_eq_true _
  have ln1 : ((p1.line == p1.line) : Bool) = true := beq_self_eq_true _
  have kk : ((some NameKind.local : Option NameKind) == some NameKind.local) = true := by decide
  have bk : ((ScopeKind.function : ScopeKind) != ScopeKind.function) = false := by decide
  unfold swappedStores
  simp only [List.length_cons, List.length_nil, hb, st, List.head?_cons, Option.map_some, Option.getD_some, Expr.pos, List.filterMap_cons, k1, k2', kk, ln, ln1, h7, h8, bk, Bool.and_self, if_true, List.filterMap_nil]
  have ed : ([x, y] : List Str).eraseDups = [x, y] := by
    have hxy : (y == x) = false := by simpa using Ne.symm h4
    simp [List.eraseDups, List.eraseDupsBy, List.eraseDupsBy.loop, hxy]
  simp [ed]
  intro h
  rcases h with h | h
  · cases a <;> first | (cases h; done) | (cases h5; done)
  · cases b <;> first | (cases h; done) | (cases h6; done)
theorem sws_nTup {es : List Expr} {k : Nat} {p : Pos} {v : Expr} {env : Env} (h : nTup v = true) : swappedStores [.Tuple es k p] v env = pure none := by
  cases v <;> first | rfl | cases h
theorem sws_fold {es : List Expr} {k : Nat} {p : Pos} {v : Expr} {env : Env} (h : foldT v = true) : swappedStores [.Tuple es k p] v env = pure none := by
  cases v <;> first | (cases h; done) | skip
  rename_i vs k2 p2
  have h : vs.all (foldedForSure 8) = true := h
  unfold swappedStores
  simp only [h, if_true]
  split
  · rfl
  · split
    · rfl
    · split
      · rfl
      · rfl
end
section
variable {T : Tab} {S : Sem0} {G : Ad} {lv : Nat → Nat} {n nc : Nat → Bool} {N : List Str}
variable {sc sc0 : Scope} {E : XK} {X : Cx}
theorem filterMap_lt {α β : Type} {f : α → Option β} : ∀ {l : List α}, (∃ x ∈ l, f x = none) → (l.filterMap f).length < l.length
  | [], ⟨x, h, _⟩ => by simp at h
  | a :: l, ⟨x, h, e⟩ => by
    rw [List.filterMap_cons]
    cases q : f a with
    | none => exact Nat.lt_succ_of_le (List.length_filterMap_le f l)
    | some b =>
      rcases List.mem_cons.mp h with rfl | h
      · rw [e] at q; cases q
      · exact Nat.succ_lt_succ (filterMap_lt ⟨x, h, e⟩)
theorem sws_cell {sc : Scope} {es : List Expr} {k : Nat} {p : Pos} {v : Expr} {env : Env} (hs : env.scope = sc) (h : cellT sc es = true) : swappedStores [.Tuple es k p] v env = pure none := by
  by_cases hv : nTup v = true
  · exact sws_nTup hv
  · cases v with
    | Tuple vs k2 p2 =>
      unfold swappedStores
      dsimp only
      split
      · rfl
      · split
        · rfl
        · have hlt := filterMap_lt (l := es) (f := fun
            | .Name id pos => if env.kindOf id == some .local && pos.line == ((es.head?.map (·.pos.line)).getD 0) then some id else none
            | _ => none) (by
              unfold cellT at h
              obtain ⟨x, hx, hx2⟩ := List.any_eq_true.mp h
              refine ⟨x, hx, ?_⟩
              cases x with
              | Name y py =>
                simp only [Bool.not_eq_true', decide_eq_false_iff_not] at hx2
                have hk : (env.kindOf y == some .local) = false := by
                  unfold Env.kindOf; rw [hs]
                  simpa using hx2
                simp only [hk, Bool.false_and, Bool.false_eq_true, if_false]
              | _ => rfl)
          rw [if_pos]
          simp only [Bool.or_eq_true, bne_iff_ne]
          exact .inl (Nat.ne_of_lt hlt)
    | List vs p2 => rfl
    | _ => exact absurd rfl hv
theorem asEx {α : Type} {o : Option α} (h : o.isSome = true) : ∃ a, o = some a := Option.isSome_iff_exists.mp h
/-- new lists -/
theorem soundF (C : Ctx T S G lv n nc N sc sc0 E X) {ir : IE} {e : Expr} (hf : frsh ir = true) (h : mE T n nc N sc ir e = true) : PE X e (tF G E (evE S ir)) := by
  cases ir with
  | lst xs =>
    simp only [mE] at h
    split at h
    · refine peI (pe_lst (soundEs xs C _ h)) ?_
      rintro σ H Q ⟨ρ, F, pn, p, dr, fk, o⟩
      refine ⟨ρ, F, pn, p, dr, fk, ?_⟩
      simp only [evE] at o
      cases e1 : evEs S xs ρ p with
      | stuck => rw [e1] at o; exact o.elim
      | err c fs p1 => rw [e1] at o; exact o
      | ok ds p1 =>
        rw [e1] at o
        simp only [R.bind_ok] at o
        intro vs F1 H1 s1 r1
        by_cases hz : ds.length ≤ sizeLine
        · rw [if_pos hz] at o
          refine ⟨by rw [r1.length]; exact hz, fun q hq => ?_⟩
          obtain ⟨hF, hp⟩ := s1.ok.fresh (.of hq)
          exact o ds rfl q vs F1 _ (s1.ownW (s1.there _ (.of hq)) hF hp (no_none hq)) (s1.there _ (.of hq)) hF upd_same r1
        · rw [if_neg hz] at o; exact o.elim
    · cases h
  | blt f xs =>
    cases f with
    | list =>
      simp only [mE] at h
      split at h
      · rename_i x pp e0 es pp2
        simp only [Bool.and_eq_true, decide_eq_true_eq] at h
        obtain ⟨⟨⟨h1, h2⟩, h3⟩, h4⟩ := h
        subst h3
        have hn := mEs_nst h4
        refine peI (pe_callTy call_list_of (glo_of C.hsc h1) (C.free _ (bf_free .list)) (boot_bf .list) (soundEs xs C _ h4) (bf_main .list) (okN1 h2) (star_cons (hn e0 (by simp)) X.env) (star_plain (fun e he => hn e (by simp [he])) pp2 X.env)) ?_
        rintro σ H Q ⟨ρ, F, pn, p, dr, fk, o⟩
        refine ⟨ρ, F, pn, p, dr, fk, ?_⟩
        simp only [evE] at o
        cases e1 : evEs S xs ρ p with
        | stuck => rw [e1] at o; exact o.elim
        | err c fs p1 => rw [e1] at o; exact o
        | ok ds p1 =>
          rw [e1] at o
          simp only [R.bind_ok] at o
          intro vs F1 H1 s1 r1
          have key : ∀ (a : Addr) (ws : List V) (ys : List D), F1 a = some (.lst ws) ∨ F1 a = some (.tup ws) → Reps G pn F1 ws ys → R.of (bfn .list ds) p1 = .ok (.lst ys) p1 → (SqL X.K H1 a ws ∨ SqT X.K H1 a ws) ∧ ∀ l, H1 l = none → Q (.ref l) (upd H1 l (.lst ws)) := by
            intro a ws ys hF rs eo
            rw [eo] at o
            refine ⟨?_, fun l hl => ?_⟩
            · rcases hF with hF | hF
              · exact .inl (SqL.of (s1.ok.sub _ _ hF))
              · exact .inr (SqT.of (s1.ok.sub _ _ hF))
            · obtain ⟨hFl, hp⟩ := s1.ok.fresh (.of hl)
              exact o ys rfl l ws F1 _ (s1.ownW (s1.there _ (.of hl)) hFl hp (no_none hl)) (s1.there _ (.of hl)) hFl upd_same rs
          rcases ds with _ | ⟨d, _ | ⟨d2, ds⟩⟩
          · exact o.elim
          · obtain ⟨v, rfl, r⟩ := r1.one
            cases d with
            | tup ys =>
              obtain ⟨a, ws, rfl, e2, r2'⟩ := r.tup_inv
              obtain ⟨k1, k2⟩ := key a ws ys (.inr e2) r2' rfl
              exact ⟨a, ws, rfl, k1, k2⟩
            | lst ys =>
              obtain ⟨a, ws, rfl, e2, r2'⟩ := r.lst_inv
              obtain ⟨k1, k2⟩ := key a ws ys (.inl e2) r2' rfl
              exact ⟨a, ws, rfl, k1, k2⟩
            | _ => exact o.elim
          · cases d <;> exact o.elim
      · cases h
    | _ => cases hf
  | comp elt tg it ifs own =>
    simp only [mE] at h
    split at h
    · simp only [Bool.and_eq_true, decide_eq_true_eq] at h
      obtain ⟨⟨⟨⟨⟨⟨⟨⟨h1, h2⟩, h3⟩, h4⟩, h5⟩, h6⟩, h7⟩, h8⟩, h9⟩ := h
      subst h1
      exact (s_comp C h2 h3 h5 h6 (soundI it C _ _ h4) (fun s H Cc cl fp => soundTs ifs (C.blk s H _ Cc cl fp) _ h7 h8) (fun s H Cc cl fp => soundE elt (C.blk s H _ Cc cl fp) _ h9)).1
    · cases h
  | _ => cases hf
/-- name = [..] on one line -/
theorem s_setSw (C : Ctx T S G lv n nc N sc sc0 E X) {i : Nat} {x : Str} {ir : IE} {v : Expr} {p' pos : Pos} (hi : N[i]? = some x) (h : mE T n nc N sc ir v = true) (hsw : compSw sc x p' v = true) :
    PS X (.Assign [.Name x p'] v pos) (tAsg (tF G E (evE S ir)) (gName i)) := by
  cases v with
  | ListComp elt0 gs scope cp =>
    cases ir with
    | comp elt tg it ifs own =>
      simp only [mE] at h
      split at h
      · rename_i ee x0 t0 i0 fs0 k0 sc2 cp2 he
        cases he
        simp only [Bool.and_eq_true, decide_eq_true_eq] at h
        obtain ⟨⟨⟨⟨⟨⟨⟨⟨h1, h2⟩, h3⟩, h4⟩, h5⟩, h6⟩, h7⟩, h8⟩, h9⟩ := h
        subst h1
        simp only [compSw, Bool.and_eq_true, decide_eq_true_eq, Bool.not_eq_true'] at hsw
        obtain ⟨⟨w1, w2⟩, w3⟩ := hsw
        have key := (s_comp C h2 h3 h5 h6 (soundI it C _ _ h4) (fun s H Cc cl fp => soundTs ifs (C.blk s H _ Cc cl fp) _ h7 h8) (fun s H Cc cl fp => soundE elt (C.blk s H _ Cc cl fp) _ h9) (pos := cp)).2
        have hl : X.env.scope.names.lookup x = some .local := by rw [C.hsc]; exact w1
        refine ⟨fun pins s σ H D I hw => ?_⟩
        have hk : tAsg (tLc (tI G E (evI S it)) (gT G (own.map (·.2)) tg) (tT G E0 (evAndT S ifs)) (tE G E0 (evE S elt)) (own.map (·.2))) (gName i) D σ H := key σ H _ hw
        refine (ps_setLc (i := i) C.calm (by rw [C.hN]; exact C.nd) (by rw [C.hN]; exact hi) hl (sw_true I.ok.kind hl (by rw [w2]; exact beq_self_eq_true _) w3) (soundI it C _ _ h4) (blkOk_by (own := own) (by rw [C.hN, C.hsc]; exact h2)) (g := gT G (own.map (·.2)) tg) (fun s H Cc cl fp => ?_)
          (fun s H Cc cl fp => soundTs ifs (C.blk s H _ Cc cl fp) _ h7 h8) (fun s H Cc cl fp => soundE elt (C.blk s H _ Cc cl fp) _ h9) (fun z => fold_set h3 _ z)).run pins s σ H D I hk
        have C' := C.blk s H scope Cc cl fp
        exact pg_tg C'.hN C'.nd C'.loc C'.calm _ h5 h6
      · cases h
    | _ => simp [mE] at h
  | _ => cases hsw
end
end Mi

set_option Elab.async false
set_option linter.all false
set_option maxRecDepth 100000
set_option maxHeartbeats 4000000
namespace Mi
open PySem PySem.Spec PyProof.Rows L2
theorem upd_id {H : Hp} {a : Addr} {o : HO} (e : H a = some o) : upd H a o = H := by
  funext b
  by_cases h : b = a
  · subst h; rw [upd_same]; exact e.symm
  · rw [upd_ne h]
theorem putF_snoc {f : Str} {v : V} : ∀ {at_ : List Str} {vs : List V}, at_.Nodup → vs.length < at_.length → at_[vs.length]? = some f → putF f v ((at_.take vs.length).zip vs) = (at_.take (vs.length + 1)).zip (vs ++ [v])
  | [], vs, _, h, _ => absurd h (Nat.not_lt_zero _)
  | a :: at_, [], nd, h, e => by
    simp at e
    subst e
    simp [putF]
  | a :: at_, v0 :: vs, nd, h, e => by
    simp only [List.length_cons, List.getElem?_cons_succ] at e
    have nd' := List.nodup_cons.mp nd
    have hne : a ≠ f := fun z => nd'.1 (by rw [z]; exact List.mem_of_getElem? e)
    have ih := putF_snoc (f := f) (v := v) nd'.2 (by simpa using h) e
    simp only [List.length_cons, List.take_succ_cons, List.zip_cons_cons, List.cons_append, putF]
    rw [if_neg hne, ih]
theorem penSet_keys {f : Str} {i : Int} {st st' : Pen} {ca : Addr} (h : penSet f i st = some st') : putK (penK ca st) (Sum.inr f : Key) (.int i) = penK ca st' ∧ st'.cells = st.cells := by
  unfold penSet at h
  split at h
  · rename_i e; subst e; cases h; exact ⟨rfl, rfl⟩
  split at h
  · rename_i e; subst e; cases h; exact ⟨rfl, rfl⟩
  split at h
  · rename_i e; subst e; cases h; exact ⟨rfl, rfl⟩
  split at h
  · rename_i e; subst e; cases h; exact ⟨rfl, rfl⟩
  · cases h
section
variable {G : Ad} {M : Addr → Prop} {F0 H0 F H : Hp} {pn : PN} {σ : L2.St} {ρ : SEnv} {p : PenS}
/-- the pen's field is set -/
theorem SR.pen {pa ca : Addr} {st st' : Pen} (s : SR G M F0 H0 (some (pa, ca)) σ H ρ F (some st)) {f : Str} {i : Int} (h : penSet f i st = some st') :
    SR G M F0 H0 (some (pa, ca)) σ (upd H pa (.dK (penK ca st'))) ρ F (some st') := by
  obtain ⟨z1, z2, z3⟩ := s.ok.pen
  have hc := (penSet_keys (ca := ca) h).2
  have ip : IsPen (some (pa, ca)) pa := ⟨ca, rfl⟩
  exact {
    len := s.len
    dat := s.dat
    own := fun j ys q => by
      obtain ⟨b, ws, h1, h2, h3⟩ := s.own j ys q
      have hb : b ≠ pa := fun e => by rw [e, z2] at h2; cases h2
      exact ⟨b, ws, h1, by rw [upd_ne hb]; exact h2, h3⟩
    inj := s.inj
    mak := fun j c fs q => by
      obtain ⟨b, dx, ws, h1, h2, h3⟩ := s.mak j c fs q
      have hb : b ≠ pa := fun e => by rw [e, z2] at h2; cases h2
      exact ⟨b, dx, ws, h1, by rw [upd_ne hb]; exact h2, h3⟩
    one := s.one
    since := ⟨fun b o n q e => by rw [upd_ne (fun z => n (by rw [z]; exact s.mp _ ip))]; exact s.since.keep b o n q e, fun b e => by
      by_cases hb : b = pa
      · subst hb; obtain ⟨_, z⟩ := e _ upd_same; cases z
      · exact s.since.there b (fun u hu => e u (by rw [upd_ne hb]; exact hu)), s.since.same, s.since.new⟩
    ok := ⟨fun b u e => by
      have hb : b ≠ pa := fun z => by rw [z, z1] at e; cases e
      rw [upd_ne hb]; exact s.ok.sub b u e, ⟨z1, upd_same, by rw [hc]; exact z3⟩, s.ok.notb, tabs_upd s.ok.tabs (fun u e => by rw [z2] at e; cases e; trivial)⟩
    mp := s.mp }
end
section
variable {T : Tab} {S : Sem0} {G : Ad} {lv : Nat → Nat} {n nc : Nat → Bool} {N : List Str}
variable {sc : Scope} {E : XK} {X : Cx}
theorem whW_some {c : SEnv → PenS → R Bool} {f : SEnv → PenS → R (Fl × SEnv)} {ρ : SEnv} {p : PenS} (h : whW c f ρ p ≠ .stuck) : ∃ m, whW c f ρ p = whN c f m ρ p := by
  unfold whW at h ⊢
  split at h
  · rename_i q; rw [dif_pos q]; exact ⟨_, rfl⟩
  · exact absurd rfl h
theorem OutS.ne {G : Ad} {E : XK} {M : Addr → Prop} {F0 H0 : Hp} {pn : PN} {Dn : Ends} {r : R (Fl × SEnv)} (h : OutS G E M F0 H0 pn Dn r) : r ≠ .stuck := fun e => by rw [e] at h; exact h
theorem s_whl {c : IE} {b : ISs} {t : Expr} {x : List Stmt} {pos : Pos} (C : Ctx T S G lv n nc N sc sc E X) (hp : PassesOwn (model X.prog X.w) X.A X.env X.xe) (hc : PT X t (tT G E (evT S c))) (hb : PSs X x (tSt G E (evSs S b))) :
    PS X (.While t x [] pos) (tSt G E (evS S (.whl c b))) := by
  refine psI (ps_while hp hc hb) ?_
  rintro Dn σ H ⟨M, F0, H0, pn, ρ, F, p, s, o⟩
  simp only [evS] at o
  obtain ⟨m, em⟩ := whW_some o.ne
  rw [em] at o
  refine ⟨fun m σ H => ∃ ρ F p, SR G M F0 H0 pn σ H ρ F p ∧ OutS G E M F0 H0 pn Dn (whN (fun ρ p => evT S c (seeB ρ) p) (fun ρ p => evSs S b ρ p) m ρ p), ⟨m, ρ, F, p, s, o⟩, ?_⟩
  clear s o em
  rintro m σ H ⟨ρ, F, p, s, o⟩
  cases m with
  | zero => exact o.elim
  | succ m =>
    simp only [whN] at o
    refine ⟨seeB ρ, lend σ ρ F H, pn, p, s.drB, lend_ok s, (OutS.ofB (rep := rB) s o).imp ?_⟩
    rintro k H1 ⟨F1, p1, k', e1, t, rfl, o1⟩
    have s1 := (s.stepB t).1
    cases k with
    | false =>
      rw [if_neg Bool.false_ne_true] at o1 ⊢
      exact o1 _ _ _ s1
    | true =>
      rw [if_pos rfl] at o1 ⊢
      refine ⟨fun σ' H' => ∃ ρ F p, SR G M F0 H0 pn σ' H' ρ F p ∧ OutS G E M F0 H0 pn Dn (whN (fun ρ p => evT S c (seeB ρ) p) (fun ρ p => evSs S b ρ p) m ρ p), fun σ' H' q => ⟨m, Nat.lt_succ_self m, q⟩, M, F0, H0, pn, ρ, _, p1, s1, ?_⟩
      exact OutS.turn (k := fun ρ p => whN (fun ρ p => evT S c (seeB ρ) p) (fun ρ p => evSs S b ρ p) m ρ p) o1 _ fun σ' H' ρ' F' p' s' o' => ⟨ρ', F', p', s', o'⟩
theorem s_for {tg : Tg} {it : II} {b : ISs} {t i : Expr} {x : List Stmt} {pos : Pos} (C : Ctx T S G lv n nc N sc sc E X) (hp : PassesOwn (model X.prog X.w) X.A X.env X.xe) (hni : nset i = true) (htg : mTg N sc tg t = true) (hi : PI X t i (tI G E (evI S it)))
    (hb : PSs X x (tSt G E (evSs S b))) : PS X (.For t i x [] pos) (tSt G E (evS S (.for_ tg it b))) := by
  refine psI (ps_for hp C.calm hi (pgS_tg (G := G) C.hN C.nd C.loc C.calm htg) hb (fun z => fold_set hni _ z)) ?_
  rintro Dn σ H ⟨M, F0, H0, pn, ρ, F, p, s, o⟩
  simp only [evS] at o
  refine ⟨see ρ, F, pn, p, s.dr, s.ok, (OutS.of (rep := rJ G pn) s o).imp ?_⟩
  rintro J H1 ⟨F1, p1, ds, e1, t1, jk, o1⟩
  have s1 := s.step t1
  have sn := s1.since
  have o1 := o1.rebase sn
  have s1 := s1.rebase
  clear o e1 t1 s
  generalize hf : (fun d ρ p => (R.of (tgSl ρ tg d) p).bind fun ρ p => evSs S b ρ p) = f at o1
  refine ⟨fun i m σ H => m = ds.length - i ∧ i ≤ ds.length ∧ ∃ ρ F p, SR G M F1 H0 pn σ H ρ F p ∧ OutS G E M F1 H0 pn Dn (forLoop f (ds.drop i) ρ p), ⟨ds.length, rfl, Nat.zero_le _, ρ, F1, p1, s1, o1⟩, ?_⟩
  clear s1 o1
  rintro i m σ H ⟨rfl, hi2, ρ, F2, p, s, o⟩
  have sm : Same F1 F2 := s.since.same
  by_cases hlt : i < ds.length
  · refine .inr ⟨jk.go i H (sm.trans s.ok.sub) hlt, fun σ' H' => i + 1 ≤ ds.length ∧ ∃ ρ F p, SR G M F1 H0 pn σ' H' ρ F p ∧ OutS G E M F1 H0 pn Dn (forLoop f (ds.drop (i + 1)) ρ p), fun σ' H' q => ⟨_, by omega, rfl, q⟩, ?_⟩
    intro xv H3 hy
    obtain ⟨d, F3, hd, s3, rx⟩ := jk.yld i H xv H3 F2 p sm s.ok hy hlt
    have hdr : ds.drop i = d :: ds.drop (i + 1) := by
      rw [List.getElem?_eq_getElem hlt, Option.some.injEq] at hd
      rw [← hd]
      exact (List.getElem_cons_drop (h := hlt)).symm
    rw [hdr] at o
    simp only [forLoop] at o
    rw [← hf] at o
    have st := s.step s3
    cases et : tgSl ρ tg d with
    | none => simp only [et] at o; exact o.elim
    | some ρ' =>
      simp only [et, R.of_some, R.bind_ok] at o
      refine ⟨M, F1, H0, pn, ρ, F3, p, d, ρ', st, rx, et, fun σ' sr => ⟨M, F1, H0, pn, ρ', F3, p, sr, ?_⟩⟩
      rw [hf] at o
      exact OutS.turn (k := fun ρ p => forLoop f (ds.drop (i + 1)) ρ p) o _ fun σ' H' ρ' F' p' s' o' => ⟨hlt, ρ', F', p', s', o'⟩
  · have e : i = ds.length := by omega
    subst e
    rw [List.drop_length] at o
    exact .inl ⟨jk.stop _ H (sm.trans s.ok.sub) (Nat.le_refl _), o _ _ _ s⟩
end
end Mi

set_option Elab.async false
set_option linter.all false
set_option maxRecDepth 100000
set_option maxHeartbeats 4000000
namespace Mi
open PySem PySem.Spec PyProof.Rows L2
theorem set_id {α : Type} {l : List α} {i : Nat} {x : α} (h : l[i]? = some x) : l.set i x = l := by
  apply List.ext_getElem?
  intro j
  by_cases hj : i = j
  · subst hj
    rw [h, List.getElem?_set_self (List.getElem?_eq_some_iff.mp h).1]
  · rw [List.getElem?_set_ne hj]
section
variable {G : Ad} {M : Addr → Prop} {F0 H0 F H F' H' : Hp} {pn : PN} {σ : L2.St} {ρ : SEnv} {p p' : PenS}
/-- a new list, one's own -/
theorem SR.newO (s : SR G M F0 H0 pn σ H ρ F p) (t : Step G pn p' F H F' H') {a : Addr} {vs : List V} {xs : List D} (i : Nat) (hn : Fr H a) (hF : F' a = none) (hH : H' a = some (.lst vs)) (hr : Reps G pn F' vs xs) :
    SR G M F0 H0 pn (σ.set i (some (.ref a))) H' (ρ.set i (.o xs)) F' p' := by
  have z := (s.step t).setO (a := a) (vs := vs) (xs := xs) i hr hF (s.since.there a hn) (s.ok.fresh hn).2 (fun u e => by rw [hH] at e; cases e; trivial) (fun j ys hj q e => by
    obtain ⟨b, ws, h1, h2, _⟩ := s.own j ys q
    rw [e] at h1; cases h1; obtain ⟨_, z⟩ := hn _ h2; cases z) (fun j c fs q e => by
    obtain ⟨b, dx, ws, h1, h2, _⟩ := s.mak j c fs q
    rw [e] at h1; cases h1; obtain ⟨_, z⟩ := hn _ h2; cases z)
  rw [upd_id hH] at z
  exact z
/-- one's own list is changed -/
theorem SR.chgO (s : SR G M F0 H0 pn σ H ρ F p) {a : Addr} {vs ws : List V} {xs ys : List D} {i : Nat} (hi : ρ[i]? = some (.o xs)) (hσ : σ[i]? = some (some (.ref a))) (hH : H a = some (.lst vs)) (hr : Reps G pn F ws ys) :
    SR G M F0 H0 pn σ (upd H a (.lst ws)) (ρ.set i (.o ys)) F p := by
  obtain ⟨b, us, h1, h2, h3, h4, h5⟩ := s.own i xs hi
  rw [hσ] at h1; cases h1
  have z := s.setO (a := a) (vs := ws) (xs := ys) i hr h4 h5 (s.lst_np hH) (fun u e => by rw [hH] at e; cases e; trivial) (fun j zs hj q e => hj (s.inj j i zs xs a q hi e hσ)) (fun j c fs q e => by
    obtain ⟨b, dx, ws, h1, h2, _⟩ := s.mak j c fs q
    rw [e] at h1; cases h1; rw [hH] at h2; cases h2)
  rw [set_id hσ] at z
  exact z
end
section
variable {T : Tab} {S : Sem0} {G : Ad} {lv : Nat → Nat} {n nc : Nat → Bool} {N : List Str}
variable {sc : Scope} {E : XK} {X : Cx}
/-- x.append(v) -/
theorem s_app (C : Ctx T S G lv n nc N sc sc E X) {i : Nat} {e : IE} {x f : Str} {v : Expr} {p0 ap cp pos : Pos} (h1 : N[i]? = some x) (h2 : visB sc x = true) (h3 : okN x = true) (h4 : f = ("append" : Str)) (h5 : nst v = true) (h6 : (ap.endLine == cp.line) = true)
    (h7 : mE T n nc N sc e v = true) : PS X (.Expr (.Call (.Attribute (.Name x p0) f ap) [v] [] cp) pos) (tDrop (tBM X.K "list" rAppend (tVar i) fun σ H Q => tE G E (evE S e) σ H fun y H1 => Q [y] H1)) := by
  subst h4
  have ho : PE X (.Name x p0) (tVar i) := pe_var (by rw [C.hN]; exact h1) (by rw [C.hsc]; exact vis_of h2) (okN1 h3) (okN2 h3)
  have ha : PA X [v] (fun σ H Q => tE G E (evE S e) σ H fun y H1 => Q [y] H1) := paI (pa_cons (soundE e C v h7) pa_nil (star_cons h5 _)) fun σ H Q q => q
  exact ps_expr (pe_bm PySem.F.plainAttrs_list PySem.F.slot_list_append PySem.F.type_list_append mt_append ho ha rfl (by rw [star_cons h5]; rfl) h6 (star_cons h5 _) rfl)
theorem s_rais (C : Ctx T S G lv n nc N sc sc E X) (tk : L2.Takes X (fun cls d _ H => E cls d H)) {c : Nat} {xs : IEs} {x : Str} {e0 : Expr} {es : List Expr} {p1 p2 p3 : Pos} (hg : gloB sc x = true) (ho : okN x = true) (hc : 1000 ≤ c) (hn : nc c = true)
    (hx : (T.excs[c - 1000]?).map (fun t => (t.1, t.2.length)) = some (x, es.length + 1)) (hm : mEs T n nc N sc xs (e0 :: es) = true) : PS X (.Raise (some (.Call (.Name x p1) (e0 :: es) [] p2)) none p3) (tSt G E (evS S (.rais c xs))) := by
  have ec : c = xc (c - 1000) := by unfold xc; omega
  generalize c - 1000 = j at hx ec
  subst ec
  cases q : T.excs[j]? with
  | none => rw [q] at hx; cases hx
  | some z =>
    obtain ⟨x', at_⟩ := z
    rw [q] at hx
    simp only [Option.map_some, Option.some.injEq, Prod.mk.injEq] at hx
    obtain ⟨rfl, hl⟩ := hx
    obtain ⟨hmg, hat, ef, hr⟩ := C.exc j _ _ q hn
    obtain ⟨fI, fd, i1, i2, F1, hb⟩ := ef.ini
    have hns := mEs_nst hm
    have mk := pmk_oex (p := p1) (pos := p2) ef.ox i1 i2 F1 hr hb .nil passF (glo_of C.hsc hg) hmg (soundEs xs C _ hm) (okN1 ho) (star_cons (hns e0 (by simp)) _) (star_plain (fun e he => hns e (by simp [he])) _ _)
    refine psI (ps_raise C.calm tk mk) ?_
    rintro Dn σ H ⟨M, F0, H0, pn, ρ, F, p, s, o⟩
    refine ⟨see ρ, F, pn, p, s.dr, s.ok, (OutS.of (rep := rDs G pn) s (by simpa only [evS] using o)).imp ?_⟩
    rintro vs H1 ⟨F1', p1', ds, e1, t, rvs, o1⟩
    by_cases hlen : ds.length = (S.att (xc j)).length
    · rw [if_pos hlen] at o1
      rw [C.att, hat] at hlen
      have hvl : vs.length = at_.length := by rw [rvs.length]; exact hlen
      have hsm : at_.length ≤ 1000 := Nat.le_trans ef.sm (by decide)
      refine ⟨by rw [hvl]; exact hsm, fun a ha => ⟨a, vs, by rw [List.append_nil], hvl, upd_same, fun d fs H2 hd hda h1 h2 hfr hfl => ⟨rfl, d, fs, h1, h2, by rw [upd_ne hda] at hd; exact hd, ?_⟩⟩⟩
      have hd1 : H1 d = none := by rw [upd_ne hda] at hd; exact hd
      have eh : upd (del H2 a) d (.xd fs) = upd H1 d (.xd fs) := by
        funext b
        by_cases hb1 : b = d
        · subst hb1; rw [upd_same, upd_same]
        · rw [upd_ne hb1, upd_ne hb1]
          by_cases hb2 : b = a
          · subst hb2; rw [del_same, ha]
          · rw [del_ne hb2, hfr b hb2 hb1, upd_ne hb2]
      rw [eh]
      have st : Step G pn p1' F1' H1 F1' (upd H1 d (.xd fs)) := Step.side t.ok hd1
      refine o1 F1' _ d ((s.since.step s.mp t).step s.mp st) st.ok ⟨fs, upd_same, by rw [hat]; exact hlen, fun i f dd e2 e3 => ?_⟩
      obtain ⟨v, v1, v2⟩ := Reps.get rvs e3
      rw [hat] at e2
      exact ⟨v, hfl i f v e2 v1, v2⟩
    · rw [if_neg hlen] at o1; exact o1.elim
mutual
theorem soundS : ∀ (ir : IS) (C : Ctx T S G lv n nc N sc sc E X) (hp : PassesOwn (model X.prog X.w) X.A X.env X.xe ∧ L2.Takes X (fun cls d _ H => E cls d H)) (st : Stmt), mS T n nc N sc ir st = true → PS X st (tSt G E (evS S ir))
  | .asg i e, C, hp, st, h => by
    simp only [mS] at h
    split at h
    · rename_i x p' v pos
      simp only [Bool.and_eq_true, Bool.or_eq_true, decide_eq_true_eq] at h
      obtain ⟨⟨⟨⟨h1, h2⟩, h3⟩, h4⟩, h5⟩ := h
      obtain ⟨l1, l2⟩ := C.loc x h2
      have key : ∀ Dn σ H, tSt G E (evS S (.asg i e)) Dn σ H → tAsg (tE G E (evE S e)) (gName i) Dn σ H := by
        rintro Dn σ H ⟨M, F0, H0, pn, ρ, F, p, s, o⟩
        refine ⟨see ρ, F, pn, p, s.dr, s.ok, (OutS.of (rep := rD G pn) s (by simpa only [evS] using o)).imp ?_⟩
        rintro v H1 ⟨F1, p1, d, e1, t, rv, o1⟩
        exact o1 _ _ _ ((s.step t).set rv i)
      rcases h5 with h5 | h5
      · exact psI (ps_set (i := i) (by rw [C.hN]; exact C.nd) (by rw [C.hN]; exact h1) l1 (soundE e C v h4) (swp_cell C.hsc h5) l2) key
      · exact psI (s_setSw C h1 h4 h5) fun Dn σ H q => tE_tF (key Dn σ H q)
    · cases h
  | .asgB i e, C, hp, st, h => by
    simp only [mS] at h
    split at h
    · rename_i x p' v pos
      simp only [Bool.and_eq_true, decide_eq_true_eq] at h
      obtain ⟨⟨⟨⟨h1, h2⟩, h3⟩, h4⟩, h5⟩ := h
      obtain ⟨l1, l2⟩ := C.loc x h2
      refine psI (ps_set (i := i) (by rw [C.hN]; exact C.nd) (by rw [C.hN]; exact h1) l1 (soundE e C v h4) (swp_cell C.hsc h5) l2) ?_
      rintro Dn σ H ⟨M, F0, H0, pn, ρ, F, p, s, o⟩
      refine ⟨seeB ρ, lend σ ρ F H, pn, p, s.drB, lend_ok s, (OutS.ofB (rep := rD G pn) s (by simpa only [evS] using o)).imp ?_⟩
      rintro v H1 ⟨F1, p1, d, e1, t, rv, o1⟩
      by_cases hz : noLst d = true
      · rw [if_pos hz] at o1
        exact o1 _ _ _ ((s.stepB t).1.set (s.backRep t rv hz) i)
      · rw [if_neg hz] at o1; exact o1.elim
    · cases h
  | .own i e, C, hp, st, h => by
    simp only [mS] at h
    split at h
    · rename_i x p' v pos
      simp only [Bool.and_eq_true, Bool.or_eq_true, decide_eq_true_eq] at h
      obtain ⟨⟨⟨⟨⟨h0, h1⟩, h2⟩, h3⟩, h4⟩, h5⟩ := h
      obtain ⟨l1, l2⟩ := C.loc x h2
      have key : ∀ Dn σ H, tSt G E (evS S (.own i e)) Dn σ H → tAsg (tF G E (evE S e)) (gName i) Dn σ H := by
        rintro Dn σ H ⟨M, F0, H0, pn, ρ, F, p, s, o⟩
        refine ⟨see ρ, F, pn, p, s.dr, s.ok, ?_⟩
        simp only [evS, evOwn] at o
        cases ev : evE S e (see ρ) p with
        | stuck => rw [ev] at o; exact o.elim
        | err c fs p1 => rw [ev] at o; exact fun F' H' dx t x => o F' H' dx (s.since.step s.mp t) t.ok x
        | ok d p1 =>
          rw [ev] at o
          rintro xs rfl a vs F' H' t hn hF hH rs
          exact o _ _ _ (s.newO t i hn hF hH rs)
      rcases h5 with h5 | h5
      · exact psI (ps_set (i := i) (by rw [C.hN]; exact C.nd) (by rw [C.hN]; exact h1) l1 (soundF C h0 h4) (swp_cell C.hsc h5) l2) key
      · exact psI (s_setSw C h1 h4 h5) key
    · cases h
  | .par i j a b, C, hp, st, h => by
    simp only [mS] at h
    split at h
    · rename_i x p1 y p2 kt pt v u k2 pt2 pos
      simp only [Bool.and_eq_true, decide_eq_true_eq] at h
      obtain ⟨⟨⟨⟨⟨h1, h2⟩, h3⟩, h4⟩, h5⟩, h6⟩ := h
      have h6' := h6
      unfold swp2 at h6'
      simp only [Bool.and_eq_true, decide_eq_true_eq] at h6'
      obtain ⟨⟨⟨⟨⟨⟨⟨w1, w2⟩, w3⟩, w4⟩, w5⟩, w6⟩, w7⟩, w8⟩ := h6'
      have ha : PA X [v, u] (fun σ H Q => tE G E (evE S a) σ H fun x H1 => tE G E (evE S b) σ H1 fun y H2 => Q [x, y] H2) :=
        paI (pa_cons (soundE a C v h4) (pa_cons (soundE b C u h5) pa_nil (star_cons w6 _)) (star_cons w5 _)) fun σ H Q q => q
      refine ⟨fun pins s σ H D I hw => (ps_par (i := i) (j := j) C.calm (by rw [C.hN]; exact C.nd) (by rw [C.hN]; exact h1) (by rw [C.hN]; exact h2) h3 (by rw [C.hsc]; exact w1) (by rw [C.hsc]; exact w2) ha (sws_no C.hsc I.ok.kind h6)).run pins s σ H D I ?_⟩
      clear I pins
      obtain ⟨M, F0, H0, pn, ρ, F, p, s, o⟩ := hw
      refine ⟨see ρ, F, pn, p, s.dr, s.ok, (OutS.of (rep := rD G pn) s (by simpa only [evS] using o)).imp ?_⟩
      rintro v H1 ⟨F1, p1, d, e1, t, rv, o1⟩
      have s1 := s.step t
      refine ⟨see ρ, F1, pn, p1, s1.dr, s1.ok, (OutS.of (rep := rD G pn) s1 o1).imp ?_⟩
      rintro w H2 ⟨F2, p2, d2, e2, t2, rw2, o2⟩
      exact ⟨v, w, rfl, o2 _ _ _ (((s1.step t2).set (rv.mono t2.same) i).set rw2 j)⟩
    · cases h
  | .unp is e, C, hp, st, h => by
    simp only [mS] at h
    split at h
    · rename_i es k p' v pos
      simp only [Bool.and_eq_true, Bool.or_eq_true] at h
      obtain ⟨⟨h1, h2⟩, h3⟩ := h
      refine psI (ps_asg (soundE e C v h2) (pgS_tg (G := G) (tg := .tp is) C.hN C.nd C.loc C.calm h1) (show swapsWithSole [.Tuple es k p'] v pos.line X.env = pure false from swp_tup (v := v) (es := es) (k := k) (p := p') (l := pos.line) (env := X.env)) (h3.elim (fun z => z.elim sws_nTup sws_fold) (sws_cell C.hsc)) rfl) ?_
      rintro Dn σ H ⟨M, F0, H0, pn, ρ, F, p, s, o⟩
      refine ⟨see ρ, F, pn, p, s.dr, s.ok, (OutS.of (rep := rD G pn) s (by simpa only [evS] using o)).imp ?_⟩
      rintro v H1 ⟨F1, p1, d, e1, t, rv, o1⟩
      obtain ⟨ρ', eρ, o2⟩ := o1.ofH
      exact ⟨M, F0, H0, pn, ρ, F1, p1, d, ρ', s.step t, rv, eρ, fun σ' sr => o2 _ _ _ sr⟩
    · cases h
  | .app i e, C, hp, st, h => by
    simp only [mS] at h
    split at h
    · rename_i x p0 f ap v cp pos
      simp only [Bool.and_eq_true, decide_eq_true_eq] at h
      obtain ⟨⟨⟨⟨⟨⟨h1, h2⟩, h3⟩, h4⟩, h5⟩, h6⟩, h7⟩ := h
      refine psI (s_app (i := i) C h1 h2 h3 h4 h5 h6 h7) ?_
      rintro Dn σ H ⟨M, F0, H0, pn, ρ, F, p, s, o⟩
      simp only [evS] at o
      cases q : ρ[i]? with
      | none => rw [q] at o; exact o.elim
      | some z =>
        cases z with
        | o xs =>
          rw [q] at o
          obtain ⟨a, vs, q1, q2, q3, q4, q5⟩ := s.own i xs q
          refine ⟨.ref a, q1, .inl ⟨rfl, vs, SqL.of q2⟩, see ρ, F, pn, p, s.dr, s.ok, (OutS.of (rep := rD G pn) s o).imp ?_⟩
          rintro v H1 ⟨F1, p1, d, e1, t, rv, o1⟩
          by_cases hz : xs.length < sizeLine
          · rw [if_pos hz] at o1
            have h2 := t.keep _ _ (s.lst_np q2) (fun _ z => by cases z) q2
            refine ⟨a, vs, v, rfl, rfl, h2, by rw [q3.length]; exact hz, o1 _ _ _ ((s.step t).chgO q q1 h2 ((q3.mono t.same).append (.cons rv .nil)))⟩
          · rw [if_neg hz] at o1; exact o1.elim
        | _ => rw [q] at o; exact o.elim
    · cases h
  | .appB i e, C, hp, st, h => by
    simp only [mS] at h
    split at h
    · rename_i x p0 f ap v cp pos
      simp only [Bool.and_eq_true, decide_eq_true_eq] at h
      obtain ⟨⟨⟨⟨⟨⟨h1, h2⟩, h3⟩, h4⟩, h5⟩, h6⟩, h7⟩ := h
      refine psI (s_app (i := i) C h1 h2 h3 h4 h5 h6 h7) ?_
      rintro Dn σ H ⟨M, F0, H0, pn, ρ, F, p, s, o⟩
      simp only [evS] at o
      cases q : ρ[i]? with
      | none => rw [q] at o; exact o.elim
      | some z =>
        cases z with
        | o xs =>
          rw [q] at o
          obtain ⟨a, vs, q1, q2, q3, q4, q5⟩ := s.own i xs q
          refine ⟨.ref a, q1, .inl ⟨rfl, vs, SqL.of q2⟩, seeB ρ, lend σ ρ F H, pn, p, s.drB, lend_ok s, (OutS.ofB (rep := rD G pn) s o).imp ?_⟩
          rintro v H1 ⟨F1, p1, d, e1, t, rv, o1⟩
          by_cases hz : xs.length < sizeLine ∧ noLst d = true
          · rw [if_pos hz] at o1
            have h2 := t.keep _ _ (s.lst_np q2) (fun _ z => by cases z) q2
            have s1 := (s.stepB t).1
            obtain ⟨a', vs', w1, w2, w3, _⟩ := s1.own i xs q
            rw [q1] at w1; cases w1
            rw [h2] at w2; cases w2
            refine ⟨a, vs, v, rfl, rfl, h2, by rw [q3.length]; exact hz.1, o1 _ _ _ (s1.chgO q q1 h2 (w3.append (.cons (s.backRep t rv hz.2) .nil)))⟩
          · rw [if_neg hz] at o1; exact o1.elim
        | _ => rw [q] at o; exact o.elim
    · cases h
  | .setf i f e, C, hp, st, h => by
    simp only [mS] at h
    split at h
    · rename_i x p0 g p' v pos
      simp only [Bool.and_eq_true, decide_eq_true_eq] at h
      obtain ⟨⟨⟨⟨h1, h2⟩, h3⟩, rfl⟩, h5⟩ := h
      have ho : PE X (.Name x p0) (tVar i) := pe_var (by rw [C.hN]; exact h1) (by rw [C.hsc]; exact vis_of h2) (okN1 h3) (okN2 h3)
      refine psI (ps_fld ho (soundE e C v h5) swp_att) ?_
      rintro Dn σ H ⟨M, F0, H0, pn, ρ, F, p, s, o⟩
      refine ⟨see ρ, F, pn, p, s.dr, s.ok, (OutS.of (rep := rD G pn) s (by simpa only [evS] using o)).imp ?_⟩
      rintro v H1 ⟨F1, p1, d, e1, t, rv, o1⟩
      have s1 := s.step t
      cases q : ρ[i]? with
      | none => rw [q] at o1; exact o1.elim
      | some z =>
        cases z with
        | w c fs =>
          rw [q] at o1
          simp only at o1
          split at o1
          · rename_i hat
            obtain ⟨a, dx, vs, w1, w2, w3, w4, w5, w6, w7, w8⟩ := s1.mak i c fs q
            have hnd := C.clsF.nd c w8
            rw [C.att] at hat
            have hlt : fs.length < (G.att c).length := (List.getElem?_eq_some_iff.mp hat).1
            refine ⟨.ref a, w1, a, G.cls c, dx, _, rfl, w2, C.clsF.cl c w8, C.clsF.noat c w8 _ (List.mem_of_getElem? hat), ?_, ?_⟩
            · rw [List.length_zip, List.length_take]; have := hnd.2; omega
            · have e2 := putF_snoc (f := f) (v := v) (vs := vs) hnd.1 (by rw [w3]; exact hlt) (by rw [w3]; exact hat)
              rw [w3] at e2
              rw [e2]
              have z := s1.setW q w1 rv w5 hlt w6 w7 (s1.ins_np w2) ⟨_, w2⟩ w8
              rw [List.length_append] at z
              exact o1 _ _ _ z
          · exact o1.elim
        | _ => rw [q] at o1; exact o1.elim
    · cases h
  | .pset f e a, C, hp, st, h => by
    simp only [mS] at h
    split at h
    · rename_i y g k0 p0 p' v pos
      simp only [Bool.and_eq_true, decide_eq_true_eq] at h
      obtain ⟨⟨rfl, h2⟩, h3⟩ := h
      refine psI (ps_dput C.hu1 (soundE a C y h3) pe_str (soundE e C v h2) swp_sub) ?_
      rintro Dn σ H ⟨M, F0, H0, pn, ρ, F, p, s, o⟩
      refine ⟨see ρ, F, pn, p, s.dr, s.ok, (OutS.of (rep := rD G pn) s (by simpa only [evS] using o)).imp ?_⟩
      rintro v H1 ⟨F1, p1, d, e1, t, rv, o1⟩
      have s1 := s.step t
      refine ⟨see ρ, F1, pn, p1, s1.dr, s1.ok, (OutS.of (rep := rD G pn) s1 o1).imp ?_⟩
      rintro w H2 ⟨F2, p2, d2, e2, t2, rw2, o2⟩
      have s2 := s1.step t2
      cases d2 with
      | pen =>
        cases d with
        | int i =>
          cases p2 with
          | none => exact o2.elim
          | some st =>
            simp only at o2
            split at o2
            · rename_i st' hst
              cases rw2 with
              | pen epn =>
                subst epn
                cases rv
                obtain ⟨z1, z2, z3⟩ := s2.ok.pen
                refine ⟨_, _, rfl, DPut.k (k := (Sum.inr f : Key)) (v := .int i) z2 (Nat.lt_of_lt_of_le (show (penK _ st).length < 10 by simp [penK]) (by rw [sizeLine_eq]; decide)), ?_⟩
                rw [(penSet_keys hst).1]
                exact o2 _ _ _ (s2.pen hst)
            · exact o2.elim
        | _ => exact o2.elim
      | _ => exact o2.elim
    · cases h
  | .drop e, C, hp, st, h => by
    simp only [mS] at h
    split at h
    · rename_i v pos
      simp only [Bool.and_eq_true] at h
      refine psI (ps_expr (soundE e C v h.2) (swp_not h.1)) ?_
      rintro Dn σ H ⟨M, F0, H0, pn, ρ, F, p, s, o⟩
      refine ⟨seeB ρ, lend σ ρ F H, pn, p, s.drB, lend_ok s, (OutS.ofB (rep := rD G pn) s (by simpa only [evS] using o)).imp ?_⟩
      rintro v H1 ⟨F1, p1, d, e1, t, rv, o1⟩
      exact o1 _ _ _ (s.stepB t).1
    · cases h
  | .iff c a b, C, hp, st, h => by
    simp only [mS] at h
    split at h
    · rename_i t x y pos
      simp only [Bool.and_eq_true] at h
      refine psI (ps_if (soundT c C t h.1.1) (soundSs a C hp x h.1.2) (soundSs b C hp y h.2)) ?_
      rintro Dn σ H ⟨M, F0, H0, pn, ρ, F, p, s, o⟩
      refine ⟨seeB ρ, lend σ ρ F H, pn, p, s.drB, lend_ok s, (OutS.ofB (rep := rB) s (by simpa only [evS] using o)).imp ?_⟩
      rintro k H1 ⟨F1, p1, k', e1, t, rfl, o1⟩
      have s1 := (s.stepB t).1
      cases k with
      | true => exact ⟨M, F0, H0, pn, ρ, _, p1, s1, o1⟩
      | false => exact ⟨M, F0, H0, pn, ρ, _, p1, s1, o1⟩
    · cases h
  | .whl c b, C, hp, st, h => by
    simp only [mS] at h
    split at h
    · simp only [Bool.and_eq_true] at h
      exact s_whl C hp.1 (soundT c C _ h.1) (soundSs b C hp _ h.2)
    · cases h
  | .for_ tg it b, C, hp, st, h => by
    simp only [mS] at h
    split at h
    · simp only [Bool.and_eq_true] at h
      exact s_for C hp.1 h.1.1.1 h.1.1.2 (soundI it C _ _ h.1.2) (soundSs b C hp _ h.2)
    · cases h
  | .ret e, C, hp, st, h => by
    simp only [mS] at h
    split at h
    · rename_i v pos
      refine psI (ps_ret (soundE e C v h)) ?_
      rintro Dn σ H ⟨M, F0, H0, pn, ρ, F, p, s, o⟩
      refine ⟨seeB ρ, lend σ ρ F H, pn, p, s.drB, lend_ok s, (OutS.ofB (rep := rD G pn) s (by simpa only [evS] using o)).imp ?_⟩
      rintro v H1 ⟨F1, p1, d, e1, t, rv, o1⟩
      exact o1 v H1 F1 (s.stepB t).2 t.ok rv
    · cases h
  | .retN, C, hp, st, h => by
    simp only [mS] at h
    split at h
    · refine psI ps_retN ?_
      rintro Dn σ H ⟨M, F0, H0, pn, ρ, F, p, s, o⟩
      simp only [evS] at o
      exact o .non H F s.since s.ok .non
    · cases h
  | .brk, C, hp, st, h => by
    simp only [mS] at h
    split at h
    · refine psI ps_break ?_
      rintro Dn σ H ⟨M, F0, H0, pn, ρ, F, p, s, o⟩
      simp only [evS] at o
      exact o _ _ _ s
    · cases h
  | .cnt, C, hp, st, h => by
    simp only [mS] at h
    split at h
    · refine psI ps_continue ?_
      rintro Dn σ H ⟨M, F0, H0, pn, ρ, F, p, s, o⟩
      simp only [evS] at o
      exact o _ _ _ s
    · cases h
  | .pas, C, hp, st, h => by
    simp only [mS] at h
    split at h
    · refine psI ps_pass ?_
      rintro Dn σ H ⟨M, F0, H0, pn, ρ, F, p, s, o⟩
      simp only [evS] at o
      exact o _ _ _ s
    · cases h
  | .rais c xs, C, hp, st, h => by
    simp only [mS] at h
    split at h
    · simp only [Bool.and_eq_true, decide_eq_true_eq] at h
      obtain ⟨⟨⟨⟨⟨h1, h2⟩, h3⟩, h4⟩, h5⟩, h6⟩ := h
      exact s_rais C hp.2 h1 h2 h3 h4 h5 h6
    · cases h
  | .nvr, C, hp, st, h => by
    refine psI ps_never ?_
    rintro Dn σ H ⟨M, F0, H0, pn, ρ, F, p, s, o⟩
    simp only [evS] at o
    exact o
theorem soundSs : ∀ (ir : ISs) (C : Ctx T S G lv n nc N sc sc E X) (hp : PassesOwn (model X.prog X.w) X.A X.env X.xe ∧ L2.Takes X (fun cls d _ H => E cls d H)) (sts : List Stmt), mSs T n nc N sc ir sts = true → PSs X sts (tSt G E (evSs S ir))
  | .nil, C, hp, sts, h => by
    simp only [mSs] at h
    split at h
    · refine pssI pss_nil ?_
      rintro Dn σ H ⟨M, F0, H0, pn, ρ, F, p, s, o⟩
      simp only [evSs] at o
      exact o _ _ _ s
    · cases h
  | .cons a r, C, hp, sts, h => by
    simp only [mSs] at h
    split at h
    · simp only [Bool.and_eq_true] at h
      refine pssI (pss_cons (soundS a C hp _ h.1) (soundSs r C hp _ h.2)) ?_
      rintro Dn σ H ⟨M, F0, H0, pn, ρ, F, p, s, o⟩
      simp only [evSs] at o
      exact ⟨M, F0, H0, pn, ρ, F, p, s, OutS.seq o⟩
    · cases h
  | .frz i r, C, hp, sts, h => by
    simp only [mSs] at h
    refine pssI (soundSs r C hp sts h) ?_
    rintro Dn σ H ⟨M, F0, H0, pn, ρ, F, p, s, o⟩
    simp only [evSs] at o
    cases q : ρ[i]? with
    | none => rw [q] at o; exact o.elim
    | some z =>
      cases z with
      | o xs =>
        rw [q] at o
        obtain ⟨F', s'⟩ := s.frz q
        exact ⟨M, F0, H0, pn, _, F', p, s', o⟩
      | _ => rw [q] at o; exact o.elim
end
end
end Mi

set_option Elab.async false
set_option linter.all false
set_option maxRecDepth 100000
set_option maxHeartbeats 4000000
namespace Mi
open PySem PySem.Spec PyProof.Rows L2
/-! ### defs -/
/-- the def that catches, told of the module -/
structure FltG (P : Program) (w : World) (K : PySem.W.Frag) (mg : Str → Option Value) (base : Heap) (T : Tab) (G : Ad) (lv : Nat → Nat) : Prop where
  lam : T.lamN T.fg = false ∧ ∀ i, T.lamN i = true → lv i + 1 ≤ T.k2
  k1 : 1 ≤ T.k2
  df : ∃ (x : Str) (gA : Addr) (pg : Arguments) (bg : List Stmt) (sg : Scope) (dV kV doc pm cdv ct oc : Value) (an od : Option Addr) (osl : Array (Option Value)) (den : Nat → List D → Option (List D)),
    T.fns[T.fg]? = some (x, 1) ∧ mg x = some (.ref gA) ∧ PySem.W.keepIn K (.ref gA) = true ∧ K.lookup gA = some ⟨oc, od, .func (PySem.W.fnOf x x pg bg sg dV kV doc pm an cdv ct), osl⟩ ∧ PySem.W.codeIn K cdv x = true ∧
    L2.Binds K (PySem.W.fnOf x x pg bg sg dV kV doc pm an cdv ct) ["call"] [] ∧ FnScope fN ["call"] sg ∧ Vis sg "call" ∧ (∀ X : Cx, X.prog = P → X.w = w → X.K = K → X.mg = mg → X.base = base → Room 3 X.A → ∀ q, LamX.GivesTo X fN x sg gA cdv bg "call" q (TFault G T.excs den)) ∧
    ∀ c fs d, T.fl c fs = some d → ∃ j, c = xc j ∧ j < T.excs.length ∧ faultD den j fs = some d
/-- a def's own code object and table -/
def LamAt (base : Heap) (mg : Str → Option Value) (G : Ad) (qual : Str) (cd : Value) : Prop :=
  ∃ c P, cd = .ref c ∧ LamX.TabB base mg c P ∧ (P, (qual ++ ".<locals>.") ++ "<lambda>") ∈ G.tabs ∧ ∀ p ∈ G.tabs, p.1 = P → p.2 = (qual ++ ".<locals>.") ++ "<lambda>"
/-- what the module's names stand for -/
structure Glob (P : Program) (w : World) (K : PySem.W.Frag) (mg : Str → Option Value) (base : Heap) (T : Tab) (S : Sem0) (G : Ad) (lv : Nat → Nat) (n nc : Nat → Bool) (kk : Nat) : Prop where
  con : ∀ i x v, T.cons[i]? = some (x, v) → S.con i = some v ∧ ∃ t, mg x = some (.int v t)
  fns : ∀ i x m, n i = true → T.fns[i]? = some (x, m) → ∃ fd ps, FnOk P w K mg base (L2.CX P w) (lv i) (G.fad i) fd ps (spOf G m (S.den i)) ∧ (x ≠ ("" : Str) → mg x = some (.ref (G.fad i)) ∧ PySem.W.keepIn K (.ref (G.fad i)) = true) ∧ Binds K fd ps []
  free : ∀ x ∈ bltN, mg x = none
  hnc : G.nc = T.clss.length
  att : S.att = G.att
  clsF : ClsF K G
  clsM : ∀ c x m at_, T.clss[c]? = some (x, m, at_) → mg x = some (.ref (G.cls c))
  mks : ∀ c x m at_, nc c = true → T.clss[c]? = some (x, m, at_) → ∃ f fd ps, FnOk P w K mg base (L2.CX P w) (T.ilv c) f fd ps (spIni G c m (S.ini c)) ∧ Mk K (G.cls c) f ∧ Binds K fd ps [] ∧ T.ilv c + 1 ≤ kk
  eqs : ∀ c k, (c, k) ∈ T.eqs → n k = true → c < G.nc ∧ ∃ f fd ps, FnOk P w K mg base (L2.CX P w) (lv k) f fd ps (spOf G 2 (S.den k)) ∧ Binds K fd ps [] ∧ lv k + 1 ≤ kk ∧
    PySem.W.findIn K (.ref (G.cls c)) "__ne__" = some (some (.builtin "object.__ne__")) ∧ PySem.W.findIn K (.ref (G.cls c)) "__eq__" = some (some (.ref f)) ∧ PySem.W.isFn K (.ref f) = true
  room : ∀ i, n i = true → lv i ≤ kk
  exc : ∀ j x at_, T.excs[j]? = some (x, at_) → nc (xc j) = true → mg x = some (.ref (G.cls (xc j))) ∧ G.att (xc j) = at_ ∧ ExcF P w K mg base (G.cls (xc j)) at_ ∧ 2 ≤ kk
  flt : n T.fg = true → FltG P w K mg base T G lv ∧ S.flt = T.fl ∧ T.k2 + 2 ≤ kk
theorem Glob.mono {P : Program} {w : World} {K : PySem.W.Frag} {mg : Str → Option Value} {base : Heap} {T : Tab} {S : Sem0} {G : Ad} {lv : Nat → Nat} {n nc : Nat → Bool} {kk k2 : Nat} (g : Glob P w K mg base T S G lv n nc kk) (h : kk ≤ k2) : Glob P w K mg base T S G lv n nc k2 :=
  { g with
    mks := fun c x m at_ h1 h2 => let ⟨f, fd, ps, a, b, c, d⟩ := g.mks c x m at_ h1 h2; ⟨f, fd, ps, a, b, c, Nat.le_trans d h⟩
    eqs := fun c k h1 h2 => let ⟨a, f, fd, ps, b, c, d, e⟩ := g.eqs c k h1 h2; ⟨a, f, fd, ps, b, c, Nat.le_trans d h, e⟩
    room := fun i hi => Nat.le_trans (g.room i hi) h
    exc := fun j x at_ h1 h2 => let ⟨a, b, c, d⟩ := g.exc j x at_ h1 h2; ⟨a, b, c, Nat.le_trans d h⟩
    flt := fun h1 => let ⟨a, b, c⟩ := g.flt h1; ⟨a, b, Nat.le_trans c h⟩ }
section
variable {P : Program} {w : World} {K : PySem.W.Frag} {mg : Str → Option Value} {base : Heap} {T : Tab} {S : Sem0} {G : Ad} {lv : Nat → Nat} {n nc : Nat → Bool} {kk : Nat}
theorem Glob.ctx (g : Glob P w K mg base T S G lv n nc kk) {N : List Str} (nd : N.Nodup) {qual : Str} {scope : Scope} {f : Addr} {cd : Value} {A : Around} {outer : List Env} {s : Shared} {H : Hp} {E : XK}
    (hr : Room kk (A.deeper (envOfC qual scope s.heap.objs.size f cd))) (hlam : n T.fg = true → LamAt base mg G qual cd) : Ctx T S G lv n nc N scope scope E (cxOf (L2.CX P w) P w K mg base N qual scope f cd A outer s H E) where
  hN := rfl
  nd := nd
  hsc := rfl
  loc := fun x h => by
    refine ⟨?_, .inl rfl⟩
    unfold locB at h
    show L2.Loc scope x
    unfold L2.Loc
    cases q : scope.names.lookup x with
    | none => rw [q] at h; cases h
    | some k => rw [q] at h; cases k <;> first | exact .inl rfl | exact .inr rfl | cases h
  calm := rfl
  units := by have := hr.un; exact (show (A.deeper (envOfC qual scope s.heap.objs.size f cd)).units + 64 < cLine by omega)
  room := fun i hi => hr.mono (g.room i hi)
  con := g.con
  fns := g.fns
  free := g.free
  hnc := g.hnc
  att := g.att
  clsF := g.clsF
  clsM := g.clsM
  mks := fun c x m at_ h1 h2 => let ⟨f, fd, ps, a, b, c, d⟩ := g.mks c x m at_ h1 h2; ⟨f, fd, ps, a, b, c, hr.mono d⟩
  eqs := fun c k h1 h2 => let ⟨a, f, fd, ps, b, c, d, e⟩ := g.eqs c k h1 h2; ⟨a, f, fd, ps, b, c, hr.mono d, e⟩
  exc := fun j x at_ h1 h2 => let ⟨a, b, c, d⟩ := g.exc j x at_ h1 h2; ⟨a, b, c, hr.mono d⟩
  flt := fun h1 => by
    obtain ⟨a, b, c⟩ := g.flt h1
    obtain ⟨x, gA, pg, bg, sg, dV, kV, doc, pm, cdv, ct, oc, an, od, osl, den, d1, d2, d3, d4, d5, d6, d7, d8, d9, d10⟩ := a.df
    have := a.k1
    refine ⟨a.lam, hr.mono c, hlam h1, x, gA, pg, bg, sg, dV, kV, doc, pm, cdv, ct, oc, an, od, osl, den, d1, d2, d3, d4, d5, d6, d7, d8, fun q => d9 _ rfl rfl rfl rfl rfl (hr.mono (by omega)) q, fun c fs d e => d10 c fs d (by rw [← b]; exact e)⟩
  pass := passes_call (X := cxOf (L2.CX P w) P w K mg base N qual scope f cd A outer s H E) (takes_of rfl rfl rfl rfl) (fun _ _ _ _ h => h)
/-- the scope of a plain def -/
def scB (N : List Str) (m : Nat) (sc : Scope) : Bool := decide (sc.kind = .function) && !sc.isCoroutine && !sc.isGenerator && decide N.Nodup && decide (m ≤ N.length) && (N.take m).all (locB sc) && sc.names.all (fun y => decide (y.2 ≠ .free))
theorem scB_ok {N : List Str} {m : Nat} {sc : Scope} (h : scB N m sc = true) : FnScope N (N.take m) sc ∧ N.Nodup ∧ m ≤ N.length := by
  unfold scB at h
  simp only [Bool.and_eq_true, decide_eq_true_eq, Bool.not_eq_true', List.all_eq_true] at h
  obtain ⟨⟨⟨⟨⟨⟨h1, h2⟩, h3⟩, h4⟩, h5⟩, h6⟩, h7⟩ := h
  refine ⟨⟨h1, h2, h3, h4, ?_, fun x hx => ?_, h7⟩, h4, h5⟩
  · rw [List.length_take, Nat.min_eq_left h5]
  · have z := h6 x hx
    unfold locB at z
    cases q : sc.names.lookup x with
    | none => rw [q] at z; cases z
    | some k => rw [q] at z; cases k <;> first | exact .inl rfl | exact .inr rfl | cases z
theorem reps_get {pn : PN} {F : Hp} : ∀ {vs : List V} {ds : List D}, Reps G pn F vs ds → ∀ (i : Nat) d, ds[i]? = some d → ∃ v, vs[i]? = some v ∧ Rep G pn F v d
  | _, _, .nil, i, d, h => by simp at h
  | _, _, .cons r t, 0, d, h => by simp at h; subst h; exact ⟨_, rfl, r⟩
  | _, _, .cons r t, i + 1, d, h => by simpa using reps_get t i d (by simpa using h)
/-- the slots at the start -/
theorem start_dat {pn : PN} {F : Hp} {N : List Str} {vs : List V} {ds : List D} (r : Reps G pn F vs ds) {i : Nat} {d : D} (h : (ds.map Sl.d ++ List.replicate (N.length - ds.length) Sl.u)[i]? = some (.d d)) : ∃ v, (L2.start N vs)[i]? = some (some v) ∧ Rep G pn F v d := by
  by_cases hi : i < ds.length
  · rw [List.getElem?_append_left (by simpa using hi), List.getElem?_map] at h
    cases q : ds[i]? with
    | none => rw [q] at h; cases h
    | some e =>
      rw [q] at h
      cases h
      obtain ⟨v, hv, rv⟩ := reps_get r i _ q
      refine ⟨v, ?_, rv⟩
      unfold L2.start
      rw [List.getElem?_append_left (by rw [List.length_map]; exact (List.getElem?_eq_some_iff.mp hv).1), List.getElem?_map, hv]
      rfl
  · rw [List.getElem?_append_right (by simpa using hi), List.getElem?_replicate] at h
    split at h <;> cases h
theorem start_no {α : Type} {ds : List D} {k i : Nat} {x : Sl} (h : (ds.map Sl.d ++ List.replicate k Sl.u)[i]? = some x) : x = .u ∨ ∃ d, x = .d d := by
  have hm := List.mem_of_getElem? h
  rcases List.mem_append.mp hm with z | z
  · obtain ⟨d, _, rfl⟩ := List.mem_map.mp z; exact .inr ⟨d, rfl⟩
  · exact .inl (List.eq_of_mem_replicate z)
theorem Since.stepI {pn : PN} {p : PenS} {F H F' H' : Hp} (s : Since (IsPen pn) F H F' H') (ok : FOk G F' H' pn p) : Step G pn p F H F' H' := ⟨s.keep, s.there, s.same, s.new, ok⟩
/-- the def's code object -/
def CodeAt (K : PySem.W.Frag) (f : Addr) (cdv : Value) : Prop := ∃ oc od fd osl q, K.lookup f = some ⟨oc, od, .func fd, osl⟩ ∧ fd.code = cdv ∧ PySem.W.codeIn K cdv q = true
/-- A DEF keeps its meaning's promise -/
theorem fn_ok (g : Glob P w K mg base T S G lv n nc kk) {x qual : Str} {params : Arguments} {body : List Stmt} {scope : Scope} {f : Addr} {fd : FuncData} (F : FunD K x qual params body scope [] [] f fd)
    {N : List Str} {m : Nat} {ir : ISs} (hs : scB N m scope = true) (hm : mSs T n nc N scope ir body = true) (hlam : n T.fg = true → ∀ cdv, CodeAt K f cdv → LamAt base mg G qual cdv) : FnOk P w K mg base (L2.CX P w) (kk + 1) f fd (N.take m) (spOf G m (evFn S N.length ir)) := by
  obtain ⟨S0, nd, hl⟩ := scB_ok hs
  have hlt : (N.take m).length = m := by rw [List.length_take, Nat.min_eq_left hl]
  obtain ⟨oc, od, dV, kV, doc, pm, an, cdv, ct, osl, rfl, lk, hcd, _, _⟩ := F.ex
  refine L2.fn_of lk hcd S0 (fun vs H Q E h => by rw [hlt]; exact h.1) (fun A outer s H vs Q E hr h => ?_)
  have C := g.ctx (E := E) nd (qual := qual) (scope := scope) (f := f) (cd := cdv) (outer := outer) (s := s) (H := H) hr (fun z => hlam z cdv ⟨_, _, _, _, _, lk, rfl, hcd⟩)
  refine ⟨_, soundSs ir C ⟨passes_of rfl, takes_of rfl rfl rfl rfl⟩ body hm, ?_⟩
  obtain ⟨hvl, F, pn, p, ds, fk, rs, o⟩ := h
  have hdl : ds.length = m := by rw [← rs.length, hvl]
  refine ⟨IsPen pn, F, H, pn, ds.map Sl.d ++ List.replicate (N.length - ds.length) .u, F, p, ?_, ?_⟩
  · exact {
      len := by unfold L2.start; simp only [List.length_append, List.length_map, List.length_replicate]; rw [hvl, hdl]
      dat := fun i d e => start_dat rs e
      own := fun i xs e => by rcases start_no (α := Nat) e with z | ⟨d, z⟩ <;> cases z
      inj := fun i j xs ys a e => by rcases start_no (α := Nat) e with z | ⟨d, z⟩ <;> cases z
      mak := fun i c fs e => by rcases start_no (α := Nat) e with z | ⟨d, z⟩ <;> cases z
      one := fun i j c fs c' fs' e => by rcases start_no (α := Nat) e with z | ⟨d, z⟩ <;> cases z
      since := ⟨fun _ _ _ _ e => e, fun _ e => e, Same.refl F, fun _ e => .inl e⟩
      ok := fk
      mp := fun _ h => h }
  · unfold evFn at o
    cases q : evSs S ir (ds.map Sl.d ++ List.replicate (N.length - ds.length) .u) p with
    | stuck => rw [q] at o; exact o.elim
    | err c fs p' => rw [q] at o; exact fun F' H' dx t ok xa => o F' H' dx (t.stepI ok) xa
    | ok a p' =>
      rw [q] at o
      obtain ⟨fl, ρ'⟩ := a
      cases fl with
      | nx => exact fun σ' H' F' s => o .non F' H' (s.since.stepI s.ok) .non
      | bk => exact o.elim
      | ct => exact o.elim
      | rt d => exact fun v H' F' t ok rv => o v F' H' (t.stepI ok) rv
/-- AN __init__ keeps its promise -/
theorem ini_ok (g : Glob P w K mg base T S G lv n nc kk) {x qual : Str} {params : Arguments} {body : List Stmt} {scope : Scope} {f : Addr} {fd : FuncData} (F : FunD K x qual params body scope [] [] f fd)
    {N : List Str} {c m : Nat} {ir : ISs} (hc : c < G.nc) (hs : scB N (m + 1) scope = true) (hm : mSs T n nc N scope ir body = true) (hlam : n T.fg = false) : FnOk P w K mg base (L2.CX P w) (kk + 1) f fd (N.take (m + 1)) (spIni G c m (evIni S N.length c ir)) := by
  obtain ⟨S0, nd, hl⟩ := scB_ok hs
  have hlt : (N.take (m + 1)).length = m + 1 := by rw [List.length_take, Nat.min_eq_left hl]
  obtain ⟨oc, od, dV, kV, doc, pm, an, cdv, ct, osl, rfl, lk, hcd, _, _⟩ := F.ex
  refine L2.fn_of lk hcd S0 (fun vs H Q E h => by rw [hlt]; exact h.1) (fun A outer s H vs Q E hr h => ?_)
  have C := g.ctx (E := E) nd (qual := qual) (scope := scope) (f := f) (cd := cdv) (outer := outer) (s := s) (H := H) hr (fun z => by rw [hlam] at z; cases z)
  refine ⟨_, soundSs ir C ⟨passes_of rfl, takes_of rfl rfl rfl rfl⟩ body hm, ?_⟩
  obtain ⟨hvl, y, dx, args, rfl, hy, F, pn, p, ds, fk, hFy, rs, o⟩ := h
  have hal : args.length = m := by simpa using hvl
  have hdl : ds.length = m := by rw [← rs.length, hal]
  have hnp : ¬ IsPen pn y := fun q => by
    obtain ⟨kvs, e⟩ := fk.penK q
    rw [hy] at e; cases e
  have hst : ∀ i, (L2.start N (.ref y :: args))[i + 1]? = (args.map some ++ List.replicate (N.length - 1 - args.length) none)[i]? := fun i => by
    unfold L2.start
    simp only [List.map_cons, List.cons_append, List.length_cons, List.getElem?_cons_succ]
    rw [show N.length - (args.length + 1) = N.length - 1 - args.length from by omega]
  refine ⟨fun a => IsPen pn a ∨ a = y, F, H, pn, .w c [] :: (ds.map Sl.d ++ List.replicate (N.length - 1 - ds.length) .u), F, p, ?_, ?_⟩
  · exact {
      len := by unfold L2.start; simp only [List.length_append, List.length_map, List.length_replicate, List.length_cons]; omega
      dat := fun i d e => by
        cases i with
        | zero => cases e
        | succ i =>
          rw [List.getElem?_cons_succ] at e
          have z := start_dat (G := G) (N := List.replicate (N.length - 1) ("" : Str)) rs (by rw [List.length_replicate]; exact e)
          obtain ⟨v, hv, rv⟩ := z
          refine ⟨v, ?_, rv⟩
          rw [hst i]
          unfold L2.start at hv
          rw [List.length_replicate] at hv
          exact hv
      own := fun i xs e => by
        cases i with
        | zero => cases e
        | succ i => rw [List.getElem?_cons_succ] at e; rcases start_no (α := Nat) e with z | ⟨d, z⟩ <;> cases z
      inj := fun i j xs ys a e => by
        cases i with
        | zero => cases e
        | succ i => rw [List.getElem?_cons_succ] at e; rcases start_no (α := Nat) e with z | ⟨d, z⟩ <;> cases z
      mak := fun i c' fs e => by
        cases i with
        | zero =>
          cases e
          exact ⟨y, dx, [], rfl, by simpa using hy, rfl, Nat.zero_le _, .nil, hFy, .inr rfl, hc⟩
        | succ i => rw [List.getElem?_cons_succ] at e; rcases start_no (α := Nat) e with z | ⟨d, z⟩ <;> cases z
      one := fun i j c1 f1 c2 f2 e1 e2 => by
        cases i with
        | zero =>
          cases j with
          | zero => rfl
          | succ j => rw [List.getElem?_cons_succ] at e2; rcases start_no (α := Nat) e2 with z | ⟨d, z⟩ <;> cases z
        | succ i => rw [List.getElem?_cons_succ] at e1; rcases start_no (α := Nat) e1 with z | ⟨d, z⟩ <;> cases z
      since := ⟨fun _ _ _ _ e => e, fun _ e => e, Same.refl F, fun _ e => .inl e⟩
      ok := fk
      mp := fun _ h => .inl h }
  · unfold evIni at o
    cases q : evSs S ir (.w c [] :: (ds.map Sl.d ++ List.replicate (N.length - 1 - ds.length) .u)) p with
    | stuck => rw [q] at o; exact o.elim
    | err k fs p' =>
      rw [q] at o
      exact fun F' H' dx t ok xa => o F' H' dx (fun a u na q hne e => t.keep a u (fun z => z.elim na hne) q e) t.there t.same t.new ok xa
    | ok a p' =>
      rw [q] at o
      obtain ⟨fl, ρ'⟩ := a
      simp only [R.bind_ok] at o
      cases fl with
      | nx =>
        cases q2 : ρ'[0]? with
        | none => rw [q2] at o; exact o.elim
        | some z =>
          cases z with
          | w c' fs =>
            rw [q2] at o
            by_cases hcf : c' = c ∧ fs.length = (S.att c).length
            · simp only [if_pos hcf] at o
              obtain ⟨rfl, hfl⟩ := hcf
              rw [g.att] at hfl
              intro σ' H' F' s'
              obtain ⟨a, dx', vs', w1, w2, w3, w4, w5, w6, w7, w8⟩ := s'.mak 0 c' fs q2
              have hay : a = y := w7.elim (fun z => absurd z (s'.ins_np w2)) id
              subst hay
              have htk : (G.att c').take fs.length = G.att c' := by rw [hfl, List.take_length]
              rw [htk] at w2
              exact o F' H' vs' dx' (fun a u na q hne e => s'.since.keep a u (fun z => z.elim na hne) q e) s'.since.there s'.since.same s'.since.new s'.ok w6 w2 (by rw [w3, hfl]) w5
            · simp only [if_neg hcf] at o
          | _ => rw [q2] at o; exact o.elim
      | bk => exact o.elim
      | ct => exact o.elim
      | rt d => exact o.elim
end
end Mi

set_option Elab.async false
set_option linter.all false
set_option maxRecDepth 100000
set_option maxHeartbeats 4000000
namespace Mi
open PySem PySem.Spec PyProof.Rows L2
/-! ### the defs of a law, one after another -/
noncomputable def stuckD : Den := fun _ _ => .stuck
abbrev Ini := List D → PenS → R (List D)
noncomputable def mkS (T : Tab) (att : Nat → List Str) (L : List Den) (I : List Ini) : Sem0 where
  con := fun k => (T.cons[k]?).map (·.2)
  flt := T.fl
  den := fun k => L.getD k stuckD
  ini := fun c => I.getD c fun _ _ => .stuck
  att := att
/-- x: left out -/
def nOf (lv : Nat → Nat) (m kk x : Nat) : Nat → Bool := fun i => decide (i < m) && decide (lv i + 1 ≤ kk) && decide (i ≠ x)
def cOf (T : Tab) (m kk : Nat) : Nat → Bool := fun c => if c < 1000 then decide (c < m) && decide (T.ilv c + 1 ≤ kk) else decide (2 ≤ kk) && decide ((T.excs.getD (c - 1000) ("", [])).2 ≠ [])
structure LawEnv (P : Program) (w : World) (K : PySem.W.Frag) (mg : Str → Option Value) (base : Heap) (T : Tab) (G : Ad) (lv : Nat → Nat) (L : List Den) (I : List Ini) : Prop where
  con : ∀ (i : Nat) x v, T.cons[i]? = some (x, v) → ∃ t, mg x = some (.int v t)
  fns : ∀ (i : Nat) x m, i < L.length → T.fns[i]? = some (x, m) → ∃ fd ps, FnOk P w K mg base (L2.CX P w) (lv i) (G.fad i) fd ps (spOf G m (L.getD i stuckD)) ∧ (x ≠ ("" : Str) → mg x = some (.ref (G.fad i)) ∧ PySem.W.keepIn K (.ref (G.fad i)) = true) ∧ Binds K fd ps []
  free : ∀ x ∈ bltN, mg x = none
  hnc : G.nc = T.clss.length
  clsF : ClsF K G
  clsM : ∀ (c : Nat) x m at_, T.clss[c]? = some (x, m, at_) → mg x = some (.ref (G.cls c))
  mks : ∀ (c : Nat) x m at_, c < I.length → T.clss[c]? = some (x, m, at_) → ∃ f fd ps, FnOk P w K mg base (L2.CX P w) (T.ilv c) f fd ps (spIni G c m (I.getD c fun _ _ => .stuck)) ∧ Mk K (G.cls c) f ∧ Binds K fd ps []
  eqs : ∀ (c k : Nat), (c, k) ∈ T.eqs → c < G.nc ∧ (T.fns[k]?).map (·.2) = some 2 ∧ PySem.W.findIn K (.ref (G.cls c)) "__ne__" = some (some (.builtin "object.__ne__")) ∧ PySem.W.findIn K (.ref (G.cls c)) "__eq__" = some (some (.ref (G.fad k))) ∧ PySem.W.isFn K (.ref (G.fad k)) = true
  exc : ∀ (j : Nat) x at_, T.excs[j]? = some (x, at_) → at_ ≠ [] → mg x = some (.ref (G.cls (xc j))) ∧ G.att (xc j) = at_ ∧ ExcF P w K mg base (G.cls (xc j)) at_
  flt : T.fg < L.length → FltG P w K mg base T G lv
  fgl : T.fg < L.length → lv T.fg = T.k2 + 2
  cln : T.clss.length ≤ 900
section
variable {P : Program} {w : World} {K : PySem.W.Frag} {mg : Str → Option Value} {base : Heap} {T : Tab} {G : Ad} {lv : Nat → Nat} {L : List Den} {I : List Ini}
theorem LawEnv.glob (e : LawEnv P w K mg base T G lv L I) (kk x : Nat) : Glob P w K mg base T (mkS T G.att L I) G lv (nOf lv L.length kk x) (cOf T I.length kk) kk where
  con := fun i x v h => ⟨by show (T.cons[i]?).map (·.2) = some v; rw [h]; rfl, e.con i x v h⟩
  fns := fun i x m hi h => e.fns i x m (by unfold nOf at hi; simp only [Bool.and_eq_true, decide_eq_true_eq] at hi; exact hi.1.1) h
  free := e.free
  hnc := e.hnc
  att := rfl
  clsF := e.clsF
  clsM := e.clsM
  mks := fun c x m at_ hc h => by
    unfold cOf at hc
    have hcl : c < T.clss.length := (List.getElem?_eq_some_iff.mp h).1
    split at hc
    · simp only [Bool.and_eq_true, decide_eq_true_eq] at hc
      obtain ⟨f, fd, ps, a, b, d⟩ := e.mks c x m at_ hc.1 h
      exact ⟨f, fd, ps, a, b, d, hc.2⟩
    · have := e.cln; omega
  eqs := fun c k h hk => by
    unfold nOf at hk
    simp only [Bool.and_eq_true, decide_eq_true_eq] at hk
    obtain ⟨h1, h2, h3, h4, h5⟩ := e.eqs c k h
    cases q : T.fns[k]? with
    | none => rw [q] at h2; cases h2
    | some z =>
      obtain ⟨x, m⟩ := z
      rw [q] at h2
      cases h2
      obtain ⟨fd, ps, a, b, d⟩ := e.fns k x 2 hk.1.1 q
      exact ⟨h1, G.fad k, fd, ps, a, d, hk.1.2, h3, h4, h5⟩
  room := fun i hi => by unfold nOf at hi; simp only [Bool.and_eq_true, decide_eq_true_eq] at hi; omega
  exc := fun j x at_ h hc => by
    unfold cOf at hc
    rw [if_neg (by unfold xc; omega)] at hc
    simp only [Bool.and_eq_true, decide_eq_true_eq] at hc
    have e1 : T.excs.getD (xc j - 1000) ("", []) = (x, at_) := by
      have : xc j - 1000 = j := by unfold xc; omega
      rw [this, List.getD_eq_getElem?_getD, h]; rfl
    rw [e1] at hc
    obtain ⟨a, b, d⟩ := e.exc j x at_ h hc.2
    exact ⟨a, b, d, hc.1⟩
  flt := fun h => by
    unfold nOf at h
    simp only [Bool.and_eq_true, decide_eq_true_eq] at h
    have := e.fgl h.1.1
    exact ⟨e.flt h.1.1, rfl, by omega⟩
theorem getD_snoc {α : Type} {l : List α} {a d : α} {i : Nat} (h : i < (l ++ [a]).length) : (i < l.length ∧ (l ++ [a]).getD i d = l.getD i d) ∨ (i = l.length ∧ (l ++ [a]).getD i d = a) := by
  rw [List.length_append, List.length_singleton] at h
  by_cases hi : i < l.length
  · refine .inl ⟨hi, ?_⟩
    rw [List.getD_eq_getElem?_getD, List.getD_eq_getElem?_getD, List.getElem?_append_left hi]
  · have e : i = l.length := by omega
    subst e
    refine .inr ⟨rfl, ?_⟩
    rw [List.getD_eq_getElem?_getD, List.getElem?_append_right (Nat.le_refl _)]
    simp
/-- one more def that is called by its number -/
theorem LawEnv.add (e : LawEnv P w K mg base T G lv L I) {x : Str} {m : Nat} {dn : Den} {fd : FuncData} {ps : List Str} (hT : T.fns[L.length]? = some (x, m))
    (F : FnOk P w K mg base (L2.CX P w) (lv L.length) (G.fad L.length) fd ps (spOf G m dn)) (hg : x ≠ ("" : Str) → mg x = some (.ref (G.fad L.length)) ∧ PySem.W.keepIn K (.ref (G.fad L.length)) = true) (hb : Binds K fd ps []) (hfl : T.fg = L.length → FltG P w K mg base T G lv ∧ lv T.fg = T.k2 + 2) :
    LawEnv P w K mg base T G lv (L ++ [dn]) I :=
  { e with
    flt := fun h => by
      rw [List.length_append, List.length_singleton] at h
      by_cases hh : T.fg < L.length
      · exact e.flt hh
      · exact (hfl (by omega)).1
    fgl := fun h => by
      rw [List.length_append, List.length_singleton] at h
      by_cases hh : T.fg < L.length
      · exact e.fgl hh
      · exact (hfl (by omega)).2
    fns := fun i x' m' hi h => by
      rcases getD_snoc (d := stuckD) hi with ⟨h1, h2⟩ | ⟨rfl, h2⟩
      · rw [h2]; exact e.fns i x' m' h1 h
      · rw [h2]
        rw [hT] at h
        cases h
        exact ⟨fd, ps, F, hg, hb⟩ }
theorem LawEnv.fn (e : LawEnv P w K mg base T G lv L I) {x nm qual : Str} {params : Arguments} {body : List Stmt} {scope : Scope} {fd : FuncData} {N : List Str} {m : Nat} (ir : ISs) (kk lx : Nat) (F : FunD K nm qual params body scope [] [] (G.fad L.length) fd)
    (hT : T.fns[L.length]? = some (x, m)) (hlv : lv L.length = kk + 1) (hs : scB N m scope = true) (hm : mSs T (nOf lv L.length kk lx) (cOf T I.length kk) N scope ir body = true) (hg : x ≠ ("" : Str) → mg x = some (.ref (G.fad L.length))) (hb : Binds K fd (N.take m) []) (hfg : L.length ≠ T.fg) (hlam : lx ≠ T.fg → ∀ cdv, CodeAt K (G.fad L.length) cdv → LamAt base mg G qual cdv) :
    LawEnv P w K mg base T G lv (L ++ [evFn (mkS T G.att L I) N.length ir]) I :=
  e.add hT (by rw [hlv]; exact fn_ok (e.glob kk lx) F hs hm (fun z => hlam (fun y => by unfold nOf at z; simp [y] at z))) (fun h => ⟨hg h, F.kp⟩) hb (fun z => absurd z.symm hfg)
/-- one that is never called so deep -/
theorem LawEnv.nev (e : LawEnv P w K mg base T G lv L I) {x nm qual : Str} {params : Arguments} {body : List Stmt} {scope : Scope} {fd : FuncData} {N : List Str} {m : Nat} (F : FunD K nm qual params body scope [] [] (G.fad L.length) fd)
    (hT : T.fns[L.length]? = some (x, m)) (hl : (N.take m).length = m) (hg : x ≠ ("" : Str) → mg x = some (.ref (G.fad L.length))) (hb : Binds K fd (N.take m) []) (hfl : T.fg = L.length → FltG P w K mg base T G lv ∧ lv T.fg = T.k2 + 2) :
    LawEnv P w K mg base T G lv (L ++ [stuckD]) I :=
  e.add hT ⟨fun vs H Q E h => by rw [hl]; exact h.1, fun A outer s H args us vs Q E hr e0 hb hv h => by obtain ⟨_, F, pn, p, ds, _, _, o⟩ := h; exact o.elim⟩ (fun h => ⟨hg h, F.kp⟩) hb hfl
theorem LawEnv.ini (e : LawEnv P w K mg base T G lv L I) {nm qual : Str} {params : Arguments} {body : List Stmt} {scope : Scope} {f : Addr} {fd : FuncData} {N : List Str} {m : Nat} {x : Str} {at_ : List Str} (ir : ISs) (kk : Nat) (F : FunD K nm qual params body scope [] [] f fd)
    (hT : T.clss[I.length]? = some (x, m, at_)) (hlv : T.ilv I.length = kk + 1) (hs : scB N (m + 1) scope = true) (hm : mSs T (nOf lv L.length kk T.fg) (cOf T I.length kk) N scope ir body = true) (hM : Mk K (G.cls I.length) f) (hb : Binds K fd (N.take (m + 1)) []) :
    LawEnv P w K mg base T G lv L (I ++ [evIni (mkS T G.att L I) N.length I.length ir]) :=
  { e with
    mks := fun c x' m' at' hc h => by
      rcases getD_snoc (d := fun _ _ => .stuck) hc with ⟨h1, h2⟩ | ⟨rfl, h2⟩
      · rw [h2]; exact e.mks c x' m' at' h1 h
      · rw [h2]
        rw [hT] at h
        cases h
        have hcn : I.length < G.nc := by rw [e.hnc]; exact (List.getElem?_eq_some_iff.mp hT).1
        exact ⟨f, fd, N.take (m + 1), by rw [hlv]; exact ini_ok (e.glob kk T.fg) F hcn hs hm (by unfold nOf; simp), hM, hb⟩ }
end
/-! ### the pen of a law -/
def foldOf (ns : List Int) : Int := ns.foldl (fun f c => (f * 47 + c).fmod 1000000007) 0
def pen0 (ns : List Int) : Pen := { cells := ns, at_ := 0, digits := 0, count := 0, fold := foldOf ns }
theorem foldOf_bd (ns : List Int) : 0 ≤ foldOf ns ∧ foldOf ns < 1000000007 := by
  unfold foldOf
  have h : ∀ (ns : List Int) (f : Int), 0 ≤ f → f < 1000000007 → 0 ≤ ns.foldl (fun f c => (f * 47 + c).fmod 1000000007) f ∧ ns.foldl (fun f c => (f * 47 + c).fmod 1000000007) f < 1000000007 := by
    intro ns
    induction ns with
    | nil => exact fun f h1 h2 => ⟨h1, h2⟩
    | cons c ns ih => exact fun f h1 h2 => ih _ (Int.fmod_nonneg_of_pos _ (by decide)) (Int.fmod_lt_of_pos _ (by decide))
  exact h ns 0 (by decide) (by decide)
def penE : IE := .bin .mod (.blt .int (.cons (.bin .add (.bin .mul (.var 1) (.int 47)) (.var 2)) .nil)) (.int 1000000007)
def penN : List Str := ["script", "fold", "cell"]
def isNm (x : Str) : Expr → Bool
  | .Name y _ => decide (y = x)
  | _ => false
def isI0 : Expr → Bool
  | .Constant (.int i) _ _ => decide (i = 0)
  | _ => false
def isS (x : Str) : Option Expr → Bool
  | some (.Constant (.str y) _ _) => decide (y = x)
  | _ => false
def isLs : Expr → Bool
  | .Call (.Name f _) [.Name x _] [] _ => decide (f = ("list" : Str)) && decide (x = ("script" : Str))
  | _ => false
def mPen (T : Tab) (sc : Scope) : List Stmt → Bool
  | [.Assign [.Name a1 _] c1 _, .For (.Name a2 _) (.Name a3 _) [.Assign [.Name a4 _] e _] [] _, .Return (some (.Dict [k1, k2, k3, k4, k5] [v1, v2, v3, v4, v5] _)) _] =>
    decide (a1 = ("fold" : Str)) && decide (a2 = ("cell" : Str)) && decide (a3 = ("script" : Str)) && decide (a4 = ("fold" : Str)) && isI0 c1 && mE T (fun _ => false) (fun _ => false) penN sc penE e && ncomp e
    && isS "cells" k1 && isS "at" k2 && isS "digits" k3 && isS "count" k4 && isS "fold" k5 && isLs v1 && isI0 v2 && isI0 v3 && isI0 v4 && isNm "fold" v5
    && scB penN 1 sc && locB sc "script" && locB sc "fold" && locB sc "cell" && gloB sc "list"
  | _ => false
def spPen (K : PySem.W.Frag) (G : Ad) : Sp := fun vs H Q _ => ∃ (a : Addr) (ns : List Int), vs = [.ref a] ∧ SqL K H a (ns.map V.int) ∧ LamX.Tabs G.tabs H ∧ ∀ pa ca H', pa ≠ ca → H' pa = some (.dK (penK ca (pen0 ns))) → H' ca = some (.lst (ns.map V.int)) → LamX.Tabs G.tabs H' → Q (.ref pa) H'
theorem pe_i0 {X : Cx} {e : Expr} (h : isI0 e = true) : PE X e (tC (.int 0)) := by
  unfold isI0 at h
  split at h
  · cases of_decide_eq_true h; exact pe_int
  · cases h
theorem evPen {S : Sem0} {d : Option D} {f c : Int} {p : PenS} (h1 : 0 ≤ f) (h2 : f < 1000000007) : evE S penE [d, some (.int f), some (.int c)] p = .ok (.int ((f * 47 + c).fmod 1000000007)) p := by
  have hm : mulOk f 47 := by
    unfold mulOk CMul
    left
    omega
  simp [penE, evE, evEs, bin, bfn, hm]
end Mi

set_option Elab.async false
set_option linter.all false
set_option maxRecDepth 100000
set_option maxHeartbeats 4000000
namespace Mi
open PySem PySem.Spec PyProof.Rows L2
section
variable {P : Program} {w : World} {K : PySem.W.Frag} {mg : Str → Option Value} {base : Heap} {T : Tab} {G : Ad} {lv : Nat → Nat} {L : List Den} {I : List Ini}
theorem foldOf_snoc (ns : List Int) (i : Nat) (c : Int) (h : ns[i]? = some c) : foldOf (ns.take (i + 1)) = (foldOf (ns.take i) * 47 + c).fmod 1000000007 := by
  have e : ns.take (i + 1) = ns.take i ++ [c] := by
    rw [List.take_add_one, h]; rfl
  rw [e]
  unfold foldOf
  rw [List.foldl_append]
  rfl
theorem pe_nm {X : Cx} {N : List Str} {sc : Scope} {e : Expr} {x : Str} {i : Nat} (hN : X.N = N) (hs : X.env.scope = sc) (h : isNm x e = true) (hi : N[i]? = some x) (hl : locB sc x = true) (ho : okN x = true) : PE X e (tVar i) := by
  unfold isNm at h
  split at h
  · cases of_decide_eq_true h
    refine pe_var (by rw [hN]; exact hi) ?_ (okN1 ho) (okN2 ho)
    rw [hs]
    unfold locB at hl
    unfold Vis
    cases q : sc.names.lookup x with
    | none => rw [q] at hl; cases hl
    | some k => rw [q] at hl; cases k <;> first | exact .inl rfl | exact .inr (.inl rfl) | cases hl
  · cases h
theorem pe_s {X : Cx} {e : Option Expr} {x : Str} (h : isS x e = true) : ∃ e', e = some e' ∧ PE X e' (tC (.str x)) := by
  unfold isS at h
  split at h
  · cases of_decide_eq_true h; exact ⟨_, rfl, pe_str⟩
  · cases h
theorem merge_pen (ca : Addr) (st : Pen) : mergeK [] (penK ca st) = penK ca st := by
  have h : ∀ (a b : Str), a ≠ b → ((Sum.inr a : Key) = Sum.inr b) = False := fun a b h => by simp [h]
  rfl
theorem pen_ok (e : LawEnv P w K mg base T G lv L I) {nm qual : Str} {params : Arguments} {body : List Stmt} {scope : Scope} {f : Addr} {fd : FuncData} (F : FunD K nm qual params body scope [] [] f fd) (hck : mPen T scope body = true) :
    FnOk P w K mg base (L2.CX P w) 2 f fd ["script"] (spPen K G) := by
  unfold mPen at hck
  split at hck
  · rename_i a1 pa1 c1 ps1 a2 pa2 a3 pa3 a4 pa4 ee ps4 ps5 k1 k2 k3 k4 k5 v1 v2 v3 v4 v5 pd ps6
    simp only [Bool.and_eq_true, decide_eq_true_eq] at hck
    obtain ⟨⟨⟨⟨⟨⟨⟨⟨⟨⟨⟨⟨⟨⟨⟨⟨⟨⟨⟨⟨⟨rfl, rfl⟩, rfl⟩, rfl⟩, q5⟩, q6⟩, q7⟩, q8⟩, q9⟩, q10⟩, q11⟩, q12⟩, q13⟩, q14⟩, q15⟩, q16⟩, q17⟩, q18⟩, q19⟩, q20⟩, q21⟩, q22⟩ := hck
    obtain ⟨S0, nd, hl⟩ := scB_ok q18
    have gl := (e.glob 1 T.fg).mono (Nat.le_refl 1)
    refine F.ok (k := 1) S0 (fun vs H Q E h => by obtain ⟨a, ns, rfl, _⟩ := h; rfl) (fun cdv A outer s H vs Q E hr h => ?_)
    have C0 := gl.ctx (E := E) nd (qual := qual) (scope := scope) (f := f) (cd := cdv) (outer := outer) (s := s) (H := H) hr (fun z => by unfold nOf at z; simp at z)
    have C : Ctx T (mkS T G.att L I) G lv (fun _ => false) (fun _ => false) penN scope scope E (cxOf (L2.CX P w) P w K mg base penN qual scope f cdv A outer s H E) :=
      { C0 with
        room := fun i hi => by cases hi
        fns := fun i x m hi => by cases hi
        mks := fun c x m at_ hi => by cases hi
        eqs := fun c k _ hi => by cases hi
        exc := fun j x at_ _ hi => by cases hi
        flt := fun hi => by cases hi }
    generalize hX : cxOf (L2.CX P w) P w K mg base penN qual scope f cdv A outer s H E = X at C
    have hKX : X.K = K := by rw [← hX]; rfl
    have hp : PassesOwn (model X.prog X.w) X.A X.env X.xe := by rw [← hX]; exact passes_of rfl
    have nx : ∀ x, locB scope x = true → L2.Loc X.env.scope x ∧ (X.fn x = true ∨ X.env.scope.names.lookup x = some .local) := C.loc
    have nX : X.N.Nodup := by rw [C.hN]; exact C.nd
    have hsX : X.env.scope = scope := C.hsc
    have i0 : X.N[0]? = some ("script" : Str) := by rw [C.hN]; rfl
    have i1 : X.N[1]? = some ("fold" : Str) := by rw [C.hN]; rfl
    have i2 : X.N[2]? = some ("cell" : Str) := by rw [C.hN]; rfl
    have st1 : PS X (.Assign [.Name "fold" pa1] c1 ps1) (tAsg (tC (.int 0)) (gName 1)) := ps_set nX i1 (nx _ q20).1 (pe_i0 q5) (swp_not (by unfold isI0 at q5; split at q5; rfl; cases q5)) (nx _ q20).2
    have scr : ∀ p, PE X (.Name "script" p) (tVar 0) := fun p => pe_nm (C.hN) hsX (x := "script") (e := .Name "script" p) (by simp [isNm]) rfl q19 (by decide +kernel)
    have asg : PS X (.Assign [.Name "fold" pa4] ee ps4) (tAsg (tE G E (evE (mkS T G.att L I) penE)) (gName 1)) := ps_set nX i1 (nx _ q20).1 (soundE penE C ee q6) (swp_not q7) (nx _ q20).2
    have st2 : PS X (.For (.Name "cell" pa2) (.Name "script" pa3) [.Assign [.Name "fold" pa4] ee ps4] [] ps5) (tFor (iList X.K (tVar 0)) (gName 2) (tAsg (tE G E (evE (mkS T G.att L I) penE)) (gName 1))) :=
      ps_for hp C.calm (pi_list (scr pa3)) (pg_name nX i2 (nx _ q21).1 (nx _ q21).2) (pss_one asg) (fun z => rfl)
    obtain ⟨k1', rfl, pk1⟩ := pe_s (X := X) q8
    obtain ⟨k2', rfl, pk2⟩ := pe_s (X := X) q9
    obtain ⟨k3', rfl, pk3⟩ := pe_s (X := X) q10
    obtain ⟨k4', rfl, pk4⟩ := pe_s (X := X) q11
    obtain ⟨k5', rfl, pk5⟩ := pe_s (X := X) q12
    have ls : PE X v1 (tCB (fun xs H Q => ∃ p ys, xs = [.ref p] ∧ (SqL X.K H p ys ∨ SqT X.K H p ys) ∧ ∀ l, H l = none → Q (.ref l) (upd H l (.lst ys))) (fun σ H Q => tVar 0 σ H fun x H1 => Q [x] H1)) := by
      unfold isLs at q13
      split at q13
      · simp only [Bool.and_eq_true, decide_eq_true_eq] at q13
        obtain ⟨rfl, rfl⟩ := q13
        exact pe_callTy call_list_of (glo_of C.hsc q22) (C.free _ (bf_free .list)) (boot_bf .list) (paI (pa_cons (scr _) pa_nil rfl) fun σ H Q q => q) (bf_main .list) (by decide +kernel)
      · cases q13
    have d5 : PE X v5 (tVar 1) := pe_nm C.hN hsX q17 rfl q20 (by decide +kernel)
    have st3 := ps_ret (pos := ps6) (pe_disp (pos := pd) (pps_cons pk1 ls (pps_cons pk2 (pe_i0 q14) (pps_cons pk3 (pe_i0 q15) (pps_cons pk4 (pe_i0 q16) (pps_cons pk5 d5 pps_nil))))) rfl rfl (by simp) (by simp))
    refine ⟨_, pss_cons st1 (pss_cons st2 (pss_one st3)), ?_⟩
    obtain ⟨a, ns, rfl, hS, hTb, hQ⟩ := h
    have hst : (L2.start penN [V.ref a]) = [some (.ref a), none, none] := rfl
    rw [hst]
    show tFor (iList X.K (tVar 0)) (gName 2) (tAsg (tE G E (evE (mkS T G.att L I) penE)) (gName 1)) _ [some (.ref a), some (.int 0), none] H
    have hS' : ∀ H', (∀ b o, (∀ ps, o ≠ HO.tbl ps) → H b = some o → H' b = some o) → SqL X.K H' a (ns.map V.int) := fun H' hh => by
      rw [hKX]
      rcases hS with (z | ⟨o, z⟩) | z
      · exact .inl (.inl (hh _ _ (fun _ z => by cases z) z))
      · exact .inl (.inr ⟨o, hh _ _ (fun _ z => by cases z) z⟩)
      · exact .inr z
    refine ⟨.ref a, rfl, a, rfl, ⟨_, hS' H fun _ _ _ z => z⟩, ?_⟩
    refine for_list (fun i σ H' => ((∀ b o, (∀ ps, o ≠ HO.tbl ps) → H b = some o → H' b = some o) ∧ LamX.Tabs G.tabs H') ∧ ∃ x, σ = [some (.ref a), some (.int (foldOf (ns.take i))), x]) ⟨⟨fun _ _ _ z => z, hTb⟩, none, rfl⟩ (fun i σ H' _ q => hS' H' q.1.1) ?_ ?_
    · rintro i x σ H' hx ⟨⟨hh, hTb'⟩, y, rfl⟩
      rw [List.getElem?_map] at hx
      cases qx : ns[i]? with
      | none => rw [qx] at hx; cases hx
      | some c =>
        rw [qx] at hx
        cases hx
        show tE G E _ [some (.ref a), some (.int (foldOf (ns.take i))), some (.int c)] H' _
        obtain ⟨b1, b2⟩ := foldOf_bd (ns.take i)
        refine ⟨[none, some (.int (foldOf (ns.take i))), some (.int c)], fun _ => none, none, none, ⟨rfl, ?_⟩, ⟨fun _ _ z => (by cases z), trivial, fun _ _ z => (by cases z), hTb'⟩, ?_⟩
        · intro j d ej
          match j, ej with
          | 1, ej => cases ej; exact ⟨_, rfl, .int _⟩
          | 2, ej => cases ej; exact ⟨_, rfl, .int _⟩
        · rw [evPen b1 b2]
          intro v F' H2 st rv
          cases rv
          refine ⟨⟨fun b o q z => st.keep b o (fun ⟨_, q⟩ => by cases q) q (hh b o q z), st.ok.tabs⟩, some (.int c), ?_⟩
          rw [foldOf_snoc ns i c qx]
          rfl
    · rintro σ H' ⟨⟨hh, hTb'⟩, x, rfl⟩
      rw [List.length_map, List.take_length]
      intro pa hpa
      refine ⟨.ref a, rfl, a, ns.map V.int, rfl, .inl (hS' _ fun b o q z => by rw [upd_ne (ne_of_none (hh b o q z) hpa)]; exact hh b o q z), fun l hl => ?_⟩
      have hne : pa ≠ l := fun z => by rw [z, upd_same] at hl; cases hl
      refine ⟨.int (foldOf ns), rfl, ?_, penK l (pen0 ns), rfl, (show (penK l (pen0 ns)).length ≤ 15 by simp [penK]), ?_⟩
      · rw [upd_ne hne, upd_same]
      · rw [merge_pen]
        exact hQ pa l _ hne upd_same (by rw [upd_ne (Ne.symm hne), upd_same]) (tabs_upd (tabs_upd (tabs_upd hTb' (no_none hpa)) (no_none hl)) (fun u e => by rw [upd_ne hne, upd_same] at e; cases e; trivial))
  · cases hck
/-- THE LAW -/
def spLawM (K : PySem.W.Frag) (G : Ad) (n : Nat) : Sp := fun vs H Q _ => ∃ (a : Addr) (ns : List Int), vs = [.ref a] ∧ SqL K H a (ns.map V.int) ∧ LamX.Tabs G.tabs H ∧ ns.length ≤ n ∧ ∀ H', Q (.bl true) H'
def mLaw1 (sc : Scope) : Stmt → Bool
  | .Assign [.Name x _] (.Call (.Name f _) [.Name y _] [] _) _ => decide (x = ("pen" : Str)) && decide (f = ("_law_pen" : Str)) && decide (y = ("script" : Str)) && locB sc "pen" && locB sc "script" && gloB sc "_law_pen"
  | _ => false
theorem law_ok (e : LawEnv P w K mg base T G lv L I) {nm qual : Str} {params : Arguments} {body : List Stmt} {scope : Scope} {f fP : Addr} {fd fdP : FuncData} {nmP qP : Str} {psP : Arguments} {bP : List Stmt} {scP : Scope} {N : List Str} {ir : ISs} {s1 : Stmt} {rest : List Stmt} {kk lx : Nat}
    (hkk : 2 ≤ kk) (F : FunD K nm qual params body scope [] [] f fd) (FP : FunD K nmP qP psP bP scP [] [] fP fdP) (hbP : Binds K fdP ["script"] []) (hmP : mg ("_law_pen" : Str) = some (.ref fP)) (hP : mPen T scP bP = true) (hb : body = s1 :: rest) (h1 : mLaw1 scope s1 = true)
    (hN : N.take 2 = (["script", "pen"] : List Str)) (hs : scB N 1 scope = true) (hm : mSs T (nOf lv L.length kk lx) (cOf T I.length kk) N scope ir rest = true) {nmax : Nat}
    (sem : ∀ ns : List Int, ns.length ≤ nmax → ∃ ρ' p', evSs (mkS T G.att L I) ir (.u :: .d .pen :: List.replicate (N.length - 2) .u) (some (pen0 ns)) = .ok (.rt (.bl true), ρ') p') (hlam : lx ≠ T.fg → ∀ cdv, CodeAt K f cdv → LamAt base mg G qual cdv) :
    FnOk P w K mg base (L2.CX P w) (kk + 1) f fd ["script"] (spLawM K G nmax) := by
  obtain ⟨S0, nd, hl⟩ := scB_ok hs
  have hN2 : ∃ r, N = ("script" : Str) :: ("pen" : Str) :: r := by
    match N, hN with
    | [], h => cases h
    | [_], h => cases h
    | x :: y :: r, h => cases h; exact ⟨r, rfl⟩
  obtain ⟨r, rfl⟩ := hN2
  obtain ⟨oc, od, dV, kV, doc, pm, an, cdv, ct, osl, rfl, lk, hcd, _, _⟩ := F.ex
  refine L2.fn_of lk hcd S0 (fun vs H Q E h => by obtain ⟨a, ns, rfl, _⟩ := h; rfl) (fun A outer s H vs Q E hr h => ?_)
  have C := (e.glob kk lx).ctx (E := E) nd (qual := qual) (scope := scope) (f := f) (cd := cdv) (outer := outer) (s := s) (H := H) hr (fun z => hlam (fun y => by unfold nOf at z; simp [y] at z) cdv ⟨_, _, _, _, _, lk, rfl, hcd⟩)
  have FnP := pen_ok e FP hP
  generalize hX : cxOf (L2.CX P w) P w K mg base (("script" : Str) :: ("pen" : Str) :: r) qual scope f cdv A outer s H E = X at C
  have hp : PassesOwn (model X.prog X.w) X.A X.env X.xe := by rw [← hX]; exact passes_of rfl
  have htk : L2.Takes X (fun cls d _ H => E cls d H) := by rw [← hX]; exact takes_of rfl rfl rfl rfl
  have FnP' : FnOk X.prog X.w X.K X.mg X.base (L2.CX X.prog X.w) 2 fP fdP ["script"] (spPen X.K G) := by rw [← hX]; exact FnP
  have hkX : X.K = K := by rw [← hX]; rfl
  have hmX : X.mg = mg := by rw [← hX]; rfl
  have hrX : Room kk X.A := by rw [← hX]; exact hr
  subst hb
  unfold mLaw1 at h1
  split at h1
  · rename_i x px g pg y py pc ps
    simp only [Bool.and_eq_true, decide_eq_true_eq] at h1
    obtain ⟨⟨⟨⟨⟨rfl, rfl⟩, rfl⟩, h4⟩, h5⟩, h6⟩ := h1
    have scr : PE X (.Name "script" py) (tVar 0) := pe_nm C.hN C.hsc (x := "script") (e := .Name "script" py) (by simp [isNm]) rfl h5 (by decide +kernel)
    have call := pe_call (p := pg) (pos := pc) (E := E) FnP' (hrX.mono hkk) (glo_of C.hsc h6) (by rw [hmX]; exact hmP) (by rw [hkX]; exact FP.kp) (by rw [hkX]; exact hbP) .nil C.pass (pa_cons scr pa_nil rfl) (by decide +kernel) rfl rfl
    have st1 := ps_set (i := 1) (pos := ps) (pos' := px) (by rw [C.hN]; exact C.nd) (by rw [C.hN]; rfl) (C.loc _ h4).1 call rfl (C.loc _ h4).2
    refine ⟨_, pss_cons st1 (soundSs ir C ⟨hp, htk⟩ rest hm), ?_⟩
    obtain ⟨a, ns, rfl, hS, hTb, hlen, hQ⟩ := h
    refine ⟨.ref a, rfl, ?_⟩
    refine ⟨a, ns, rfl, by rw [hkX]; exact hS, hTb, fun pa ca H' hne h1 h2 hTb' => ?_⟩
    obtain ⟨ρ', p', es⟩ := sem ns hlen
    let F0 : Hp := upd (fun _ => none) ca (.lst (ns.map V.int))
    have fk : FOk G F0 H' (some (pa, ca)) (some (pen0 ns)) := by
      refine ⟨fun b o z => ?_, ⟨?_, h1, upd_same⟩, fun b ps z => ?_, hTb'⟩
      · by_cases hb : b = ca
        · subst hb; rw [show F0 b = some (.lst (ns.map V.int)) from upd_same] at z; cases z; exact h2
        · rw [show F0 b = none from upd_ne hb] at z; cases z
      · exact upd_ne hne
      · by_cases hb : b = ca
        · subst hb; rw [show F0 b = some (.lst (ns.map V.int)) from upd_same] at z; cases z
        · rw [show F0 b = none from upd_ne hb] at z; cases z
    refine ⟨IsPen (some (pa, ca)), F0, H', some (pa, ca), .u :: .d .pen :: List.replicate ((("script" : Str) :: ("pen" : Str) :: r).length - 2) .u, F0, some (pen0 ns), ?_, ?_⟩
    · have no : ∀ {i : Nat} {x : Sl}, (Sl.u :: Sl.d .pen :: List.replicate ((("script" : Str) :: ("pen" : Str) :: r).length - 2) Sl.u)[i]? = some x → x = .u ∨ (i = 1 ∧ x = .d .pen) := fun {i x} z => by
        match i, z with
        | 0, z => cases z; exact .inl rfl
        | 1, z => cases z; exact .inr ⟨rfl, rfl⟩
        | i + 2, z =>
          rw [List.getElem?_cons_succ, List.getElem?_cons_succ] at z
          exact .inl (List.eq_of_mem_replicate (List.mem_of_getElem? z))
      exact {
        len := by unfold L2.start; simp
        dat := fun i d z => by
          rcases no z with z | ⟨rfl, z⟩
          · cases z
          · cases z; exact ⟨.ref pa, rfl, .pen rfl⟩
        own := fun i xs z => by rcases no z with z | ⟨_, z⟩ <;> cases z
        inj := fun i j xs ys a z => by rcases no z with z | ⟨_, z⟩ <;> cases z
        mak := fun i c fs z => by rcases no z with z | ⟨_, z⟩ <;> cases z
        one := fun i j c fs c' fs' z => by rcases no z with z | ⟨_, z⟩ <;> cases z
        since := ⟨fun _ _ _ _ z => z, fun _ z => z, Same.refl F0, fun _ z => .inl z⟩
        ok := fk
        mp := fun _ z => z }
    · rw [es]
      intro v H2 F2 _ _ rv
      cases rv
      exact hQ H2
  · cases h1
end
end Mi

set_option Elab.async false
set_option linter.all false
set_option maxRecDepth 100000
set_option maxHeartbeats 1000000
namespace Mi
open PySem PySem.Spec PyProof.Rows L2
/-! ### the __init__ of an exception -/
def mXs (sc : Scope) : List Str → List Stmt → Bool
  | [], [] => true
  | f :: r, .Assign [.Attribute (.Name s _) g _] (.Name v _) _ :: sts => decide (s = ("self" : Str)) && decide (g = f) && decide (v = f) && locB sc f && okN f && mXs sc r sts
  | _, _ => false
def mXini (sc : Scope) (at_ : List Str) (body : List Stmt) : Bool := scB (("self" : Str) :: at_) (at_.length + 1) sc && locB sc "self" && mXs sc at_ body && decide (at_ ≠ []) && decide (at_.length ≤ 10)
/-- i fields stand -/
def XSt (C : Addr) (at_ : List Str) (a : Addr) (args : List V) (H : Hp) (i : Nat) (H2 : Hp) : Prop :=
  ∃ d fs, H d = none ∧ d ≠ a ∧ H2 a = some (exo a C (some d)) ∧ H2 d = some (exd d fs) ∧ (∀ b, b ≠ a → b ≠ d → H2 b = H b) ∧ fs.length = i ∧ ∀ (j : Nat) f v, j < i → at_[j]? = some f → args[j]? = some v → fs.lookup f = some v
theorem lookup_cons_ne {f g : Str} {y : V} {fs : List (Str × V)} (h : g ≠ f) : ((f, y) :: fs).lookup g = fs.lookup g := by rw [lookup_put, if_neg h]
theorem lookup_cons_eq {f : Str} {y : V} {fs : List (Str × V)} : ((f, y) :: fs).lookup f = some y := by rw [lookup_put, if_pos rfl]
section
variable {X : Cx} {C : Addr} {at_ : List Str} {sc : Scope}
theorem nodup_get {f : Str} {l : List Str} (nd : l.Nodup) {i j : Nat} (h1 : l[i]? = some f) (h2 : l[j]? = some f) : i = j := nodup_ix nd h1 h2
theorem x_one (hN : X.N = ("self" : Str) :: at_) (hs : X.env.scope = sc) (hsf : locB sc "self" = true) {f : Str} {i : Nat} (hi : at_[i]? = some f) (hlf : locB sc f = true) (hof : okN f = true) {p1 p2 p3 p4 : Pos} :
    PS X (.Assign [.Attribute (.Name "self" p1) f p2] (.Name f p3) p4) (tOst X.K f (tVar 0) (tVar (i + 1))) :=
  ps_ost (pe_var (by rw [hN]; rfl) (by rw [hs]; exact vis_loc hsf) (by decide +kernel) (by decide +kernel)) (pe_var (by rw [hN]; exact hi) (by rw [hs]; exact vis_loc hlf) (okN1 hof) (okN2 hof)) rfl
theorem x_stmts (hN : X.N = ("self" : Str) :: at_) (hs : X.env.scope = sc) (hsf : locB sc "self" = true) (nd : at_.Nodup) (T : OexC X.K C) (hno : ∀ f ∈ at_, PySem.W.findIn X.K (.ref C) f = some none) {a : Addr} {args : List V} {H : Hp} (hl : args.length = at_.length) (hb : at_.length ≤ 10) :
    ∀ (r : List Str) (sts : List Stmt) (i : Nat), mXs sc r sts = true → at_.drop i = r → i + r.length = at_.length → PSs X sts (fun Dn σ H2 => σ = some (.ref a) :: args.map some ∧ XSt C at_ a args H i H2 ∧ ∀ H3, XSt C at_ a args H at_.length H3 → Dn.nx σ H3)
  | [], [], i, _, hd, hle => pssI pss_nil fun Dn σ H2 ⟨h1, h2, h3⟩ => by
    have hi : i = at_.length := by simpa using hle
    subst hi
    exact h3 H2 h2
  | [], _ :: _, _, h, _, _ => by cases h
  | _ :: _, [], _, h, _, _ => by cases h
  | f :: r, st :: sts, i, h, hd, hle => by
    have hi : at_[i]? = some f := by
      have : (at_.drop i)[0]? = some f := by rw [hd]; rfl
      simpa using this
    have hil : i < at_.length := (List.getElem?_eq_some_iff.mp hi).1
    unfold mXs at h
    split at h
    · rename_i heq; cases heq
    · rename_i f' r' s p1 g p2 v p3 p4 sts' heq1 heq2
      cases heq1
      cases heq2
      simp only [Bool.and_eq_true, decide_eq_true_eq] at h
      obtain ⟨⟨⟨⟨⟨rfl, rfl⟩, rfl⟩, h4⟩, h5⟩, h6⟩ := h
      have hd2 : at_.drop (i + 1) = r := by
        have : (at_.drop i).drop 1 = r := by rw [hd]; rfl
        rw [List.drop_drop] at this
        exact this
      have ih := x_stmts hN hs hsf nd T hno (a := a) (args := args) (H := H) hl hb r sts (i + 1) h6 hd2 (by simp only [List.length_cons] at hle; omega)
      refine pssI (pss_cons (x_one hN hs hsf hi h4 h5) ih) ?_
      rintro Dn σ H2 ⟨rfl, ⟨d, fs, q1, q2, q3, q4, q5, q6, q7⟩, hH⟩
      have hai : i < args.length := by omega
      refine ⟨args[i], by rw [List.getElem?_cons_succ, List.getElem?_map, List.getElem?_eq_getElem hai]; rfl, .ref a, rfl, a, C, rfl, T, hno _ (List.mem_of_getElem? hi), .inr ⟨d, fs, q3, q4, by omega, rfl, ?_, hH⟩⟩
      refine ⟨d, (_, args[i]) :: fs, q1, q2, by rw [upd_ne (Ne.symm q2)]; exact q3, upd_same, fun b b1 b2 => by rw [upd_ne b2]; exact q5 b b1 b2, by simp [q6], fun j f2 v hj hf2 hv => ?_⟩
      by_cases hji : j = i
      · subst hji
        rw [hi] at hf2
        cases hf2
        rw [lookup_cons_eq]
        rw [List.getElem?_eq_getElem hai] at hv
        exact hv
      · rw [lookup_cons_ne (fun z => hji (nodup_get nd hf2 (by rw [z]; exact hi)))]
        exact q7 j f2 v (by omega) hf2 hv
    · cases h
theorem x_body (hN : X.N = ("self" : Str) :: at_) (hs : X.env.scope = sc) (hsf : locB sc "self" = true) (nd : at_.Nodup) (T : OexC X.K C) (hno : ∀ f ∈ at_, PySem.W.findIn X.K (.ref C) f = some none) {a : Addr} {args : List V} {H : Hp} (hl : args.length = at_.length) (hb : at_.length ≤ 10)
    {sts : List Stmt} (h : mXs sc at_ sts = true) (hne : at_ ≠ []) (ha : H a = some (exo a C none)) : PSs X sts (fun Dn σ H2 => σ = some (.ref a) :: args.map some ∧ H2 = H ∧ ∀ H3, XSt C at_ a args H at_.length H3 → Dn.nx σ H3) := by
  match at_, sts, hne, h with
  | f :: r, [], _, h => cases h
  | f :: r, st :: sts, _, h =>
    have hi : (f :: r)[0]? = some f := rfl
    unfold mXs at h
    split at h
    · rename_i heq; cases heq
    · rename_i f' r' s p1 g p2 v p3 p4 sts' heq1 heq2
      cases heq1
      cases heq2
      simp only [Bool.and_eq_true, decide_eq_true_eq] at h
      obtain ⟨⟨⟨⟨⟨rfl, rfl⟩, rfl⟩, h4⟩, h5⟩, h6⟩ := h
      have ih := x_stmts hN hs hsf nd T hno (a := a) (args := args) (H := H) hl hb r sts 1 h6 rfl (by simp; omega)
      refine pssI (pss_cons (x_one hN hs hsf hi h4 h5) ih) ?_
      rintro Dn σ H2 ⟨rfl, rfl, hH⟩
      have hai : 0 < args.length := by rw [hl]; simp
      refine ⟨args[0], by rw [List.getElem?_cons_succ, List.getElem?_map, List.getElem?_eq_getElem hai]; rfl, .ref a, rfl, a, C, rfl, T, hno _ (List.mem_of_getElem? hi), .inl ⟨ha, fun d hd hda => ⟨rfl, ?_, hH⟩⟩⟩
      refine ⟨d, [(_, args[0])], hd, hda, upd_same, by rw [upd_ne hda]; exact upd_same, fun b b1 b2 => by rw [upd_ne b1, upd_ne b2], rfl, fun j f2 v hj hf2 hv => ?_⟩
      have : j = 0 := by omega
      subst this
      rw [hi] at hf2
      cases hf2
      rw [lookup_cons_eq]
      rw [List.getElem?_eq_getElem hai] at hv
      exact hv
    · cases h
end
section
variable {P : Program} {w : World} {K : PySem.W.Frag} {mg : Str → Option Value} {base : Heap}
theorem xini_ok {x qual : Str} {params : Arguments} {body : List Stmt} {scope : Scope} {f C : Addr} {fd : FuncData} {at_ : List Str} (F : FunD K x qual params body scope [] [] f fd) (h : mXini scope at_ body = true) (T : OexC K C) (hno : ∀ f ∈ at_, PySem.W.findIn K (.ref C) f = some none) :
    FnOk P w K mg base (L2.CX P w) 1 f fd (("self" : Str) :: at_) (spX C at_) := by
  unfold mXini at h
  simp only [Bool.and_eq_true, decide_eq_true_eq] at h
  obtain ⟨⟨⟨⟨h1, h2⟩, h3⟩, h4⟩, h5⟩ := h
  obtain ⟨S0, nd, hl⟩ := scB_ok h1
  have ht : (("self" : Str) :: at_).take (at_.length + 1) = ("self" : Str) :: at_ := by simp
  rw [ht] at S0
  refine F.ok (k := 0) S0 (fun vs H Q E h => by obtain ⟨a, args, rfl, hl, _⟩ := h; simp [hl]) (fun cdv A outer s H vs Q E hr h => ?_)
  obtain ⟨a, args, rfl, hal, ha, hQ⟩ := h
  have nd' : at_.Nodup := (List.nodup_cons.mp nd).2
  refine ⟨_, x_body (X := cxOf (L2.CX P w) P w K mg base (("self" : Str) :: at_) qual scope f cdv A outer s H E) rfl rfl h2 nd' T hno (a := a) (args := args) (H := H) hal h5 h3 h4 ha, ?_⟩
  refine ⟨?_, rfl, ?_⟩
  · unfold L2.start
    simp [hal]
  · rintro H3 ⟨d, fs, q1, q2, q3, q4, q5, q6, q7⟩
    exact hQ d fs H3 q1 q2 q3 q4 q5 fun i f v e1 e2 => q7 i f v (List.getElem?_eq_some_iff.mp e1).1 e1 e2
end
end Mi

set_option Elab.async false
set_option linter.all false
set_option maxRecDepth 100000
set_option maxHeartbeats 4000000
namespace Mi
open PySem PySem.Spec PyProof.Rows L2
/-! ### the head's facts -/
abbrev AtN := Str × Option Str
def clsO (K : PySem.W.Frag) (C : Addr) : Bool := He.eqO (PySem.W.findIn K (.ref C) "__class__") (some (some (.builtin "object.__class__"))) && decide (PySem.W.mroIn K C (.type "object") = some true) &&
  ("NoneType" :: tyUse).all (fun m => decide (PySem.W.kitOne K (.type m) (.ref C) = some false)) && tyUse.all (fun m => decide (PySem.W.kitOne K (.ref C) (.type m) = some false))
def clsB (K : PySem.W.Frag) (cl : List (Str × Nat × List Str)) : Bool :=
  cl.all (fun c => (He.Fa.cls c.1).ok K && c.2.2.all (fun f => (He.Fa.noat c.1 f).ok K) && clsO K (He.ga K c.1)) &&
  He.eqO (PySem.W.specialIn K (.builtin "object.__class__") "__get__") (some (some (.builtin "getset_descriptor.__get__"))) && decide (PySem.W.takesIn K (.builtin "object.__class__") = some true) &&
  (List.range cl.length).all (fun i => (List.range cl.length).all fun j => decide (PySem.W.kitOne K (.ref (He.ga K (cl.getD i ("", 0, [])).1)) (.ref (He.ga K (cl.getD j ("", 0, [])).1)) = some (decide (i = j))))
def eqsB (K : PySem.W.Frag) (cl : List (Str × Nat × List Str)) (ats : List AtN) (eqs : List (Nat × Nat)) : Bool :=
  eqs.all fun q => He.eqO (PySem.W.findIn K (.ref (He.ga K (cl.getD q.1 ("", 0, [])).1)) "__ne__") (some (some (.builtin "object.__ne__"))) &&
    He.eqO (PySem.W.findIn K (.ref (He.ga K (cl.getD q.1 ("", 0, [])).1)) "__eq__") (some (some (.ref (He.fAd K (ats.getD q.2 ("", none)))))) && PySem.W.isFn K (.ref (He.fAd K (ats.getD q.2 ("", none))))
def nmOf (T : Tab) (c : Nat) : Str := if c < 1000 then (T.clss.getD c ("", 0, [])).1 else (T.excs.getD (c - 1000) ("", [])).1
def attOf (T : Tab) : Nat → List Str := fun c => if c < 1000 then (T.clss.getD c ("", 0, [])).2.2 else (T.excs.getD (c - 1000) ("", [])).2
def qOf (p : AtN) : Str := (p.1 ++ ".<locals>.") ++ "<lambda>"
def gOf (T : Tab) (ats tf : List AtN) (K : PySem.W.Frag) : Ad where
  nc := T.clss.length
  cls := fun c => He.ga K (nmOf T c)
  fad := fun i => He.fAd K (ats.getD i ("", none))
  att := attOf T
  tabs := tf.map fun p => ((He.cT K p).2, qOf p)
/-- an exception class -/
def oxB (K : PySem.W.Frag) (C : Addr) : Bool := match K.lookup C with
  | some ⟨.type "type", _, .cls cd, sl⟩ => (match cd.mro, sl.toList with
    | .ref C' :: bm, [_, _, _, _, some (.builtin n), _] => decide (C' = C) && decide (n = "ValueError.__new__") && !cd.hasDel && cd.hasDict && PySem.HandSPX.refsVE bm
    | _, _ => false)
  | _ => false
theorem oxB_ok {K : PySem.W.Frag} {C : Addr} (q : oxB K C = true) : ∃ nm q N bs bm sn sub ab col dd k0 k1 k2 k3 k5, K.lookup C = some (excClassObj nm q C N bs bm true sn sub ab col dd k0 k1 k2 k3 k5 "ValueError.__new__") ∧ PySem.HandSPX.refsVE bm = true := by
  unfold oxB at q
  split at q
  · rename_i dd cd sl ho
    split at q
    · rename_i C' bm k0 k1 k2 k3 n k5 hm hs
      simp only [Bool.and_eq_true, decide_eq_true_eq, Bool.not_eq_true'] at q
      obtain ⟨⟨⟨⟨rfl, rfl⟩, hdel⟩, hdi⟩, hr⟩ := q
      obtain ⟨nm, bs, mro, ns, qn, hd, sn, sub, ab, col, del⟩ := cd
      dsimp only at hm hdel hdi
      subst hm hdel hdi
      obtain ⟨l⟩ := sl
      simp only at hs
      subst hs
      exact ⟨nm, qn, ns, bs, bm, sn, sub, ab, col, dd, k0, k1, k2, k3, k5, ho, hr⟩
    · cases q
  · cases q
def exc1B (K : PySem.W.Frag) (x : Str) (at_ : List Str) : Bool :=
  oxB K (He.ga K x) && He.eqO (PySem.W.findIn K (.ref (He.ga K x)) "__setattr__") (some (some (.builtin "object.__setattr__"))) && decide (PySem.W.subIn K (.ref (He.ga K x)) (.type "BaseException") = some true) && decide (PySem.W.typeIn K (.ref (He.ga K x)) = some (.type "type")) && PySem.W.keepIn K (.ref (He.ga K x)) &&
  (PySem.W.clsIn K (He.ga K x)).isSome && He.eqO (PySem.W.findIn K (.ref (He.ga K x)) "__getattribute__") (some (some (.builtin "BaseException.__getattribute__"))) && He.eqO (PySem.W.findIn K (.ref (He.ga K x)) "__getattr__") (some none) && PySem.W.hasDictIn K (He.ga K x) &&
  He.eqO (PySem.W.findIn K (.ref (He.ga K x)) "__class__") (some (some (.builtin "object.__class__"))) && He.eqO (PySem.W.specialIn K (.builtin "object.__class__") "__get__") (some (some (.builtin "getset_descriptor.__get__"))) && decide (PySem.W.takesIn K (.builtin "object.__class__") = some true) && decide (PySem.W.mroIn K (He.ga K x) (.type "object") = some true) &&
  decide (PySem.W.kitOne K (.ref (He.ga K x)) (.type "ValueError") = some true) && at_.all (fun f => He.eqO (PySem.W.findIn K (.ref (He.ga K x)) f) (some none)) && decide (PySem.W.exmOne K (.ref (He.ga K x)) (.ref (He.ga K "FigureError")) = some true) &&
  (decide (at_ = []) || (He.eqO (PySem.W.findIn K (.ref (He.ga K x)) "__init__") (some (some (.ref (He.ma K (He.ga K x) "__init__")))) && decide (PySem.W.typeIn K (.ref (He.ma K (He.ga K x) "__init__")) = some (.type "function"))))
def excB (K : PySem.W.Frag) (xs : XTab) : Bool := xs.all (fun e => exc1B K e.1 e.2) &&
  (List.range xs.length).all (fun i => (List.range xs.length).all fun j => decide (PySem.W.kitOne K (.ref (He.ga K (xs.getD i ("", [])).1)) (.ref (He.ga K (xs.getD j ("", [])).1)) = some (decide (i = j))))
def tabU (K : PySem.W.Frag) (tf : List AtN) : Bool := tf.all fun p => tf.all fun q => decide ((He.cT K p).2 = (He.cT K q).2 → p = q)
def exB (T : Tab) (ats tf : List AtN) (K : PySem.W.Frag) : Bool := clsB K T.clss && eqsB K T.clss ats T.eqs && excB K T.excs && tabU K tf
theorem factM {fa : List He.Fa} {fn : List He.DefD} {K : PySem.W.Frag} (c : He.SaysD fa fn K) {f : He.Fa} (h : f ∈ fa) : f.ok K = true := by
  have c1 := (He.ba (show ((fa.all fun f => f.ok K) && fn.all fun d => d.ok K) = true from congrArg (fun z : He.AlD => z.1) c)).1
  exact List.all_eq_true.mp c1 f h
theorem clsF_of {T : Tab} {ats tf : List AtN} {K : PySem.W.Frag} (h : clsB K T.clss = true) (nd : T.clss.all (fun c => decide c.2.2.Nodup && decide (c.2.2.length ≤ 900)) = true) (hl : T.clss.length ≤ 900) : ClsF K (gOf T ats tf K) := by
  unfold clsB at h
  simp only [Bool.and_eq_true, List.all_eq_true, decide_eq_true_eq, List.mem_range] at h nd
  obtain ⟨⟨⟨h1, h2⟩, h3⟩, h4⟩ := h
  have mem : ∀ c, c < T.clss.length → T.clss.getD c ("", 0, []) ∈ T.clss := fun c hc => by
    rw [List.getD_eq_getElem?_getD, List.getElem?_eq_getElem hc]
    exact List.getElem_mem hc
  have ec : ∀ c, c < T.clss.length → (gOf T ats tf K).cls c = He.ga K (T.clss.getD c ("", 0, [])).1 := fun c hc => by
    show He.ga K (nmOf T c) = _
    unfold nmOf
    rw [if_pos (by omega)]
  have ea : ∀ c, c < T.clss.length → (gOf T ats tf K).att c = (T.clss.getD c ("", 0, [])).2.2 := fun c hc => by
    show attOf T c = _
    unfold attOf
    rw [if_pos (by omega)]
  have o : ∀ c, c < T.clss.length → clsO K (He.ga K (T.clss.getD c ("", 0, [])).1) = true := fun c hc => (h1 _ (mem c hc)).2
  have o' : ∀ c, c < T.clss.length → ((He.eqO (PySem.W.findIn K (.ref (He.ga K (T.clss.getD c ("", 0, [])).1)) "__class__") (some (some (.builtin "object.__class__"))) = true ∧ PySem.W.mroIn K (He.ga K (T.clss.getD c ("", 0, [])).1) (.type "object") = some true) ∧
      ∀ m ∈ "NoneType" :: tyUse, PySem.W.kitOne K (.type m) (.ref (He.ga K (T.clss.getD c ("", 0, [])).1)) = some false) ∧ ∀ m ∈ tyUse, PySem.W.kitOne K (.ref (He.ga K (T.clss.getD c ("", 0, [])).1)) (.type m) = some false := fun c hc => by
    have z := o c hc
    unfold clsO at z
    simp only [Bool.and_eq_true, List.all_eq_true, decide_eq_true_eq] at z
    exact z
  exact {
    cl := fun c hc => by rw [ec c hc]; exact He.cls_ok (h1 _ (mem c hc)).1.1
    noat := fun c hc f hf => by rw [ea c hc] at hf; rw [ec c hc]; exact He.noat_ok ((h1 _ (mem c hc)).1.2 f hf)
    nd := fun c hc => by rw [ea c hc]; exact nd _ (mem c hc)
    ha := fun c hc => by rw [ec c hc]; exact He.eqO_ok (o' c hc).1.1.1
    hm := fun c hc => by rw [ec c hc]; exact (o' c hc).1.1.2
    hn := fun _ => He.eqO_ok h2
    ht := fun _ => h3
    kcc := fun c d hc hd => by rw [ec c hc, ec d hd]; exact h4 c hc d hd
    kbc := fun c hc m hm => by rw [ec c hc]; exact (o' c hc).1.2 m hm
    kcb := fun c hc m hm => by rw [ec c hc]; exact (o' c hc).2 m hm }
theorem exc1_ok {K : PySem.W.Frag} {x : Str} {at_ : List Str} (h : exc1B K x at_ = true) : OexC K (He.ga K x) ∧ XcK K (He.ga K x) ∧ PySem.W.kitOne K (.ref (He.ga K x)) (.type "ValueError") = some true ∧ (∀ f ∈ at_, PySem.W.findIn K (.ref (He.ga K x)) f = some none) ∧
    PySem.W.exmOne K (.ref (He.ga K x)) (.ref (He.ga K "FigureError")) = some true ∧ (at_ ≠ [] → PySem.W.findIn K (.ref (He.ga K x)) "__init__" = some (some (.ref (He.ma K (He.ga K x) "__init__"))) ∧ PySem.W.typeIn K (.ref (He.ma K (He.ga K x) "__init__")) = some (.type "function")) := by
  unfold exc1B at h
  simp only [Bool.and_eq_true, Bool.or_eq_true, decide_eq_true_eq, List.all_eq_true] at h
  obtain ⟨⟨⟨⟨⟨⟨⟨⟨⟨⟨⟨⟨⟨⟨⟨⟨a1, a2⟩, a3⟩, a4⟩, a5⟩, a6⟩, a7⟩, a8⟩, a9⟩, a10⟩, a11⟩, a12⟩, a13⟩, a14⟩, a15⟩, a16⟩, a17⟩ := h
  refine ⟨⟨oxB_ok a1, He.eqO_ok a2, a3, a4, a5⟩, ⟨a6, He.eqO_ok a7, He.eqO_ok a8, a3, a9, He.eqO_ok a10, He.eqO_ok a11, a12, a13⟩, a14, fun f hf => He.eqO_ok (a15 f hf), a16, fun hne => ?_⟩
  rcases a17 with z | z
  · exact absurd z hne
  · exact ⟨He.eqO_ok z.1, z.2⟩
/-- an exception class with its __init__ -/
theorem exc_of {P : Program} {w : World} {K : PySem.W.Frag} {mg : Str → Option Value} {base : Heap} {T : Tab} {x nm qual : Str} {at_ : List Str} {params : Arguments} {body : List Stmt} {scope : Scope} {fd : FuncData} (hB : excB K T.excs = true) (hx : (x, at_) ∈ T.excs)
    (F : FunD K nm qual params body scope [] [] (He.fAd K (x, some "__init__")) fd) (hm : mXini scope at_ body = true) (hb : Binds K fd (("self" : Str) :: at_) []) : ExcF P w K mg base (He.ga K x) at_ := by
  unfold excB at hB
  simp only [Bool.and_eq_true, List.all_eq_true] at hB
  obtain ⟨o, xk, k, na, ex, ini⟩ := exc1_ok (hB.1 _ hx)
  have hm' := hm
  unfold mXini at hm'
  simp only [Bool.and_eq_true, decide_eq_true_eq] at hm'
  obtain ⟨i1, i2⟩ := ini hm'.1.2
  exact ⟨o, hm'.1.2, Nat.le_trans hm'.2 (by decide), _, fd, i1, i2, xini_ok F hm o na, hb⟩
theorem xenv_of {K : PySem.W.Frag} {mg : Str → Option Value} {T : Tab} {ats tf : List AtN} (hB : excB K T.excs = true) (hmg : ∀ e ∈ T.excs, mg e.1 = some (.ref (He.ga K e.1))) (hF : mg "FigureError" = some (.ref (He.ga K "FigureError"))) (fr : ∀ x ∈ bltN, mg x = none) :
    XEnv K mg (gOf T ats tf K) T.excs ∧ FigF K mg (gOf T ats tf K) T.excs := by
  unfold excB at hB
  simp only [Bool.and_eq_true, List.all_eq_true, decide_eq_true_eq, List.mem_range] at hB
  have mem : ∀ j, j < T.excs.length → T.excs.getD j ("", []) ∈ T.excs := fun j hj => by
    rw [List.getD_eq_getElem?_getD, List.getElem?_eq_getElem hj]
    exact List.getElem_mem hj
  have ec : ∀ j, (gOf T ats tf K).cls (xc j) = He.ga K (T.excs.getD j ("", [])).1 := fun j => by
    show He.ga K (nmOf T (xc j)) = _
    unfold nmOf xc
    rw [if_neg (by omega), show 1000 + j - 1000 = j by omega]
  have ea : ∀ j, (gOf T ats tf K).att (xc j) = (T.excs.getD j ("", [])).2 := fun j => by
    show attOf T (xc j) = _
    unfold attOf xc
    rw [if_neg (by omega), show 1000 + j - 1000 = j by omega]
  refine ⟨⟨fun j x at_ h => ?_, fun j hj => ?_, fun i j hi hj => ?_, fun j hj => ?_, fun j hj f hf => ?_, fr _ (by decide +kernel), fr _ (by decide +kernel), fr _ (by decide +kernel), fr _ (by decide +kernel)⟩, He.ga K "FigureError", hF, fun j hj => ?_⟩
  · have e : T.excs.getD j ("", []) = (x, at_) := by rw [List.getD_eq_getElem?_getD, h]; rfl
    rw [ec, ea, e]
    exact ⟨hmg _ (List.mem_of_getElem? h), rfl⟩
  · rw [ec]; exact (exc1_ok (hB.1 _ (mem j hj))).2.1
  · rw [ec, ec]; exact hB.2 i hi j hj
  · rw [ec]; exact (exc1_ok (hB.1 _ (mem j hj))).2.2.1
  · rw [ea] at hf; rw [ec]; exact (exc1_ok (hB.1 _ (mem j hj))).2.2.2.1 f hf
  · rw [ec]; exact (exc1_ok (hB.1 _ (mem j hj))).2.2.2.2.1
/-- the meaning of the look at an error, by tables alone -/
def kOf (xs : XTab) (e0 e1 : List KEnt) (j : Nat) (fs : List D) : Option (List D) := (kindsD (xs.getD j ("", [])).2 j fs e0).bind fun a => (kindsD (xs.getD j ("", [])).2 j fs e1).map (a ++ ·)
def flOf (xs : XTab) (e0 e1 : List KEnt) (c : Nat) (fs : List D) : Option D := if 1000 ≤ c ∧ c - 1000 < xs.length then faultD (kOf xs e0 e1) (c - 1000) fs else none
/-- the def that catches, as the head tells it -/
theorem flt_of {P : Program} {w : World} {K : PySem.W.Frag} {mg : Str → Option Value} {base : Heap} {T : Tab} {ats tf : List AtN} {lv : Nat → Nat} {e0 e1 : List KEnt} (hX : XEnv K mg (gOf T ats tf K) T.excs) (hF : FigF K mg (gOf T ats tf K) T.excs)
    {q0 q1 : Str} {p0 p1 pf : Arguments} {b0 b1 bf : List Stmt} {s0 s1 sf : Scope} {f0 f1 ff : Addr} {d0 d1 df : FuncData} (F0 : FunD K "_law_kinds" q0 p0 b0 s0 [] [] f0 d0) (F1 : FunD K "_law_more_kinds" q1 p1 b1 s1 [] [] f1 d1) (Ff : FunD K "_law_fault" "_law_fault" pf bf sf [] [] ff df)
    (h0 : mBody T.excs s0 (tl0 s0) e0 b0 = true) (h1 : mBody T.excs s1 tl1 e1 b1 = true) (hf : mFault sf bf = true) (g0 : mg "_law_kinds" = some (.ref f0)) (g1 : mg "_law_more_kinds" = some (.ref f1)) (gf : mg "_law_fault" = some (.ref ff))
    (bd0 : Binds K d0 ["e"] []) (bd1 : Binds K d1 ["e"] []) (bdf : Binds K df ["call"] []) (hT : T.fns[T.fg]? = some (("_law_fault" : Str), 1)) (lam : T.lamN T.fg = false ∧ ∀ i, T.lamN i = true → lv i + 1 ≤ T.k2) (k1 : 1 ≤ T.k2) (hfl : T.fl = flOf T.excs e0 e1) :
    FltG P w K mg base T (gOf T ats tf K) lv := by
  obtain ⟨oc, od, dV, kV, doc, pm, an, cdv, ct, osl, rfl, lk, hcd, _, _⟩ := Ff.ex
  have Fm := more_ok (P := P) (w := w) (base := base) hX F1 h1
  have he1 : e1.length ≤ 20 := by
    cases b1 with
    | nil => cases h1
    | cons a r => simp only [mBody, Bool.and_eq_true, decide_eq_true_eq] at h1; exact h1.2
  have Fk := kinds_ok (P := P) (w := w) (base := base) hX F0 h0 Fm g1 F1.kp bd1 he1
  have hsc : fSc sf = true := by
    unfold mFault at hf
    split at hf
    · simp only [Bool.and_eq_true] at hf; exact hf.2
    · cases hf
  unfold fSc at hsc
  simp only [Bool.and_eq_true, decide_eq_true_eq, Bool.not_eq_true', List.all_eq_true] at hsc
  obtain ⟨⟨⟨⟨⟨⟨⟨⟨⟨⟨⟨c1, c2⟩, c3⟩, c4⟩, c5⟩, c6⟩, c7⟩, c8⟩, c9⟩, c10⟩, c11⟩, c12⟩ := hsc
  refine ⟨lam, k1, "_law_fault", ff, pf, bf, sf, dV, kV, doc, pm, cdv, ct, oc, an, od, osl, denK0 (gOf T ats tf K) e0 e1, hT, gf, Ff.kp, lk, hcd, bdf, ⟨c1, c2, c3, by decide, rfl, fun x hx => ?_, c12⟩, .inl c4, ?_, fun c fs d h => ?_⟩
  · have : x = ("call" : Str) := by simpa using hx
    subst this
    exact .inl c4
  · rintro X rfl rfl rfl rfl rfl hr q
    exact fault_gives hX hF hf Fk g0 F0.kp bd0 hr
  · rw [hfl] at h
    unfold flOf at h
    split at h
    · rename_i hc
      refine ⟨c - 1000, by unfold xc; omega, hc.2, ?_⟩
      have ea : (gOf T ats tf K).att (xc (c - 1000)) = (T.excs.getD (c - 1000) ("", [])).2 := by
        show attOf T (xc (c - 1000)) = _
        unfold attOf xc
        rw [if_neg (by omega), show 1000 + (c - 1000) - 1000 = c - 1000 by omega]
      have e : denK0 (gOf T ats tf K) e0 e1 (c - 1000) fs = kOf T.excs e0 e1 (c - 1000) fs := by
        unfold denK0 denK1 kOf
        rw [ea]
      unfold faultD at h ⊢
      rw [e]
      exact h
    · cases h
/-- a def's table of lambdas -/
theorem lam_at {K : PySem.W.Frag} {mg : Str → Option Value} {base : Heap} {T : Tab} {ats tf : List AtN} {p : AtN} (hp : p ∈ tf) (hu : tabU K tf = true) (tb : ∀ q ∈ tf.map (He.cT K), LamX.TabB base mg q.1 q.2) {cdv : Value} (h : CodeAt K (He.fAd K p) cdv) :
    LamAt base mg (gOf T ats tf K) p.1 cdv := by
  obtain ⟨oc, od, fd, osl, q, lk, rfl, hc⟩ := h
  obtain ⟨c, ec⟩ := He.codeIn_ref hc
  have e2 := He.codeOf_eq lk ec
  have e3 : (He.cT K p).1 = c := e2
  refine ⟨c, (He.cT K p).2, ec, ?_, List.mem_map.mpr ⟨p, hp, rfl⟩, fun y hy e => ?_⟩
  · have z := tb _ (List.mem_map.mpr ⟨p, hp, rfl⟩)
    rw [e3] at z
    exact z
  · obtain ⟨r, hr, rfl⟩ := List.mem_map.mp hy
    unfold tabU at hu
    simp only [List.all_eq_true, decide_eq_true_eq] at hu
    rw [hu r hr p hp e]
    rfl
/-- where a law's defs begin -/
theorem env0 {P : Program} {w : World} {K : PySem.W.Frag} {mg : Str → Option Value} {base h : Heap} {T : Tab} {ats tf : List AtN} {lv : Nat → Nat} {fa : List He.Fa} {fn : List He.DefD} (X : K.In h) (N : h.Ns mainGlobals mg) (c : He.SaysD fa fn K) (ex : exB T ats tf K = true)
    (nd : T.clss.all (fun c => decide c.2.2.Nodup && decide (c.2.2.length ≤ 900)) = true)
    (h1 : ∀ q ∈ T.cons, He.Fa.int q.1 q.2 ∈ fa) (h2 : ∀ x ∈ bltN, He.Fa.free x ∈ fa) (h3 : ∀ q ∈ T.clss, He.Fa.glo q.1 ∈ fa) (h4 : T.eqs.all (fun q => decide (q.1 < T.clss.length) && decide ((T.fns[q.2]?).map (·.2) = some 2)) = true)
    (h5 : ∀ e ∈ T.excs, He.Fa.glo e.1 ∈ fa) (h6 : T.clss.length ≤ 900) (hx : ∀ (j : Nat) x at_, T.excs[j]? = some (x, at_) → at_ ≠ [] → ExcF P w K mg base (He.ga K x) at_) :
    LawEnv P w K mg base T (gOf T ats tf K) lv [] [] := by
  unfold exB at ex
  simp only [Bool.and_eq_true] at ex
  have e2 := ex.1.1.2
  unfold eqsB at e2
  simp only [Bool.and_eq_true, List.all_eq_true, decide_eq_true_eq] at e2 h4
  have ec : ∀ c, c < T.clss.length → (gOf T ats tf K).cls c = He.ga K (T.clss.getD c ("", 0, [])).1 := fun c hc => by
    show He.ga K (nmOf T c) = _
    unfold nmOf
    rw [if_pos (by omega)]
  exact {
    con := fun i x v q => He.int_ok X N (factM c (h1 (x, v) (List.mem_of_getElem? q)))
    fns := fun i x m q => absurd q (Nat.not_lt_zero _)
    free := fun x q => He.free_ok X N (factM c (h2 x q))
    hnc := rfl
    clsF := clsF_of ex.1.1.1 nd h6
    clsM := fun i x m at_ q => by
      have z := He.glo_ok X N (factM c (h3 _ (List.mem_of_getElem? q)))
      have e : T.clss.getD i ("", 0, []) = (x, m, at_) := by rw [List.getD_eq_getElem?_getD, q]; rfl
      rw [ec i (List.getElem?_eq_some_iff.mp q).1, e]
      exact z
    mks := fun i x m at_ q => absurd q (Nat.not_lt_zero _)
    eqs := fun i k q => by
      obtain ⟨⟨z1, z2⟩, z3⟩ := e2 (i, k) q
      obtain ⟨w1, w2⟩ := h4 (i, k) q
      rw [ec i w1]
      exact ⟨w1, w2, He.eqO_ok z1, He.eqO_ok z2, z3⟩
    exc := fun j x at_ q hne => by
      have z := He.glo_ok X N (factM c (h5 _ (List.mem_of_getElem? q)))
      have e : T.excs.getD j ("", []) = (x, at_) := by rw [List.getD_eq_getElem?_getD, q]; rfl
      have e1 : (gOf T ats tf K).cls (xc j) = He.ga K x := by
        show He.ga K (nmOf T (xc j)) = _
        unfold nmOf xc
        rw [if_neg (by omega), show 1000 + j - 1000 = j by omega, e]
      have e2 : (gOf T ats tf K).att (xc j) = at_ := by
        show attOf T (xc j) = _
        unfold attOf xc
        rw [if_neg (by omega), show 1000 + j - 1000 = j by omega, e]
      rw [e1, e2]
      exact ⟨z, rfl, hx j x at_ q hne⟩
    flt := fun q => absurd q (Nat.not_lt_zero _)
    fgl := fun q => absurd q (Nat.not_lt_zero _)
    cln := h6 }
/-- a law: each def of the text as the head tells it -/
theorem walk_X {l : PySem.W.OpenLaw} {n k : Nat} {q : Program} {loose : List Str} {XP : (Str → Option Value) → Heap → Prop} {YP : World → Heap → Prop} {d : DefRec} {x : Str} {T : Tab} {ats tf : List AtN} {fa : List He.Fa} {fn : List He.DefD} {ts : List He.Tab}
    (hn : l.most = some n) (hn2 : n ≤ sizeLine) (hdf : d.params.defaults = []) (hr : Room k callerA)
    (F : ∀ (w : World) (mg : Str → Option Value) (f : Addr) (h : Heap), YP w h → h.Ns mainGlobals mg → mg d.name = some (.ref f) →
      ∃ (K : PySem.W.Frag) (fd : FuncData), K.In h ∧ He.SaysX fa fn ts tf (exB T ats tf) w h K ∧ (∀ (s : Shared) (u : Value), BindsTo s fd ⟨[u], []⟩ [(x, u)]) ∧
        ∀ base : Heap, K.In base → base.Ns mainGlobals mg → (∀ p ∈ tf.map (He.cT K), LamX.TabB base mg p.1 p.2) → FnOk l.prog w K mg base (L2.CX l.prog w) k f fd [x] (spLawM K (gOf T ats tf K) n)) :
    PySem.W.WalkO q loose XP YP l.row.toRowW d [] (fun f vs => PySem.call f vs) := by
  refine LamX.walk_ofTsE (x := x) (CX := fun w => L2.CX l.prog w) hn hn2 hdf hr (fun w mg f h Y hN hmg => ?_) (fun w H s e s' hc => ?_)
  · obtain ⟨K, fd, KX, sx, hb, hF⟩ := F w mg f h Y hN hmg
    refine ⟨K, KX, fd, tf.map (He.cT K), spLawM K (gOf T ats tf K) n, fun p hp => ?_, fun p hp => ?_, fun p hp => ?_, hb, fun H a ns hl _ hH hS => ⟨a, ns, rfl, hS, fun p hp => ?_, hl, fun _ => rfl⟩, hF⟩
    · obtain ⟨y, hy, rfl⟩ := List.mem_map.mp hp; exact sx.empty y hy
    · obtain ⟨y, hy, rfl⟩ := List.mem_map.mp hp; exact sx.out y hy
    · obtain ⟨y, hy, rfl⟩ := List.mem_map.mp hp; exact PySem.W.codeHd_of_K KX (sx.hd y hy)
    · obtain ⟨y, hy, rfl⟩ := List.mem_map.mp hp
      exact LamX.TabS.nil (hH _ (List.mem_map.mpr ⟨y, hy, rfl⟩))
  · obtain ⟨_, _, _, _, _, _, _, _, _, _, _, _, z⟩ := hc
    exact z
end Mi

set_option Elab.async false
set_option linter.all false
set_option maxRecDepth 100000
set_option maxHeartbeats 4000000
namespace Mi
open PySem PySem.Spec PyProof.Rows L2
/-! ### the evaluator's steps, for proofs about what it computes -/
theorem R.bind_congr {α β : Type} {r r' : R α} {f : α → PenS → R β} (h : r = r') : r.bind f = r'.bind f := by rw [h]
theorem R.of_congr {α : Type} {o o' : Option α} {p : PenS} (h : o = o') : R.of o p = R.of o' p := by rw [h]
theorem calm_ok' {α : Type} {a : α} {p : PenS} : (R.ok a p).calm = .ok a p := rfl
section
variable {i j : Int} {xs ys : List D} {x y : D} {b c : Bool} {s t : Str} {st : Pen}
theorem b_add : bin .add (.int i) (.int j) = some (.int (i + j)) := rfl
theorem b_addT : bin .add (.tup xs) (.tup ys) = if xs.length + ys.length ≤ sizeLine then some (.tup (xs ++ ys)) else none := rfl
theorem b_addL : bin .add (.lst xs) (.lst ys) = if xs.length + ys.length ≤ sizeLine then some (.lst (xs ++ ys)) else none := rfl
theorem b_sub : bin .sub (.int i) (.int j) = some (.int (i - j)) := rfl
theorem b_mul : bin .mul (.int i) (.int j) = if mulOk i j then some (.int (i * j)) else none := rfl
theorem b_mulT : bin .mul (.tup xs) (.int i) = if 0 ≤ i ∧ i ≤ 1000 ∧ xs.length ≤ 1000 then some (.tup (List.replicate i.toNat xs).flatten) else none := rfl
theorem b_mulL : bin .mul (.lst xs) (.int i) = if 0 ≤ i ∧ i < 2 ^ 62 ∧ xs.length * i.toNat ≤ sizeLine then some (.lst (List.replicate i.toNat xs).flatten) else none := rfl
theorem b_fdiv : bin .fdiv (.int i) (.int j) = if divOk i j then some (.int (i.fdiv j)) else none := rfl
theorem b_mod : bin .mod (.int i) (.int j) = if j ≠ 0 then some (.int (i.fmod j)) else none := rfl
theorem b_pow : bin .pow (.int i) (.int j) = if CPow i j then some (.int (i ^ j.toNat)) else none := rfl
theorem deq_ii : deq (.int i) (.int j) = some (decide (i = j)) := by
  unfold deq
  rw [if_pos (by simp [D.py, SeqAt.shaped, PyData.canLay0, PyData.depth])]
  simp [D.py, PyData.eqv]
  by_cases h : i = j <;> simp [h]
theorem deq_bb : deq (.bl b) (.bl c) = some (decide (b = c)) := by
  unfold deq
  rw [if_pos (by simp [D.py, SeqAt.shaped, PyData.canLay0, PyData.depth])]
  cases b <;> cases c <;> simp [D.py, PyData.eqv]
theorem c_eq : cmpV .eq x y = deq x y := rfl
theorem c_ne : cmpV .ne x y = (deq x y).map (!·) := rfl
theorem c_lt : cmpV .lt (.int i) (.int j) = some (decide (i < j)) := rfl
theorem c_le : cmpV .le (.int i) (.int j) = some (decide (i ≤ j)) := rfl
theorem c_gt : cmpV .gt (.int i) (.int j) = some (decide (j < i)) := rfl
theorem c_ge : cmpV .ge (.int i) (.int j) = some (decide (j ≤ i)) := rfl
theorem c_isN : cmpV .is_ x .non = some x.isNon := by cases x <;> rfl
theorem c_isnN : cmpV .isnot x .non = some (!x.isNon) := by cases x <;> rfl
theorem c_isB : cmpV .is_ x (.bl c) = isB x c := by cases x <;> rfl
theorem c_isnB : cmpV .isnot x (.bl c) = (isB x c).map (!·) := by cases x <;> rfl
theorem i_bl : isB (.bl b) c = some (decide (b = c)) := rfl
theorem i_non : isB .non c = some false := rfl
theorem i_int : isB (.int i) c = some false := rfl
theorem i_str : isB (.str s) c = some false := rfl
theorem i_tup : isB (.tup xs) c = some false := rfl
theorem i_lst : isB (.lst xs) c = some false := rfl
theorem non_non : D.isNon .non = true := rfl
theorem non_int : D.isNon (.int i) = false := rfl
theorem non_tup : D.isNon (.tup xs) = false := rfl
theorem non_bl : D.isNon (.bl b) = false := rfl
theorem t_non : truth .non = some false := rfl
theorem t_bl : truth (.bl b) = some b := rfl
theorem t_int : truth (.int i) = some (i != 0) := rfl
theorem t_tup : truth (.tup xs) = some (!xs.isEmpty) := rfl
theorem t_lst : truth (.lst xs) = some (!xs.isEmpty) := rfl
theorem ixD_tup : idx (.tup xs) (.int i) = atI xs i := rfl
theorem ixD_lst : idx (.lst xs) (.int i) = atI xs i := rfl
theorem slD_tup {lo hi : Option Int} : slc (.tup xs) lo hi = some (.tup (cutD xs lo hi)) := rfl
theorem slD_lst {lo hi : Option Int} : slc (.lst xs) lo hi = some (.lst (cutD xs lo hi)) := rfl
theorem f_lenT : bfn .len [.tup xs] = some (.int xs.length) := rfl
theorem f_lenL : bfn .len [.lst xs] = some (.int xs.length) := rfl
theorem f_tupT : bfn .tuple [.tup xs] = some (.tup xs) := rfl
theorem f_tupL : bfn .tuple [.lst xs] = some (.tup xs) := rfl
theorem f_lstT : bfn .list [.tup xs] = some (.lst xs) := rfl
theorem f_lstL : bfn .list [.lst xs] = some (.lst xs) := rfl
theorem f_int : bfn .int [.int i] = some (.int i) := rfl
theorem f_abs : bfn .abs [.int i] = some (.int (if i < 0 then -i else i)) := rfl
theorem f_max : bfn .max [.int i, .int j] = some (.int (if j > i then j else i)) := rfl
theorem f_min : bfn .min [.int i, .int j] = some (.int (if j < i then j else i)) := rfl
theorem f_all : bfn .all [.lst xs] = (bolsOf xs).map fun bs => .bl (bs.all id) := rfl
theorem f_any : bfn .any [.lst xs] = (bolsOf xs).map fun bs => .bl (bs.any id) := rfl
theorem f_sum : bfn .sum [.lst xs] = (intsOf xs).map fun ns => .int ns.sum := rfl
theorem f_sorted : bfn .sorted [.lst xs] = (intsOf xs).map fun ns => .lst ((ns.mergeSort (fun a b => decide (a ≤ b))).map D.int) := rfl
theorem y_int : tyD (.int i) = some (.b "int") := rfl
theorem y_bl : tyD (.bl b) = some (.b "bool") := rfl
theorem y_non : tyD .non = some (.b "NoneType") := rfl
theorem y_str : tyD (.str s) = some (.b "str") := rfl
theorem y_tup : tyD (.tup xs) = some (.b "tuple") := rfl
theorem y_lst : tyD (.lst xs) = some (.b "list") := rfl
theorem y_obj {k : Nat} : tyD (.obj k xs) = some (.c k) := rfl
theorem k_ii : kit (.b "int") (.b "int") = some true := by decide +kernel
theorem k_ib : kit (.b "int") (.b "bool") = some false := by decide +kernel
theorem k_it : kit (.b "int") (.b "tuple") = some false := by decide +kernel
theorem k_il : kit (.b "int") (.b "list") = some false := by decide +kernel
theorem k_is : kit (.b "int") (.b "str") = some false := by decide +kernel
theorem k_tt : kit (.b "tuple") (.b "tuple") = some true := by decide +kernel
theorem k_tl : kit (.b "tuple") (.b "list") = some false := by decide +kernel
theorem k_ti : kit (.b "tuple") (.b "int") = some false := by decide +kernel
theorem k_tb : kit (.b "tuple") (.b "bool") = some false := by decide +kernel
theorem k_ll : kit (.b "list") (.b "list") = some true := by decide +kernel
theorem k_lt : kit (.b "list") (.b "tuple") = some false := by decide +kernel
theorem k_bi : kit (.b "bool") (.b "int") = some true := by decide +kernel
theorem k_bb : kit (.b "bool") (.b "bool") = some true := by decide +kernel
theorem k_bt : kit (.b "bool") (.b "tuple") = some false := by decide +kernel
theorem k_bl : kit (.b "bool") (.b "list") = some false := by decide +kernel
theorem k_nt : kit (.b "NoneType") (.b "tuple") = some false := by decide +kernel
theorem k_ss : kit (.b "str") (.b "str") = some true := by decide +kernel
theorem k_st : kit (.b "str") (.b "tuple") = some false := by decide +kernel
theorem k_cc {k l : Nat} : kit (.c k) (.c l) = some (decide (k = l)) := rfl
theorem ks_nil {u : Ty} : kits u [] = some false := rfl
theorem ks_cons {u c : Ty} {cs : List Ty} : kits u (c :: cs) = match kit u c with
    | some true => some true
    | some false => kits u cs
    | none => none := by rw [kits] <;> rfl
theorem as_int : asInt (.int i) = some i := rfl
theorem pg_cells : penGet "cells" st = some (.lst (st.cells.map D.int)) := rfl
theorem pg_at : penGet "at" st = some (.int st.at_) := rfl
theorem pg_digits : penGet "digits" st = some (.int st.digits) := rfl
theorem pg_count : penGet "count" st = some (.int st.count) := rfl
theorem pg_fold : penGet "fold" st = some (.int st.fold) := rfl
theorem ps_at : penSet "at" i st = some { st with at_ := i } := rfl
theorem ps_digits : penSet "digits" i st = some { st with digits := i } := rfl
theorem ps_count : penSet "count" i st = some { st with count := i } := rfl
theorem ps_fold : penSet "fold" i st = some { st with fold := i } := rfl
theorem q_tup : seqOf (.tup xs) = some xs := rfl
theorem q_lst : seqOf (.lst xs) = some xs := rfl
theorem z_tt : zipOf (.tup xs) (.tup ys) = some (zipD xs ys) := rfl
theorem z_ll : zipOf (.lst xs) (.lst ys) = some (zipD xs ys) := rfl
theorem ea_obj {k : Nat} : eqArgs k (.obj k xs) (.obj k ys) = some [.obj k xs, .obj k ys] := by simp [eqArgs]
theorem er_bl {ne : Bool} {p : PenS} : eqRes ne (.bl b) p = .ok (.bl (if ne = true then !b else b)) p := rfl
theorem se_d : Sl.see (.d x) = some x := rfl
theorem se_u : Sl.see .u = none := rfl
theorem se_o : Sl.see (.o xs) = none := rfl
theorem sb_d : Sl.seeB (.d x) = some x := rfl
theorem sb_u : Sl.seeB .u = none := rfl
theorem sb_o : Sl.seeB (.o xs) = some (.lst xs) := rfl
theorem fn_nx {ρ : SEnv} {p : PenS} {n : Nat} : (match ((Fl.nx, ρ) : Fl × SEnv) with | (fl, _) => (match fl with | .rt d => R.ok d p | .nx => .ok .non p | _ => .stuck)) = .ok .non p := rfl
end
theorem atI_nn {α : Type} {xs : List α} {i : Int} (h0 : 0 ≤ i) (h : i < xs.length) : atI xs i = xs[i.toNat]? := by
  unfold atI ixN
  rw [if_pos h0, if_pos h]
  rfl
theorem atI_neg {α : Type} {xs : List α} {i : Int} (h0 : i < 0) (h : -(xs.length : Int) ≤ i) : atI xs i = xs[(i + xs.length).toNat]? := by
  unfold atI ixN
  rw [if_neg (by omega)]
  simp only [h]
  simp
theorem mulOk_r {i j : Int} (h : -(2 ^ 64) < j ∧ j < 2 ^ 64) : mulOk i j := .inl (.inr h)
theorem mulOk_l {i j : Int} (h : -(2 ^ 64) < i ∧ i < 2 ^ 64) : mulOk i j := .inl (.inl h)
end Mi

set_option Elab.async false
set_option linter.all false
set_option maxRecDepth 100000
set_option maxHeartbeats 1000000
namespace Mi
open PySem PySem.Spec PyProof.Rows L2
theorem cat_ok {d : D} {p : PenS} {f : Nat → List D → Option D} : R.catch (.ok d p) f = .ok .non p := rfl
theorem cat_err {c : Nat} {fs : List D} {p : PenS} {f : Nat → List D → Option D} : R.catch (.err c fs p) f = R.of (f c fs) p := rfl
theorem f_repr {d : D} : bfn .repr [d] = reprD d := rfl
theorem mem1 {k : Nat} : (k ∈ [k]) = True := by simp
theorem mem2 {k j : Nat} : (k ∈ [k, j]) = True := by simp
theorem mem2b {k j : Nat} : (k ∈ [j, k]) = True := by simp
/-- of an int -/
def onInt (f : Int → D) : D → Option D
  | .int v => some (f v)
  | _ => none
theorem onInt_i {f : Int → D} {v : Int} : onInt f (.int v) = some (f v) := rfl
def PInv (p : PenS) : Prop := ∃ st, p = some st ∧ 0 ≤ st.at_
theorem cp18 : CPow 10 18 := by decide
theorem e18 : (10 : Int) ^ Int.toNat 18 = 1000000000000000000 := by decide
/-- the statements behind the first n -/
def dropSs : Nat → ISs → ISs
  | 0, r => r
  | n + 1, .cons _ r => dropSs n r
  | n + 1, .frz _ r => dropSs n r
  | _ + 1, .nil => .nil
theorem evSs_cons {S : Sem0} {a : IS} {r : ISs} {ρ : SEnv} {p : PenS} : evSs S (.cons a r) ρ p = (evS S a ρ p).bind fun (fl, ρ) p => match fl with
    | .nx => evSs S r ρ p
    | fl => .ok (fl, ρ) p := by rw [evSs] <;> rfl
def tW (xs : List Int) : D := .tup (xs.map D.int)
def lW (xs : List Int) : D := .lst (xs.map D.int)
section
variable {p : PenS}
/-- a comprehension that leaves the pen -/
theorem comp_pure {f : D → PenS → R (Option D)} {g : D → Option D} : ∀ {ds : List D}, (∀ d ∈ ds, f d p = .ok (g d) p) → compLoop (fun d p => (f d p).calm) ds p = .ok (ds.filterMap g) p
  | [], _ => rfl
  | d :: ds, h => by
    simp only [compLoop, h d (by simp), calm_ok', R.bind_ok, comp_pure (ds := ds) fun e he => h e (by simp [he])]
    cases q : g d <;> simp [q]
theorem compF {β : Type} {f : D → PenS → R (Option D)} {g : D → Option D} {ds : List D} (h : ∀ d ∈ ds, f d p = .ok (g d) p) (k : List D → PenS → R β) : (compLoop (fun d p => (f d p).calm) ds p).bind k = k (ds.filterMap g) p := by rw [comp_pure h]; rfl
theorem all_bl (xs : List Int) (f : Int → Bool) : bolsOf ((xs.map D.int).filterMap (onInt fun v => .bl (f v))) = some (xs.map f) := by
  induction xs with
  | nil => rfl
  | cons x xs ih => simp only [List.map_cons, List.filterMap_cons, onInt_i, bolsOf, ih]; rfl
theorem len_line {n : Nat} (h : n ≤ 1000) : n ≤ sizeLine := Nat.le_trans h (by rw [sizeLine_eq]; decide)
end
/-! ### equality of tuples of ints -/
theorem py_ints (xs : List Int) : pyAll (xs.map D.int) = xs.map PyData.int := by
  induction xs with
  | nil => rfl
  | cons x xs ih => simp only [List.map_cons, pyAll, ih]; rfl
theorem lay_ints (xs : List Int) : PyData.canLayAll0 (xs.map PyData.int) = true := by
  induction xs with
  | nil => rfl
  | cons x xs ih => simp only [List.map_cons, PyData.canLayAll0, ih]; rfl
theorem depth_ints (xs : List Int) : PyData.depthAll (xs.map PyData.int) = 0 := by
  induction xs with
  | nil => rfl
  | cons x xs ih => simp only [List.map_cons, PyData.depthAll, ih]; rfl
theorem eqv_ints : ∀ (xs ys : List Int), PyData.eqvAll (xs.map PyData.int) (ys.map PyData.int) = decide (xs = ys)
  | [], [] => rfl
  | [], _ :: _ => rfl
  | _ :: _, [] => rfl
  | x :: xs, y :: ys => by
    simp only [List.map_cons, PyData.eqvAll, PyData.eqv, eqv_ints xs ys, List.cons.injEq, Bool.decide_and]
    congr 1
theorem sh_tI (xs : List Int) : SeqAt.shaped (tW xs).py = true := by
  unfold tW SeqAt.shaped
  simp only [D.py, py_ints, PyData.canLay0, lay_ints, PyData.depth, depth_ints]
  decide
theorem deq_tI (xs ys : List Int) : deq (tW xs) (tW ys) = some (decide (xs = ys)) := by
  unfold deq
  rw [if_pos (by rw [sh_tI, sh_tI]; rfl)]
  unfold tW
  simp only [D.py, py_ints, PyData.eqv, eqv_ints]
theorem sh_lI (xs : List Int) : SeqAt.shaped (lW xs).py = true := by
  unfold lW SeqAt.shaped
  simp only [D.py, py_ints, PyData.canLay0, lay_ints, PyData.depth, depth_ints]
  decide
theorem deq_lI (xs ys : List Int) : deq (lW xs) (lW ys) = some (decide (xs = ys)) := by
  unfold deq
  rw [if_pos (by rw [sh_lI, sh_lI]; rfl)]
  unfold lW
  simp only [D.py, py_ints, PyData.eqv, eqv_ints]
theorem nil_tI : D.tup [] = tW [] := rfl
theorem nil_lI : D.lst [] = lW [] := rfl
theorem gDm {α : Type} {d : α} (xs : List α) {i : Nat} (h : i < xs.length) : xs.getD i d = xs[i] := by rw [List.getD_eq_getElem?_getD, List.getElem?_eq_getElem h]; rfl
/-! ### cuts -/
theorem cut_take (xs : List Int) {k : Int} (h : 0 ≤ k) : D.tup (Mi.cutD (xs.map D.int) none (some k)) = tW (xs.take k.toNat) := by
  unfold Mi.cutD tW
  rw [HT.sIx_none, show HT.sIx (xs.map D.int).length (xs.map D.int).length (some k) = min k.toNat xs.length by
    have := HT.sIx_nat (xs.map D.int).length (xs.map D.int).length k.toNat
    rw [Int.toNat_of_nonneg h] at this
    rw [this, List.length_map]]
  rw [List.drop_zero, Nat.sub_zero, ← List.map_take]
  congr 2
  rw [List.take_eq_take_iff]; omega
theorem cut_drop (xs : List Int) {k : Int} (h : 0 ≤ k) : D.tup (Mi.cutD (xs.map D.int) (some k) none) = tW (xs.drop k.toNat) := by
  unfold Mi.cutD tW
  rw [HT.sIx_none, show HT.sIx (xs.map D.int).length 0 (some k) = min k.toNat xs.length by
    have := HT.sIx_nat (xs.map D.int).length 0 k.toNat
    rw [Int.toNat_of_nonneg h] at this
    rw [this, List.length_map]]
  rw [← List.map_drop, List.length_map, ← List.map_take]
  congr 2
  rw [List.take_of_length_le (by rw [List.length_drop]; omega)]
  by_cases hk : k.toNat ≤ xs.length
  · rw [Nat.min_eq_left hk]
  · rw [Nat.min_eq_right (by omega), List.drop_of_length_le (Nat.le_refl _), List.drop_of_length_le (by omega)]
theorem cut_init (xs : List Int) (h : xs ≠ []) : D.tup (Mi.cutD (xs.map D.int) none (some (-1))) = tW xs.dropLast := by
  have hp : 0 < xs.length := List.length_pos_iff.mpr h
  unfold Mi.cutD tW
  rw [HT.sIx_none, show HT.sIx (xs.map D.int).length (xs.map D.int).length (some (-1)) = xs.length - 1 by
    simp only [HT.sIx, List.length_map]; rw [if_pos (by decide)]; omega]
  rw [List.drop_zero, Nat.sub_zero, ← List.map_take, List.dropLast_eq_take]
theorem cut_last (xs : List Int) (h : xs ≠ []) : D.tup (Mi.cutD (xs.map D.int) (some (-1)) none) = tW [xs.getLastD 0] := by
  have hp : 0 < xs.length := List.length_pos_iff.mpr h
  unfold Mi.cutD tW
  rw [HT.sIx_none, show HT.sIx (xs.map D.int).length 0 (some (-1)) = xs.length - 1 by
    simp only [HT.sIx, List.length_map]; rw [if_pos (by decide)]; omega]
  rw [← List.map_drop, List.length_map, ← List.map_take]
  congr 2
  rw [List.take_of_length_le (by rw [List.length_drop]; omega), List.drop_eq_getElem_cons (by omega), List.drop_of_length_le (by omega)]
  congr 1
  rw [List.getLastD_eq_getLast?, List.getLast?_eq_getElem?, List.getElem?_eq_getElem (by omega)]
  rfl
theorem at_last (xs : List Int) (h : xs ≠ []) : atI (xs.map D.int) (-1) = some (.int (xs.getLastD 0)) := by
  have hp : 0 < xs.length := List.length_pos_iff.mpr h
  rw [atI_neg (by decide) (by rw [List.length_map]; omega), List.length_map, List.getElem?_map, show ((-1 : Int) + (xs.length : Int)).toNat = xs.length - 1 by omega]
  rw [List.getLastD_eq_getLast?, List.getLast?_eq_getElem?]
  cases q : xs[xs.length - 1]? with
  | none => rw [List.getElem?_eq_none_iff] at q; omega
  | some v => rfl
theorem at_get (xs : List Int) {i : Int} (h0 : 0 ≤ i) (h : i < xs.length) : atI (xs.map D.int) i = some (.int (xs.getD i.toNat 0)) := by
  rw [atI_nn h0 (by rw [List.length_map]; exact h), List.getElem?_map, List.getElem?_eq_getElem (by omega), gDm _ (by omega)]
  rfl
theorem sz0 : 0 ≤ sizeLine := Nat.zero_le _
theorem sz1 : 1 ≤ sizeLine := by rw [sizeLine_eq]; decide
theorem sz2 : 2 ≤ sizeLine := by rw [sizeLine_eq]; decide
theorem sz3 : 3 ≤ sizeLine := by rw [sizeLine_eq]; decide
/-! ### loops -/
theorem whN_succ {c : SEnv → PenS → R Bool} {f : SEnv → PenS → R (Fl × SEnv)} : ∀ (n : Nat) (ρ : SEnv) (p : PenS), whN c f n ρ p ≠ .stuck → whN c f (n + 1) ρ p = whN c f n ρ p
  | 0, ρ, p, h => absurd rfl h
  | n + 1, ρ, p, h => by
    rw [whN] at h
    conv => lhs; rw [whN]
    conv => rhs; rw [whN]
    cases e1 : c ρ p with
    | stuck => rfl
    | err _ _ _ => rfl
    | ok k p1 =>
      rw [e1] at h
      simp only [R.bind_ok] at h ⊢
      cases k with
      | false => rfl
      | true =>
        simp only [if_true] at h ⊢
        cases e2 : f ρ p1 with
        | stuck => rfl
        | err _ _ _ => rfl
        | ok a p2 =>
          rw [e2] at h
          obtain ⟨fl, ρ2⟩ := a
          simp only [R.bind_ok] at h ⊢
          cases fl with
          | nx => exact whN_succ n ρ2 p2 h
          | ct => exact whN_succ n ρ2 p2 h
          | bk => rfl
          | rt d => rfl
theorem whN_more {c : SEnv → PenS → R Bool} {f : SEnv → PenS → R (Fl × SEnv)} {n : Nat} {ρ : SEnv} {p : PenS} (h : whN c f n ρ p ≠ .stuck) : ∀ k, whN c f (n + k) ρ p = whN c f n ρ p
  | 0 => rfl
  | k + 1 => by
    have ih := whN_more h k
    rw [← Nat.add_assoc, whN_succ (n + k) ρ p (by rw [ih]; exact h), ih]
theorem whW_eq {c : SEnv → PenS → R Bool} {f : SEnv → PenS → R (Fl × SEnv)} {n : Nat} {ρ : SEnv} {p : PenS} {r : R (Fl × SEnv)} (h : whN c f n ρ p = r) (hr : r ≠ .stuck) : whW c f ρ p = r := by
  have hn : whN c f n ρ p ≠ .stuck := by rw [h]; exact hr
  have hex : ∃ n, whN c f n ρ p ≠ .stuck := ⟨n, hn⟩
  unfold whW
  rw [dif_pos hex, ← h]
  have hc := hex.choose_spec
  generalize hex.choose = m at hc
  rcases Nat.le_total m n with hm | hm
  · obtain ⟨k, rfl⟩ := Nat.exists_eq_add_of_le hm
    exact (whN_more hc k).symm
  · obtain ⟨k, rfl⟩ := Nat.exists_eq_add_of_le hm
    exact whN_more hn k
/-- a loop that looks for the first -/
theorem loop_find {f : D → SEnv → PenS → R (Fl × SEnv)} {e : Sl → SEnv} {c : D → Bool} {v : D → D} {p : PenS} : ∀ {ds : List D}, (∀ d ∈ ds, ∀ z, f d (e z) p = if c d = true then .ok (.rt (v d), e (.d d)) p else .ok (.nx, e (.d d)) p) → ∀ z,
    (∃ d, ds.find? c = some d ∧ forLoop f ds (e z) p = .ok (.rt (v d), e (.d d)) p) ∨ (ds.find? c = none ∧ ∃ z', forLoop f ds (e z) p = .ok (.nx, e z') p)
  | [], _, z => .inr ⟨rfl, z, rfl⟩
  | d :: ds, h, z => by
    simp only [forLoop, h d (by simp) z, List.find?_cons]
    cases q : c d with
    | true => exact .inl ⟨d, rfl, rfl⟩
    | false =>
      rcases loop_find (ds := ds) (fun x hx => h x (by simp [hx])) (.d d) with ⟨y, h1, h2⟩ | ⟨h1, y, h2⟩
      · exact .inl ⟨y, h1, by simpa using h2⟩
      · exact .inr ⟨h1, y, by simpa using h2⟩
theorem loop_find_bind {β : Type} {f : D → SEnv → PenS → R (Fl × SEnv)} {e : Sl → SEnv} {c : D → Bool} {v : D → D} {p : PenS} {ds : List D} {k : Fl × SEnv → PenS → R β} {res : R β} (z : Sl)
    (hf : ∀ d ∈ ds, ∀ z, f d (e z) p = if c d = true then .ok (.rt (v d), e (.d d)) p else .ok (.nx, e (.d d)) p)
    (h1 : ∀ d, ds.find? c = some d → k (.rt (v d), e (.d d)) p = res) (h2 : ds.find? c = none → ∀ z', k (.nx, e z') p = res) : (forLoop f ds (e z) p).bind k = res := by
  rcases loop_find hf z with ⟨d, q1, q2⟩ | ⟨q1, z', q2⟩
  · rw [q2]; exact h1 d q1
  · rw [q2]; exact h2 q1 z'
theorem bind_assoc' {α β γ : Type} (r : R α) (f : α → PenS → R β) (g : β → PenS → R γ) : (r.bind f).bind g = r.bind fun a p => (f a p).bind g := by cases r <;> rfl
theorem rngOf_ok {a b : Int} (h1 : 0 ≤ a ∧ a ≤ 1000000) (h2 : 0 ≤ b ∧ b ≤ 1000000) : rngOf a b = some (rng a b) := by
  unfold rngOf
  rw [if_pos]
  refine ⟨⟨by omega, by omega⟩, ⟨by omega, by omega⟩, ?_⟩
  rw [sizeLine_eq]; omega
theorem rng_nat (a b : Nat) : rng a b = (List.range' a (b - a)).map fun k => D.int (k : Nat) := by
  unfold rng
  rw [List.range'_eq_map_range, List.map_map, show ((b : Int) - (a : Int)).toNat = b - a by omega]
  apply List.map_congr_left
  intro i _
  simp
theorem mem_rng {a b : Nat} {d : D} (h : d ∈ rng a b) : ∃ k, a ≤ k ∧ k < b ∧ d = .int (k : Nat) := by
  rw [rng_nat] at h
  obtain ⟨k, hk, rfl⟩ := List.mem_map.mp h
  rw [List.mem_range'] at hk
  obtain ⟨i, hi, rfl⟩ := hk
  exact ⟨_, by omega, by omega, rfl⟩
def onI (f : Nat → Bool) : D → Bool
  | .int k => f k.toNat
  | _ => false
theorem find_rng (a b : Nat) (f : Nat → Bool) : (rng a b).find? (onI f) = ((List.range' a (b - a)).find? f).map fun k => D.int (k : Nat) := by
  rw [rng_nat, List.find?_map]
  congr 1
theorem len_tI (xs : List Int) : bfn .len [tW xs] = some (.int xs.length) := by unfold tW; rw [f_lenT, List.length_map]
theorem sl_take (xs : List Int) {k : Int} (h : 0 ≤ k) : slc (tW xs) none (some k) = some (tW (xs.take k.toNat)) := by rw [← cut_take xs h]; rfl
theorem sl_drop (xs : List Int) {k : Int} (h : 0 ≤ k) : slc (tW xs) (some k) none = some (tW (xs.drop k.toNat)) := by rw [← cut_drop xs h]; rfl
theorem sl_init (xs : List Int) (h : xs ≠ []) : slc (tW xs) none (some (-1)) = some (tW xs.dropLast) := by rw [← cut_init xs h]; rfl
theorem sl_last (xs : List Int) (h : xs ≠ []) : slc (tW xs) (some (-1)) none = some (tW [xs.getLastD 0]) := by rw [← cut_last xs h]; rfl
theorem ix_last (xs : List Int) (h : xs ≠ []) : idx (tW xs) (.int (-1)) = some (.int (xs.getLastD 0)) := by unfold tW; rw [ixD_tup, at_last xs h]
theorem add_tI {u v : List Int} (h : u.length + v.length ≤ 1000) : Mi.bin .add (tW u) (tW v) = some (tW (u ++ v)) := by
  unfold tW
  rw [b_addT, if_pos (by rw [List.length_map, List.length_map]; exact len_line h), List.map_append]
theorem div_ok {i j : Int} (h : 0 < j ∧ j ≤ 1000) : divOk i j := .inl ⟨by omega, by omega⟩
theorem find_rng0 (b : Nat) (f : Nat → Bool) : (rng 0 b).find? (onI f) = ((List.range b).find? f).map fun k => D.int (k : Nat) := by
  have := find_rng 0 b f
  rw [Nat.sub_zero, ← List.range_eq_range'] at this
  exact this
theorem mem_rng0 {b : Nat} {d : D} (h : d ∈ rng 0 b) : ∃ k, k < b ∧ d = .int (k : Nat) := by
  obtain ⟨k, _, h2, h3⟩ := mem_rng (a := 0) h
  exact ⟨k, h2, h3⟩
theorem fm (a b : Nat) (h : 0 < b) : Int.fmod (a : Int) (b : Int) = ((a % b : Nat) : Int) := by rw [Int.fmod_eq_emod_of_nonneg _ (by omega), Int.natCast_emod]
/-- a loop that halves -/
def halfs (g : Nat → Int → Int) : Nat → Int → Int
  | 0, a => a
  | n + 1, a => halfs g ((n + 1) / 2) (g (n + 1) a)
  decreasing_by omega
theorem wh_half {c : SEnv → PenS → R Bool} {f : SEnv → PenS → R (Fl × SEnv)} {e : Nat → Int → SEnv} {g : Nat → Int → Int} {p : PenS} (hc : ∀ n a, c (e n a) p = .ok (decide (0 < n)) p) (hf : ∀ n a, 0 < n → f (e n a) p = .ok (.nx, e (n / 2) (g n a)) p) (n : Nat) (a : Int) :
    whW c f (e n a) p = .ok (.nx, e 0 (halfs g n a)) p := by
  suffices h : ∀ k n a, n < k → whN c f k (e n a) p = .ok (.nx, e 0 (halfs g n a)) p from whW_eq (h (n + 1) n a (by omega)) (by intro z; cases z)
  intro k
  induction k with
  | zero => intro n a h; omega
  | succ k ih =>
    intro n a h
    rw [whN, hc]
    cases n with
    | zero => simp [halfs]
    | succ n =>
      simp only [R.bind_ok, Nat.zero_lt_succ, decide_true, if_true, hf (n + 1) a (by omega)]
      rw [ih _ _ (by omega)]
      conv => rhs; rw [halfs]
theorem max_nat (a b : Nat) : (if (b : Int) > (a : Int) then (b : Int) else (a : Int)) = ((max a b : Nat) : Int) := by
  split <;> omega
theorem tup_of {xs : List Int} : seqOf (tW xs) = some (xs.map D.int) := rfl
theorem map_fm {xs : List Int} {f : Int → Int} : (xs.map D.int).filterMap (onInt fun v => .int (f v)) = (xs.map f).map D.int := by
  induction xs with
  | nil => rfl
  | cons x xs ih => simp only [List.map_cons, List.filterMap_cons, onInt_i, ih]
theorem nil_lst : deq (.lst []) (.lst []) = some true := by
  unfold deq
  rw [if_pos (by decide)]
  rfl
theorem ix_tI (xs : List Int) {k : Nat} (h : k < xs.length) : idx (tW xs) (.int (k : Nat)) = some (.int (xs.getD k 0)) := by
  unfold tW; rw [ixD_tup, at_get _ (by omega) (by omega)]; rfl
theorem comp_draw {f : D → PenS → R (Option D)} {b : Int} : ∀ {ds : List D} {p : PenS}, (∀ d ∈ ds, ∀ p, PInv p → ∃ v p', f d p = .ok (some (.int v)) p' ∧ PInv p' ∧ 0 ≤ v ∧ v < b) → PInv p →
    ∃ (ws : List Int) (p' : PenS), compLoop (fun d p => (f d p).calm) ds p = .ok (ws.map D.int) p' ∧ PInv p' ∧ ws.length = ds.length ∧ ∀ v ∈ ws, 0 ≤ v ∧ v < b
  | [], p, _, hp => ⟨[], p, rfl, hp, rfl, fun v hv => by simp at hv⟩
  | d :: ds, p, h, hp => by
    obtain ⟨v, p1, e1, h1, h2⟩ := h d (by simp) p hp
    obtain ⟨ws, p2, e2, h3, h4, h5⟩ := comp_draw (ds := ds) (fun d hd => h d (by simp [hd])) h1
    refine ⟨v :: ws, p2, ?_, h3, by simp [h4], fun u hu => ?_⟩
    · simp only [compLoop, e1, calm_ok', R.bind_ok, e2]
      rfl
    · rcases List.mem_cons.mp hu with rfl | hu
      · exact h2
      · exact h5 u hu
theorem log_small {n : Int} (h : n.natAbs < 2 ^ 64) : n.natAbs.log2 < 9000 := by
  by_cases h0 : n.natAbs = 0
  · rw [h0]; decide
  · have := (Nat.log2_lt h0).mpr h
    omega
def headS : ISs → IS
  | .cons a _ => a
  | _ => .pas
def forB : IS → ISs
  | .for_ _ _ b => b
  | _ => .nil
theorem evSs_nx {S : Sem0} {a : IS} {r : ISs} {ρ ρ1 : SEnv} {p p1 : PenS} {res : R (Fl × SEnv)} (h1 : evS S a ρ p = .ok (.nx, ρ1) p1) (h2 : evSs S r ρ1 p1 = res) : evSs S (.cons a r) ρ p = res := by
  rw [evSs_cons, h1]; exact h2
theorem evSs_nil {S : Sem0} {ρ : SEnv} {p : PenS} : evSs S .nil ρ p = .ok (.nx, ρ) p := by rw [evSs]
theorem loop_inv {f : D → SEnv → PenS → R (Fl × SEnv)} {Inv : SEnv → PenS → Prop} : ∀ {ds : List D} {ρ : SEnv} {p : PenS}, (∀ d ∈ ds, ∀ ρ p, Inv ρ p → ∃ ρ' p', f d ρ p = .ok (.nx, ρ') p' ∧ Inv ρ' p') → Inv ρ p → ∃ ρ' p', forLoop f ds ρ p = .ok (.nx, ρ') p' ∧ Inv ρ' p'
  | [], ρ, p, _, h => ⟨ρ, p, rfl, h⟩
  | d :: ds, ρ, p, hf, h => by
    obtain ⟨ρ1, p1, e1, h1⟩ := hf d (by simp) ρ p h
    obtain ⟨ρ2, p2, e2, h2⟩ := loop_inv (ds := ds) (fun d hd => hf d (by simp [hd])) h1
    exact ⟨ρ2, p2, by simp only [forLoop, e1, R.bind_ok, e2], h2⟩
theorem evS_for {S : Sem0} {tg : Tg} {it : II} {b : ISs} {ρ : SEnv} {p p1 : PenS} {ds : List D} (h : evI S it (see ρ) p = .ok ds p1) :
    evS S (.for_ tg it b) ρ p = forLoop (fun d ρ p => (R.of (tgSl ρ tg d) p).bind fun ρ p => evSs S b ρ p) ds ρ p1 := by
  rw [evS, h]; rfl
def whC : IS → IE
  | .whl c _ => c
  | _ => .non
def whB : IS → ISs
  | .whl _ b => b
  | _ => .nil
theorem whl_half {S : Sem0} {c : IE} {b : ISs} {e : Nat → Int → SEnv} {g : Nat → Int → Int} {p : PenS} (hc : ∀ n a, evT S c (seeB (e n a)) p = .ok (decide (0 < n)) p) (hf : ∀ n a, 0 < n → evSs S b (e n a) p = .ok (.nx, e (n / 2) (g n a)) p) (n : Nat) (a : Int) :
    evS S (.whl c b) (e n a) p = .ok (.nx, e 0 (halfs g n a)) p := by
  rw [evS]
  exact wh_half hc hf n a
theorem evFn_rt {S : Sem0} {n : Nat} {b : ISs} {ds : List D} {p p' : PenS} {d : D} {ρ' : SEnv} (h : evSs S b (ds.map Sl.d ++ List.replicate (n - ds.length) .u) p = .ok (.rt d, ρ') p') : evFn S n b ds p = .ok d p' := by
  unfold evFn; rw [h]; rfl
theorem evFn_err {S : Sem0} {n : Nat} {b : ISs} {ds : List D} {p p' : PenS} {c : Nat} {fs : List D} (h : evSs S b (ds.map Sl.d ++ List.replicate (n - ds.length) .u) p = .err c fs p') : evFn S n b ds p = .err c fs p' := by
  unfold evFn; rw [h]; rfl
theorem fd2 (n : Nat) : Int.fdiv (n : Int) 2 = ((n / 2 : Nat) : Int) := by rw [Int.fdiv_eq_ediv_of_nonneg _ (by omega)]; omega
theorem d2ok {x : Int} : divOk x 2 := div_ok ⟨by omega, by omega⟩
theorem pos_nat (n : Nat) : decide ((0 : Int) < (n : Int)) = decide (0 < n) := by
  by_cases h : 0 < n
  · rw [decide_eq_true h, decide_eq_true (by omega)]
  · rw [decide_eq_false h, decide_eq_false (by omega)]
theorem loop_idx {f : D → SEnv → PenS → R (Fl × SEnv)} {I : Nat → SEnv → PenS → Prop} : ∀ {ds : List D} {i : Nat} {ρ : SEnv} {p : PenS}, (∀ d ∈ ds, ∀ i ρ p, I i ρ p → ∃ ρ' p', f d ρ p = .ok (.nx, ρ') p' ∧ I (i + 1) ρ' p') → I i ρ p → ∃ ρ' p', forLoop f ds ρ p = .ok (.nx, ρ') p' ∧ I (i + ds.length) ρ' p'
  | [], i, ρ, p, _, h => ⟨ρ, p, rfl, h⟩
  | d :: ds, i, ρ, p, hf, h => by
    obtain ⟨ρ1, p1, e1, h1⟩ := hf d (by simp) i ρ p h
    obtain ⟨ρ2, p2, e2, h2⟩ := loop_idx (ds := ds) (fun d hd => hf d (by simp [hd])) h1
    refine ⟨ρ2, p2, by simp only [forLoop, e1, R.bind_ok, e2], ?_⟩
    rw [List.length_cons, show i + (ds.length + 1) = i + 1 + ds.length by omega]
    exact h2
theorem rng0_length (n : Nat) : (rng 0 (n : Int)).length = n := by unfold rng; simp
theorem rng0_eq (n : Nat) : rng 0 (n : Int) = (List.range n).map fun i => D.int (i : Nat) := by
  have := rng_nat 0 n
  rw [Nat.sub_zero, ← List.range_eq_range'] at this
  exact this
/-- a comprehension over a range, pure -/
theorem map_rng {β : Type} {f : D → PenS → R (Option D)} {h : Nat → Int} {n : Nat} {p : PenS} (hf : ∀ i : Nat, i < n → f (.int i) p = .ok (some (.int (h i))) p) (k : List D → PenS → R β) :
    (compLoop (fun d p => (f d p).calm) (rng 0 (n : Int)) p).bind k = k (((List.range n).map h).map D.int) p := by
  rw [compF (g := onInt fun i => .int (h i.toNat))]
  · congr 1
    rw [rng0_eq, List.filterMap_map, List.map_map]
    induction List.range n with
    | nil => rfl
    | cons i l ih => simp only [List.filterMap_cons, Function.comp_apply, onInt_i, Int.toNat_natCast, List.map_cons, ih]
  · intro d hd
    obtain ⟨i, hi, rfl⟩ := mem_rng0 hd
    rw [hf i hi]
    rfl
/-- a comprehension that tells places -/
theorem filt_rng0 {β : Type} {f : D → PenS → R (Option D)} {c : Nat → Bool} {n : Nat} {p : PenS} (hf : ∀ i : Nat, i < n → f (.int i) p = .ok (if c i = true then some (.int (i : Nat)) else none) p) (k : List D → PenS → R β) :
    (compLoop (fun d p => (f d p).calm) (rng 0 (n : Int)) p).bind k = k (((List.range n).filter c).map fun (i : Nat) => D.int (i : Nat)) p := by
  rw [compF (g := fun d => (onInt (fun i => .bl (c i.toNat)) d).bind fun x => match x with | .bl true => some d | _ => none)]
  · congr 1
    rw [rng0_eq, List.filterMap_map]
    induction List.range n with
    | nil => rfl
    | cons i l ih =>
      simp only [List.filterMap_cons, Function.comp_apply, onInt_i, Int.toNat_natCast, Option.bind_some, List.filter_cons]
      cases q : c i <;> simp [ih]
  · intro d hd
    obtain ⟨i, hi, rfl⟩ := mem_rng0 hd
    rw [hf i hi]
    simp only [onInt_i, Int.toNat_natCast, Option.bind_some]
    cases q : c i <;> rfl
/-- a comprehension over a list of ints, pure -/
theorem map_ints {β : Type} {f : D → PenS → R (Option D)} {h : Int → Int} {xs : List Int} {p : PenS} (hf : ∀ v ∈ xs, f (.int v) p = .ok (some (.int (h v))) p) (k : List D → PenS → R β) :
    (compLoop (fun d p => (f d p).calm) (xs.map D.int) p).bind k = k ((xs.map h).map D.int) p := by
  rw [compF (g := onInt fun i => .int (h i)), map_fm]
  intro d hd
  obtain ⟨i, hi, rfl⟩ := List.mem_map.mp hd
  rw [hf i hi]
  rfl
theorem filt_none {β : Type} {f : D → PenS → R (Option D)} {ds : List D} {p : PenS} (hf : ∀ d ∈ ds, f d p = .ok none p) (k : List D → PenS → R β) : (compLoop (fun d p => (f d p).calm) ds p).bind k = k [] p := by
  rw [compF (g := fun _ => none) hf]
  congr 1
  simp
theorem cut_ab (xs : List Int) (a b : Nat) : cutD (xs.map D.int) (some (a : Int)) (some (b : Int)) = ((xs.drop a).take (b - a)).map D.int := by
  unfold cutD
  rw [HT.sIx_nat, HT.sIx_nat, List.length_map, ← List.map_drop, ← List.map_take]
  congr 1
  by_cases h : a ≤ xs.length
  · rw [Nat.min_eq_left h, List.take_eq_take_iff, List.length_drop]; omega
  · rw [List.drop_of_length_le (i := min a xs.length) (by omega), List.drop_of_length_le (i := a) (by omega)]; simp
theorem cut_b (xs : List Int) (b : Nat) : cutD (xs.map D.int) none (some (b : Int)) = (xs.take b).map D.int := by
  have := cut_ab xs 0 b
  unfold cutD at this ⊢
  rw [HT.sIx_none]
  rw [show HT.sIx (xs.map D.int).length 0 (some ((0 : Nat) : Int)) = 0 by rw [HT.sIx_nat]; omega] at this
  rw [this, List.drop_zero, Nat.sub_zero]
theorem cut_a (xs : List Int) (a : Nat) : cutD (xs.map D.int) (some (a : Int)) none = (xs.drop a).map D.int := by
  have := cut_drop xs (k := (a : Int)) (by omega)
  unfold tW at this
  rw [D.tup.injEq, Int.toNat_natCast] at this
  exact this
theorem sl_ab (xs : List Int) (a b : Nat) : slc (lW xs) (some (a : Int)) (some (b : Int)) = some (lW ((xs.drop a).take (b - a))) := by unfold lW; rw [slD_lst, cut_ab]
theorem sl_b (xs : List Int) (b : Nat) : slc (lW xs) none (some (b : Int)) = some (lW (xs.take b)) := by unfold lW; rw [slD_lst, cut_b]
theorem sl_a (xs : List Int) (a : Nat) : slc (lW xs) (some (a : Int)) none = some (lW (xs.drop a)) := by unfold lW; rw [slD_lst, cut_a]
theorem ix_lW (xs : List Int) {k : Nat} (h : k < xs.length) : idx (lW xs) (.int (k : Nat)) = some (.int (xs.getD k 0)) := by
  unfold lW; rw [ixD_lst, at_get _ (by omega) (by omega)]; rfl
theorem len_lW (xs : List Int) : bfn .len [lW xs] = some (.int xs.length) := by unfold lW; rw [f_lenL, List.length_map]
theorem ints_ok (xs : List Int) : intsOf (xs.map D.int) = some xs := by
  induction xs with
  | nil => rfl
  | cons x xs ih => simp only [List.map_cons, intsOf, ih]; rfl
theorem sum_lW (xs : List Int) : bfn .sum [lW xs] = some (.int xs.sum) := by unfold lW; rw [f_sum, ints_ok]; rfl
theorem seq_lW (xs : List Int) : seqOf (lW xs) = some (xs.map D.int) := rfl
theorem fold_lW (xs : List Int) : D.lst (xs.map D.int) = lW xs := rfl
theorem cp6 : CPow 10 6 := by decide
theorem cp9 : CPow 10 9 := by decide
theorem cp12 : CPow 10 12 := by decide
theorem cp40 : CPow 10 40 := by decide
theorem e6 : (10 : Int) ^ Int.toNat 6 = 1000000 := by decide
theorem e9 : (10 : Int) ^ Int.toNat 9 = 1000000000 := by decide
theorem e12 : (10 : Int) ^ Int.toNat 12 = 1000000000000 := by decide
theorem e40 : (10 : Int) ^ Int.toNat 40 = 10000000000000000000000000000000000000000 := by decide
theorem n2z : ¬ ((2 : Int) = 0) := by decide
end Mi

/-! rows of figures: words ahead and rings, plainly -/
namespace RowP
abbrev W := List Int
theorem gD {l : W} {i : Nat} (d : Int) (h : i < l.length) : l.getD i d = l[i] := by rw [List.getD_eq_getElem?_getD, List.getElem?_eq_getElem h]; rfl
theorem gDl {u v : W} {i : Nat} (h : i < u.length) : (u ++ v).getD i 0 = u.getD i 0 := by rw [List.getD_eq_getElem?_getD, List.getD_eq_getElem?_getD, List.getElem?_append_left h]
theorem gDr {u v : W} {i : Nat} (h : u.length ≤ i) : (u ++ v).getD i 0 = v.getD (i - u.length) 0 := by rw [List.getD_eq_getElem?_getD, List.getD_eq_getElem?_getD, List.getElem?_append_right h]
def cyc (r : W) (i : Nat) : Int := r.getD (i % r.length) 0
def item (a r : W) (n : Nat) : Int := if n < a.length then a.getD n 0 else cyc r (n - a.length)
def pw (u : W) (k : Nat) : W := (List.replicate k u).flatten
def isP (w : W) (k : Nat) : Bool := decide (w.length % k = 0) && decide (pw (w.take k) (w.length / k) = w)
theorem pw_len (u : W) (k : Nat) : (pw u k).length = k * u.length := by
  unfold pw
  rw [List.length_flatten, List.map_replicate, List.sum_replicate_nat]
theorem pw_succ (u : W) (k : Nat) : pw u (k + 1) = u ++ pw u k := by
  unfold pw; rw [List.replicate_succ, List.flatten_cons]
theorem pw_get (u : W) (hu : u ≠ []) : ∀ (k i : Nat), i < k * u.length → (pw u k).getD i 0 = cyc u i
  | 0, i, h => by simp at h
  | k + 1, i, h => by
    rw [pw_succ]
    have hp : 0 < u.length := List.length_pos_iff.mpr hu
    by_cases hi : i < u.length
    · unfold cyc
      rw [Nat.mod_eq_of_lt hi, gDl hi]
    · have hi : u.length ≤ i := Nat.le_of_not_lt hi
      rw [gDr hi, pw_get u hu k (i - u.length) (by rw [Nat.succ_mul] at h; omega)]
      unfold cyc
      congr 1
      rw [← Nat.mod_eq_sub_mod hi]
theorem cyc_add {r : W} (i : Nat) : cyc r (i + r.length) = cyc r i := by unfold cyc; rw [Nat.add_mod_right]
theorem cyc_add_mul {r : W} (i : Nat) : ∀ k, cyc r (i + k * r.length) = cyc r i := fun k => by unfold cyc; rw [Nat.add_mul_mod_self_right]
theorem cyc_mod {r : W} (i : Nat) : cyc r (i % r.length) = cyc r i := by unfold cyc; rw [Nat.mod_mod]
theorem cyc_lt {r : W} {i : Nat} (h : i < r.length) : cyc r i = r.getD i 0 := by unfold cyc; rw [Nat.mod_eq_of_lt h]
theorem ext_getD {u v : W} (hl : u.length = v.length) (h : ∀ i, i < u.length → u.getD i 0 = v.getD i 0) : u = v := by
  apply List.ext_getElem hl
  intro i h1 h2
  have := h i h1
  rwa [gD _ h1, gD _ h2] at this
/-- a period within the ring -/
def Per (r : W) (g : Nat) : Prop := ∀ i, cyc r (i + g) = cyc r i
theorem Per.mul {r : W} {g : Nat} (h : Per r g) : ∀ k i, cyc r (i + k * g) = cyc r i
  | 0, i => by simp
  | k + 1, i => by rw [Nat.succ_mul, ← Nat.add_assoc, h, Per.mul h k i]
theorem Per.mod {r : W} {g : Nat} (h : Per r g) (i : Nat) : cyc r (i % g) = cyc r i := by
  have := h.mul (i / g) (i % g)
  rw [Nat.mul_comm, Nat.mod_add_div] at this
  exact this.symm
theorem isP_iff {w : W} {k : Nat} (hk : 0 < k) (hw : k ≤ w.length) : isP w k = true ↔ k ∣ w.length ∧ Per w k := by
  unfold isP
  simp only [Bool.and_eq_true, decide_eq_true_eq]
  have htl : (w.take k).length = k := by rw [List.length_take, Nat.min_eq_left hw]
  have hne : w.take k ≠ [] := fun e => by rw [e] at htl; simp at htl; omega
  constructor
  · rintro ⟨h1, h2⟩
    have hd : k ∣ w.length := Nat.dvd_of_mod_eq_zero h1
    refine ⟨hd, fun i => ?_⟩
    have gt : ∀ j, cyc w j = cyc (w.take k) j := fun j => by
      have hj : j % w.length < w.length := Nat.mod_lt _ (by omega)
      unfold cyc
      conv => lhs; rw [← h2]
      rw [pw_len, htl, Nat.div_mul_cancel hd, pw_get _ hne _ _ (by rw [htl, Nat.div_mul_cancel hd]; exact hj)]
      unfold cyc
      rw [htl, Nat.mod_mod_of_dvd _ hd]
    rw [gt, gt]
    unfold cyc
    rw [htl, Nat.add_mod_right]
  · rintro ⟨hd, hp⟩
    refine ⟨Nat.mod_eq_zero_of_dvd hd, ?_⟩
    apply ext_getD
    · rw [pw_len, htl, Nat.div_mul_cancel hd]
    · intro i hi
      rw [pw_len, htl, Nat.div_mul_cancel hd] at hi
      rw [pw_get _ hne _ _ (by rw [htl, Nat.div_mul_cancel hd]; exact hi)]
      have : cyc (w.take k) i = cyc w (i % k) := by
        have hik : i % k < k := Nat.mod_lt _ hk
        unfold cyc
        rw [htl, Nat.mod_eq_of_lt (show i % k < w.length by omega)]
        rw [gD _ (by rw [htl]; exact hik), gD _ (by omega), List.getElem_take]
      rw [this, hp.mod, cyc_lt hi]
/-- the shortest word of a ring -/
def rootN (w : W) : Nat := ((List.range' 1 (w.length - 1)).find? (isP w)).getD w.length
def root (w : W) : W := w.take (rootN w)
def Prim (r : W) : Prop := ∀ g, 0 < g → g ∣ r.length → Per r g → g = r.length
theorem isP_len {w : W} (h : w ≠ []) : isP w w.length = true := by
  unfold isP
  have : 0 < w.length := List.length_pos_iff.mpr h
  simp [Nat.div_self this, pw]
theorem rootN_ok {w : W} (h : w ≠ []) : 0 < rootN w ∧ rootN w ≤ w.length ∧ isP w (rootN w) = true ∧ ∀ k, 0 < k → k < rootN w → isP w k = false := by
  have hp : 0 < w.length := List.length_pos_iff.mpr h
  unfold rootN
  cases q : (List.range' 1 (w.length - 1)).find? (isP w) with
  | none =>
    simp only [Option.getD_none]
    refine ⟨hp, Nat.le_refl _, isP_len h, fun k h1 h2 => ?_⟩
    have := List.find?_eq_none.mp q k (by rw [List.mem_range']; exact ⟨k - 1, by omega, by omega⟩)
    simpa using this
  | some k =>
    simp only [Option.getD_some]
    have hk := List.find?_some q
    have hm := List.mem_of_find?_eq_some q
    rw [List.mem_range'] at hm
    obtain ⟨i, hi, rfl⟩ := hm
    refine ⟨by omega, by omega, hk, fun j h1 h2 => ?_⟩
    rw [List.find?_eq_some_iff_append] at q
    obtain ⟨_, as, bs, e, hno⟩ := q
    have hj : j ∈ as := by
      have hl : (List.range' 1 (w.length - 1))[j - 1]? = some j := by
        rw [List.getElem?_range' (by omega)]
        congr 1; omega
      have hasl : as.length = i := by
        have e1 : (List.range' 1 (w.length - 1))[as.length]? = some (1 + 1 * i) := by rw [e]; simp
        have hl2 : as.length < w.length - 1 := by
          have := congrArg List.length e
          simp at this; omega
        rw [List.getElem?_range' hl2] at e1
        simp at e1; omega
      rw [e, List.getElem?_append_left (by omega)] at hl
      exact List.mem_of_getElem? hl
    have := hno j hj
    simpa using this
theorem cyc_take {w : W} {k : Nat} (hk : 0 < k) (hw : k ≤ w.length) (hp : Per w k) (i : Nat) : cyc (w.take k) i = cyc w i := by
  have htl : (w.take k).length = k := by rw [List.length_take, Nat.min_eq_left hw]
  have hik : i % k < k := Nat.mod_lt _ hk
  rw [← hp.mod i]
  unfold cyc
  rw [htl, Nat.mod_eq_of_lt (show i % k < w.length by omega), gD _ (by rw [htl]; exact hik), gD _ (by omega), List.getElem_take]
theorem root_ok {w : W} (h : w ≠ []) : root w ≠ [] ∧ (root w).length = rootN w ∧ (∀ i, cyc (root w) i = cyc w i) ∧ Prim (root w) := by
  obtain ⟨h1, h2, h3, h4⟩ := rootN_ok h
  obtain ⟨hd, hp⟩ := (isP_iff h1 h2).mp h3
  have htl : (root w).length = rootN w := by unfold root; rw [List.length_take, Nat.min_eq_left h2]
  have hc : ∀ i, cyc (root w) i = cyc w i := cyc_take h1 h2 hp
  refine ⟨fun e => by rw [e] at htl; simp at htl; omega, htl, hc, fun g hg hdv hper => ?_⟩
  rw [htl] at hdv ⊢
  by_cases he : g = rootN w
  · exact he
  · have hlt : g < rootN w := Nat.lt_of_le_of_ne (Nat.le_of_dvd h1 hdv) he
    have := h4 g hg hlt
    rw [(isP_iff hg (by omega)).mpr ⟨Nat.dvd_trans hdv hd, fun i => by rw [← hc, ← hc]; exact hper i⟩] at this
    cases this
/-- one figure from the word ahead to the ring -/
def turn (r : W) : W := r.getLastD 0 :: r.dropLast
def stripR : Nat → W → W → W × W
  | 0, a, r => (a, r)
  | n + 1, a, r => if a ≠ [] ∧ a.getLastD 0 = r.getLastD 0 then stripR n a.dropLast (turn r) else (a, r)
def least (a r : W) : W × W := stripR a.length a (root r)
theorem last_cyc {r : W} (h : r ≠ []) : r.getLastD 0 = cyc r (r.length - 1) := by
  have hp : 0 < r.length := List.length_pos_iff.mpr h
  rw [cyc_lt (by omega), gD _ (by omega)]
  rw [List.getLastD_eq_getLast?, List.getLast?_eq_getElem?, List.getElem?_eq_getElem (by omega)]
  rfl
theorem turn_len {r : W} (h : r ≠ []) : (turn r).length = r.length := by
  have hp : 0 < r.length := List.length_pos_iff.mpr h
  unfold turn; simp; omega
theorem turn_cyc {r : W} (h : r ≠ []) (i : Nat) : cyc (turn r) i = cyc r (i + r.length - 1) := by
  have hp : 0 < r.length := List.length_pos_iff.mpr h
  have hl := turn_len h
  have hi : i % r.length < r.length := Nat.mod_lt _ hp
  have e : (i + r.length - 1) % r.length = (i % r.length + r.length - 1) % r.length := by
    conv => lhs; rw [← Nat.div_add_mod i r.length]
    rw [show r.length * (i / r.length) + i % r.length + r.length - 1 = (i % r.length + r.length - 1) + r.length * (i / r.length) by omega, Nat.add_mul_mod_self_left]
  unfold cyc
  rw [hl, e]
  cases q : i % r.length with
  | zero =>
    rw [show (0 + r.length - 1) % r.length = r.length - 1 by rw [Nat.mod_eq_of_lt] <;> omega]
    show r.getLastD 0 = _
    rw [last_cyc h, cyc_lt (by omega)]
  | succ j =>
    rw [show (j + 1 + r.length - 1) % r.length = j by rw [show j + 1 + r.length - 1 = j + r.length by omega, Nat.add_mod_right, Nat.mod_eq_of_lt (by omega)]]
    show (r.getLastD 0 :: r.dropLast).getD (j + 1) 0 = _
    rw [List.getD_cons_succ, gD _ (by rw [List.length_dropLast]; omega), gD _ (by omega), List.getElem_dropLast]
theorem turn_prim {r : W} (h : r ≠ []) (hp : Prim r) : Prim (turn r) := fun g hg hd hper => by
  have hlp : 0 < r.length := List.length_pos_iff.mpr h
  rw [turn_len h] at hd ⊢
  refine hp g hg hd fun i => ?_
  have := hper (i + 1)
  rw [turn_cyc h, turn_cyc h] at this
  rw [show i + 1 + g + r.length - 1 = (i + g) + r.length by omega, show i + 1 + r.length - 1 = i + r.length by omega, cyc_add, cyc_add] at this
  exact this
/-- reduced: nothing to be shortened -/
structure Red (a r : W) : Prop where
  ne : r ≠ []
  prim : Prim r
  last : a ≠ [] → a.getLastD 0 ≠ r.getLastD 0
theorem item_turn {a r : W} (ha : a ≠ []) (hr : r ≠ []) (hl : a.getLastD 0 = r.getLastD 0) (n : Nat) : item a.dropLast (turn r) n = item a r n := by
  have hap : 0 < a.length := List.length_pos_iff.mpr ha
  have hrp : 0 < r.length := List.length_pos_iff.mpr hr
  unfold item
  rw [List.length_dropLast]
  by_cases h1 : n < a.length - 1
  · rw [if_pos h1, if_pos (by omega), gD _ (by rw [List.length_dropLast]; omega), gD _ (by omega), List.getElem_dropLast]
  · rw [if_neg h1, turn_cyc hr]
    by_cases h2 : n < a.length
    · rw [if_pos h2]
      have : n = a.length - 1 := by omega
      subst this
      rw [show a.length - 1 - (a.length - 1) + r.length - 1 = r.length - 1 by omega, ← last_cyc hr, ← hl, last_cyc ha, cyc_lt (by omega)]
    · rw [if_neg h2, show n - (a.length - 1) + r.length - 1 = (n - a.length) + r.length by omega, cyc_add]
theorem stripR_ok : ∀ (n : Nat) (a r : W), r ≠ [] → Prim r → a.length ≤ n → Red (stripR n a r).1 (stripR n a r).2 ∧ ∀ i, item (stripR n a r).1 (stripR n a r).2 i = item a r i
  | 0, a, r, hr, hp, hn => by
    have : a = [] := List.eq_nil_of_length_eq_zero (by omega)
    subst this
    exact ⟨⟨hr, hp, fun h => absurd rfl h⟩, fun i => rfl⟩
  | n + 1, a, r, hr, hp, hn => by
    unfold stripR
    split
    · rename_i h
      have ht : turn r ≠ [] := by unfold turn; simp
      obtain ⟨q1, q2⟩ := stripR_ok n a.dropLast (turn r) ht (turn_prim hr hp) (by rw [List.length_dropLast]; omega)
      exact ⟨q1, fun i => by rw [q2, item_turn h.1 hr h.2]⟩
    · rename_i h
      exact ⟨⟨hr, hp, fun h1 h2 => h ⟨h1, h2⟩⟩, fun i => rfl⟩
theorem item_congr {a r s : W} (h : ∀ i, cyc r i = cyc s i) (n : Nat) : item a r n = item a s n := by
  unfold item; split
  · rfl
  · exact h _
theorem least_ok {a r : W} (h : r ≠ []) : Red (least a r).1 (least a r).2 ∧ ∀ i, item (least a r).1 (least a r).2 i = item a r i := by
  obtain ⟨h1, h2, h3, h4⟩ := root_ok h
  obtain ⟨q1, q2⟩ := stripR_ok a.length a (root r) h1 h4 (Nat.le_refl _)
  exact ⟨q1, fun i => by rw [show (least a r) = stripR a.length a (root r) from rfl, q2, item_congr h3]⟩
theorem item_late {a r : W} {n : Nat} (h : a.length ≤ n) : item a r n = cyc r (n - a.length) := by unfold item; rw [if_neg (by omega)]
theorem item_per {a r : W} {n : Nat} (h : a.length ≤ n) : item a r (n + r.length) = item a r n := by
  rw [item_late h, item_late (by omega), show n + r.length - a.length = (n - a.length) + r.length by omega, cyc_add]
theorem item_perk {a r : W} {n : Nat} (h : a.length ≤ n) : ∀ k, item a r (n + k * r.length) = item a r n
  | 0 => by simp
  | k + 1 => by rw [Nat.succ_mul, ← Nat.add_assoc, item_per (by omega), item_perk h k]
/-- a ring's length divides each late period of its row -/
theorem prim_dvd {a r : W} (hr : r ≠ []) (hp : Prim r) {q N : Nat} (h : ∀ n, N ≤ n → item a r (n + q) = item a r n) : r.length ∣ q := by
  have hlp : 0 < r.length := List.length_pos_iff.mpr hr
  -- q is a period of the ring
  have pq : Per r q := fun i => by
    have e1 : item a r ((a.length + i + N * r.length) + q) = item a r (a.length + i + N * r.length) := h _ (by have := Nat.le_mul_of_pos_right N hlp; omega)
    rw [item_late (by omega), item_late (by omega)] at e1
    rw [show a.length + i + N * r.length + q - a.length = (i + q) + N * r.length by omega, show a.length + i + N * r.length - a.length = i + N * r.length by omega, cyc_add_mul, cyc_add_mul] at e1
    exact e1
  -- so is the greatest common divisor
  have pg : Per r (Nat.gcd r.length q) := by
    have key : ∀ n m : Nat, Per r n → Per r m → Per r (Nat.gcd n m) := by
      intro n m
      induction n, m using Nat.gcd.induction with
      | H0 m => intro _ h2; rw [Nat.gcd_zero_left]; exact h2
      | H1 n m hn ih =>
        intro h1 h2
        rw [Nat.gcd_rec]
        refine ih (fun i => ?_) h1
        have e := h1.mul (m / n) (i + m % n)
        rw [show i + m % n + m / n * n = i + m by have := Nat.div_add_mod m n; rw [Nat.mul_comm] at this; omega, h2] at e
        exact e.symm
    exact key _ _ (fun i => cyc_add i) pq
  have := hp _ (Nat.gcd_pos_of_pos_left _ hlp) (Nat.gcd_dvd_left _ _) pg
  rw [← this]
  exact Nat.gcd_dvd_right _ _
theorem red_len {a r b s : W} (h1 : Red a r) (h2 : Red b s) (h : ∀ n, item a r n = item b s n) : r.length = s.length ∧ a.length = b.length := by
  have e : r.length = s.length := by
    apply Nat.dvd_antisymm
    · exact prim_dvd h1.ne h1.prim (N := b.length) fun n hn => by rw [h, h, item_per hn]
    · exact prim_dvd h2.ne h2.prim (N := a.length) fun n hn => by rw [← h, ← h, item_per hn]
  refine ⟨e, ?_⟩
  have key : ∀ {a r b s : W}, Red a r → Red b s → (∀ n, item a r n = item b s n) → r.length = s.length → ¬ a.length < b.length := by
    intro a r b s h1 h2 h e hlt
    have hb : b ≠ [] := fun z => by rw [z] at hlt; simp at hlt
    have hsp : 0 < s.length := List.length_pos_iff.mpr h2.ne
    apply h2.last hb
    have e1 : item b s (b.length - 1) = b.getLastD 0 := by
      unfold item; rw [if_pos (by omega), last_cyc hb, cyc_lt (by omega)]
    have e2 : item b s (b.length - 1 + s.length) = s.getLastD 0 := by
      rw [item_late (by omega), last_cyc h2.ne, show b.length - 1 + s.length - b.length = s.length - 1 by omega]
    rw [← e1, ← e2, ← h, ← h, ← e, item_per (by omega)]
  have k1 := key h1 h2 h e
  have k2 := key h2 h1 (fun n => (h n).symm) e.symm
  omega
theorem red_eq {a r b s : W} (h1 : Red a r) (h2 : Red b s) (h : ∀ n, item a r n = item b s n) : a = b ∧ r = s := by
  obtain ⟨e1, e2⟩ := red_len h1 h2 h
  constructor
  · apply ext_getD e2
    intro i hi
    have := h i
    unfold item at this
    rwa [if_pos hi, if_pos (by omega)] at this
  · apply ext_getD e1
    intro i hi
    have := h (a.length + i)
    rw [item_late (by omega), item_late (by omega), e2, Nat.add_sub_cancel_left, cyc_lt hi, cyc_lt (by omega)] at this
    exact this
/-- LEAST FORMS ALIKE EXACTLY FOR ONE ROW -/
theorem canon {a r b s : W} (hr : r ≠ []) (hs : s ≠ []) : least a r = least b s ↔ ∀ n, item a r n = item b s n := by
  obtain ⟨p1, p2⟩ := least_ok (a := a) hr
  obtain ⟨q1, q2⟩ := least_ok (a := b) hs
  constructor
  · intro e n
    rw [← p2, ← q2, e]
  · intro e
    obtain ⟨z1, z2⟩ := red_eq p1 q1 fun n => by rw [p2, q2, e]
    exact Prod.ext z1 z2
end RowP

set_option Elab.async false
set_option linter.all false
set_option maxRecDepth 100000
namespace Lk91
open PySem PySem.Spec PyProof.Rows L2 Mi

def T_cons_0 : List (Str × Int) := [("MOST_FIGURE", 20), ("MOST_ITEM", 10000000000000000000000000000000000000000), ("MOST_ITEMS", 400), ("MOST_INDEX", 1000000000)]
def T_fns_0 : List (Str × Nat) := [("as_tuples", 1), ("as_tuples", 1), ("as_tuples", 1), ("as_tuples", 1), ("_law_draw", 2), ("_law_morse", 1), ("_law_pick", 2), ("golden_by", 1), ("is_integer", 1), ("is_between", 3), ("need_figure", 1), ("golden_row", 1), ("item_by", 2), ("need_index", 1), ("are_figures", 2), ("is_row", 2), ("need_row", 3), ("item_at", 3), ("odd_ones", 1), ("loreti_by", 2), ("loreti_item", 2), ("", 2), ("_law_loreti_right", 1), ("_law_is", 2), ("_law_is", 2)]
def T_fns_1 : List (Str × Nat) := [("_law_is", 2), ("_law_wide", 2), ("need_between", 4), ("morse_item", 1), ("_law_fault", 1), ("_law_az_one", 2), ("_law_az_two", 3), ("_law_morse_right", 1)]
def T_clss_0 : List (Str × Nat × List Str) := [("Row", 2, ["ahead", "ring"])]
def T_excs_0 : XTab := [("BadNumber", ["what", "number"]), ("BadRow", ["what", "row"]), ("BadTable", ["what"]), ("BadBase", ["what"]), ("BadBook", ["what"]), ("BadName", ["name"]), ("BadText", ["line", "word"]), ("NoPlace", ["what", "index"]), ("NoName", ["name"]), ("TakenName", ["name"]), ("Unlike", ["what"]), ("NotThere", ["paper"]), ("TooMany", ["what", "many", "limit"]), ("NotKept", ["promise", "witness"]), ("NothingToUndo", []), ("NothingToRedo", [])]
def excs : XTab := T_excs_0
def ents0 : List KEnt := [⟨0, "number", [("what", false), ("number", true)]⟩, ⟨1, "row", [("what", false), ("row", true)]⟩, ⟨2, "table", [("what", false)]⟩, ⟨3, "base", [("what", false)]⟩, ⟨4, "book", [("what", false)]⟩, ⟨5, "badname", [("name", true)]⟩, ⟨6, "text", [("line", false), ("word", false)]⟩, ⟨7, "place", [("what", false), ("index", true)]⟩]
def ents1 : List KEnt := [⟨8, "noname", [("name", true)]⟩, ⟨9, "taken", [("name", true)]⟩, ⟨10, "unlike", [("what", false)]⟩, ⟨11, "notthere", [("paper", false)]⟩, ⟨12, "many", [("what", false), ("many", false), ("limit", false)]⟩, ⟨13, "kept", [("promise", false), ("witness", false)]⟩, ⟨14, "undo", []⟩, ⟨15, "redo", []⟩]
def lvc_0 : List Nat := [2, 4, 6, 8, 2, 2, 4, 2, 2, 4, 6, 12, 2, 4, 6, 12, 14, 16, 2, 4, 8, 12, 18, 2, 4]
def lvc_1 : List Nat := [6, 4, 6, 8, 15, 17, 17, 10]
def lv : Nat → Nat := fun i => (lvc_0 ++ lvc_1 : List Nat).getD i 0
def ilv : Nat → Nat := fun i => ([10] : List Nat).getD i 0
def T : Tab where
  cons := T_cons_0
  fns := T_fns_0 ++ T_fns_1
  clss := T_clss_0
  eqs := [(0, 21)]
  excs := excs
  fg := 29
  lamN := fun i => decide (i < 33) && decide (lv i + 1 ≤ 13)
  k2 := 13
  ilv := ilv
  fl := flOf excs ents0 ents1
def ats_0 : List AtN := [("as_tuples", none), ("as_tuples", none), ("as_tuples", none), ("as_tuples", none), ("_law_draw", none), ("_law_morse", none), ("_law_pick", none), ("golden_by", none), ("is_integer", none), ("is_between", none), ("need_figure", none), ("golden_row", none), ("item_by", none), ("need_index", none), ("are_figures", none), ("is_row", none), ("need_row", none), ("item_at", none), ("odd_ones", none), ("loreti_by", none), ("loreti_item", none), ("Row", some "__eq__"), ("_law_loreti_right", none), ("_law_is", none), ("_law_is", none)]
def ats_1 : List AtN := [("_law_is", none), ("_law_wide", none), ("need_between", none), ("morse_item", none), ("_law_fault", none), ("_law_az_one", none), ("_law_az_two", none), ("_law_morse_right", none)]
def ats : List AtN := ats_0 ++ ats_1
noncomputable def L0 : List Den := []
noncomputable def I0 : List Ini := []
def N_as_tuples_0 : List Str := ["value", "one"]
noncomputable def d_as_tuples_0 : Den := stuckD
noncomputable def L1 : List Den := L0 ++ [d_as_tuples_0]
def N_as_tuples_1 : List Str := ["value", "one"]
def ir_as_tuples_1 : ISs := .cons (.iff (.isis (.var 0) [.b "list", .b "tuple"]) (.cons (.ret (.blt .tuple (.cons (.comp (.call 0 (.cons (.var 1) (.nil))) (.nm 1) (.seq (.var 0)) (.nil) [("one", 1)]) (.nil)))) (.nil)) (.nil)) (.cons (.ret (.var 0)) (.nil))
noncomputable def S_as_tuples_1 : Sem0 := mkS T (attOf T) L1 I0
noncomputable def d_as_tuples_1 : Den := evFn S_as_tuples_1 2 ir_as_tuples_1
noncomputable def L2 : List Den := L1 ++ [d_as_tuples_1]
def N_as_tuples_2 : List Str := ["value", "one"]
def ir_as_tuples_2 : ISs := .cons (.iff (.isis (.var 0) [.b "list", .b "tuple"]) (.cons (.ret (.blt .tuple (.cons (.comp (.call 1 (.cons (.var 1) (.nil))) (.nm 1) (.seq (.var 0)) (.nil) [("one", 1)]) (.nil)))) (.nil)) (.nil)) (.cons (.ret (.var 0)) (.nil))
noncomputable def S_as_tuples_2 : Sem0 := mkS T (attOf T) L2 I0
noncomputable def d_as_tuples_2 : Den := evFn S_as_tuples_2 2 ir_as_tuples_2
noncomputable def L3 : List Den := L2 ++ [d_as_tuples_2]
def N_as_tuples_3 : List Str := ["value", "one"]
def ir_as_tuples_3 : ISs := .cons (.iff (.isis (.var 0) [.b "list", .b "tuple"]) (.cons (.ret (.blt .tuple (.cons (.comp (.call 2 (.cons (.var 1) (.nil))) (.nm 1) (.seq (.var 0)) (.nil) [("one", 1)]) (.nil)))) (.nil)) (.nil)) (.cons (.ret (.var 0)) (.nil))
noncomputable def S_as_tuples_3 : Sem0 := mkS T (attOf T) L3 I0
noncomputable def d_as_tuples_3 : Den := evFn S_as_tuples_3 2 ir_as_tuples_3
noncomputable def L4 : List Den := L3 ++ [d_as_tuples_3]
def N_init_Row : List Str := ["self", "ahead", "ring"]
def ir_init_Row : ISs := .cons (.setf 0 "ahead" (.call 3 (.cons (.var 1) (.nil)))) (.cons (.setf 0 "ring" (.call 3 (.cons (.var 2) (.nil)))) (.nil))
noncomputable def S_init_Row : Sem0 := mkS T (attOf T) L4 I0
noncomputable def i_Row : Ini := evIni S_init_Row 3 0 ir_init_Row
noncomputable def I5 : List Ini := I0 ++ [i_Row]
def N__law_draw : List Str := ["pen", "many", "blend", "cell", "digit"]
def ir__law_draw : ISs := .cons (.pset "count" (.bin .add (.pget (.var 0) "count") (.int 1)) (.var 0)) (.cons (.iff (.and (.cons (.cmp .eq (.pget (.var 0) "digits") (.int 0)) (.cons (.cmp .lt (.pget (.var 0) "at") (.blt .len (.cons (.pget (.var 0) "cells") (.nil)))) (.nil)))) (.cons (.asg 3 (.ix (.pget (.var 0) "cells") (.pget (.var 0) "at"))) (.cons (.pset "at" (.bin .add (.pget (.var 0) "at") (.int 1)) (.var 0)) (.cons (.iff (.cmp .ge (.var 3) (.bin .pow (.int 10) (.int 18))) (.cons (.pset "digits" (.bin .sub (.var 3) (.bin .pow (.int 10) (.int 18))) (.var 0)) (.nil)) (.cons (.pset "fold" (.bin .mod (.blt .int (.cons (.bin .add (.bin .mul (.pget (.var 0) "fold") (.int 69069)) (.var 3)) (.nil))) (.int 2147483587)) (.var 0)) (.nil))) (.nil)))) (.nil)) (.cons (.iff (.cmp .gt (.pget (.var 0) "digits") (.int 0)) (.cons (.asg 4 (.bin .mod (.blt .int (.cons (.pget (.var 0) "digits") (.nil))) (.var 1))) (.cons (.pset "digits" (.bin .fdiv (.pget (.var 0) "digits") (.var 1)) (.var 0)) (.cons (.ret (.var 4)) (.nil)))) (.nil)) (.cons (.asg 2 (.bin .mod (.blt .int (.cons (.bin .add (.bin .add (.bin .mul (.pget (.var 0) "fold") (.int 48271)) (.bin .mul (.pget (.var 0) "count") (.int 7919))) (.int 13)) (.nil))) (.int 2147483647))) (.cons (.asg 2 (.bin .mod (.blt .int (.cons (.bin .add (.bin .add (.bin .mul (.var 2) (.var 2)) (.bin .mul (.int 31) (.var 2))) (.pget (.var 0) "count")) (.nil))) (.int 2147483629))) (.cons (.pset "fold" (.bin .mod (.blt .int (.cons (.bin .add (.bin .mul (.var 2) (.int 16807)) (.int 7)) (.nil))) (.int 2147483647)) (.var 0)) (.cons (.ret (.bin .mod (.blt .int (.cons (.bin .fdiv (.var 2) (.int 64)) (.nil))) (.var 1))) (.nil)))))))
noncomputable def S__law_draw : Sem0 := mkS T (attOf T) L4 I5
noncomputable def d__law_draw : Den := evFn S__law_draw 5 ir__law_draw
noncomputable def L6 : List Den := L4 ++ [d__law_draw]
def N__law_morse : List Str := ["at", "found"]
def ir__law_morse : ISs := .cons (.asg 1 (.int 0)) (.cons (.whl (.cmp .gt (.var 0) (.int 0)) (.cons (.par 0 1 (.bin .fdiv (.var 0) (.int 2)) (.bin .add (.var 1) (.bin .mod (.blt .int (.cons (.var 0) (.nil))) (.int 2)))) (.nil))) (.cons (.ret (.bin .mod (.blt .int (.cons (.var 1) (.nil))) (.int 2))) (.nil)))
noncomputable def S__law_morse : Sem0 := mkS T (attOf T) L6 I5
noncomputable def d__law_morse : Den := evFn S__law_morse 2 ir__law_morse
noncomputable def L7 : List Den := L6 ++ [d__law_morse]
def N__law_pick : List Str := ["pen", "some"]
def ir__law_pick : ISs := .cons (.ret (.ix (.var 1) (.call 4 (.cons (.var 0) (.cons (.blt .len (.cons (.var 1) (.nil))) (.nil)))))) (.nil)
noncomputable def S__law_pick : Sem0 := mkS T (attOf T) L7 I5
noncomputable def d__law_pick : Den := evFn S__law_pick 2 ir__law_pick
noncomputable def L8 : List Den := L7 ++ [d__law_pick]
def N_golden_by : List Str := ["m", "k"]
def ir_golden_by : ISs := .cons (.asg 1 (.bin .fdiv (.var 0) (.int 2))) (.cons (.ret (.ite (.cmp .eq (.bin .mod (.var 0) (.int 2)) (.int 0)) (.tup (.cons (.tup (.nil)) (.cons (.tup (.cons (.var 1) (.nil))) (.nil)))) (.tup (.cons (.tup (.nil)) (.cons (.tup (.cons (.bin .add (.var 1) (.int 1)) (.cons (.var 1) (.nil)))) (.nil)))))) (.nil))
noncomputable def S_golden_by : Sem0 := mkS T (attOf T) L8 I5
noncomputable def d_golden_by : Den := evFn S_golden_by 2 ir_golden_by
noncomputable def L9 : List Den := L8 ++ [d_golden_by]
def N_is_integer : List Str := ["value"]
def ir_is_integer : ISs := .cons (.ret (.and (.cons (.isi (.var 0) (.b "int")) (.cons (.not (.isi (.var 0) (.b "bool"))) (.nil))))) (.nil)
noncomputable def S_is_integer : Sem0 := mkS T (attOf T) L9 I5
noncomputable def d_is_integer : Den := evFn S_is_integer 1 ir_is_integer
noncomputable def L10 : List Den := L9 ++ [d_is_integer]
def N_is_between : List Str := ["value", "low", "high"]
def ir_is_between : ISs := .cons (.ret (.and (.cons (.call 8 (.cons (.var 0) (.nil))) (.cons (.chain .le .le (.var 1) (.var 0) (.var 2)) (.nil))))) (.nil)
noncomputable def S_is_between : Sem0 := mkS T (attOf T) L10 I5
noncomputable def d_is_between : Den := evFn S_is_between 3 ir_is_between
noncomputable def L11 : List Den := L10 ++ [d_is_between]
def N_need_figure : List Str := ["m"]
def ir_need_figure : ISs := .cons (.iff (.not (.call 9 (.cons (.var 0) (.cons (.int 1) (.cons (.con 0) (.nil)))))) (.cons (.rais 1000 (.cons (.str "m") (.cons (.var 0) (.nil)))) (.nil)) (.nil)) (.nil)
noncomputable def S_need_figure : Sem0 := mkS T (attOf T) L11 I5
noncomputable def d_need_figure : Den := evFn S_need_figure 1 ir_need_figure
noncomputable def L12 : List Den := L11 ++ [d_need_figure]
def N_golden_row : List Str := ["m", "ahead", "ring"]
def ir_golden_row : ISs := .cons (.drop (.call 10 (.cons (.var 0) (.nil)))) (.cons (.unp [1, 2] (.call 7 (.cons (.var 0) (.nil)))) (.cons (.ret (.mk 0 (.cons (.var 1) (.cons (.var 2) (.nil))))) (.nil)))
noncomputable def S_golden_row : Sem0 := mkS T (attOf T) L12 I5
noncomputable def d_golden_row : Den := evFn S_golden_row 3 ir_golden_row
noncomputable def L13 : List Den := L12 ++ [d_golden_row]
def N_item_by : List Str := ["row", "at", "ahead", "ring"]
def ir_item_by : ISs := .cons (.unp [2, 3] (.var 0)) (.cons (.ret (.ite (.cmp .lt (.var 1) (.blt .len (.cons (.var 2) (.nil)))) (.ix (.var 2) (.var 1)) (.ix (.var 3) (.bin .mod (.bin .sub (.var 1) (.blt .len (.cons (.var 2) (.nil)))) (.blt .len (.cons (.var 3) (.nil))))))) (.nil))
noncomputable def S_item_by : Sem0 := mkS T (attOf T) L13 I5
noncomputable def d_item_by : Den := evFn S_item_by 4 ir_item_by
noncomputable def L14 : List Den := L13 ++ [d_item_by]
def N_need_index : List Str := ["at"]
def ir_need_index : ISs := .cons (.iff (.or (.cons (.not (.call 8 (.cons (.var 0) (.nil)))) (.cons (.cmp .lt (.var 0) (.int 0)) (.nil)))) (.cons (.rais 1000 (.cons (.str "at") (.cons (.var 0) (.nil)))) (.nil)) (.nil)) (.nil)
noncomputable def S_need_index : Sem0 := mkS T (attOf T) L14 I5
noncomputable def d_need_index : Den := evFn S_need_index 1 ir_need_index
noncomputable def L15 : List Den := L14 ++ [d_need_index]
def N_are_figures : List Str := ["value", "m", "one"]
def ir_are_figures : ISs := .cons (.ret (.and (.cons (.isi (.var 0) (.b "tuple")) (.cons (.blt .all (.cons (.comp (.call 9 (.cons (.var 2) (.cons (.int 0) (.cons (.var 1) (.nil))))) (.nm 2) (.seq (.var 0)) (.nil) [("one", 2)]) (.nil))) (.nil))))) (.nil)
noncomputable def S_are_figures : Sem0 := mkS T (attOf T) L15 I5
noncomputable def d_are_figures : Den := evFn S_are_figures 3 ir_are_figures
noncomputable def L16 : List Den := L15 ++ [d_are_figures]
def N_is_row : List Str := ["value", "m"]
def ir_is_row : ISs := .cons (.iff (.or (.cons (.not (.isi (.var 0) (.c 0))) (.cons (.not (.call 14 (.cons (.fld (.var 0) "ahead") (.cons (.var 1) (.nil))))) (.cons (.not (.call 14 (.cons (.fld (.var 0) "ring") (.cons (.var 1) (.nil))))) (.nil))))) (.cons (.ret (.bl false)) (.nil)) (.nil)) (.cons (.ret (.and (.cons (.cmp .ne (.fld (.var 0) "ring") (.tup (.nil))) (.cons (.cmp .le (.bin .add (.blt .len (.cons (.fld (.var 0) "ahead") (.nil))) (.blt .len (.cons (.fld (.var 0) "ring") (.nil)))) (.con 2)) (.nil))))) (.nil))
noncomputable def S_is_row : Sem0 := mkS T (attOf T) L16 I5
noncomputable def d_is_row : Den := evFn S_is_row 2 ir_is_row
noncomputable def L17 : List Den := L16 ++ [d_is_row]
def N_need_row : List Str := ["value", "m", "what"]
def ir_need_row : ISs := .cons (.iff (.not (.call 15 (.cons (.var 0) (.cons (.var 1) (.nil))))) (.cons (.rais 1002 (.cons (.var 2) (.nil))) (.nil)) (.nil)) (.cons (.ret (.tup (.cons (.fld (.var 0) "ahead") (.cons (.fld (.var 0) "ring") (.nil))))) (.nil))
noncomputable def S_need_row : Sem0 := mkS T (attOf T) L17 I5
noncomputable def d_need_row : Den := evFn S_need_row 3 ir_need_row
noncomputable def L18 : List Den := L17 ++ [d_need_row]
def N_item_at : List Str := ["m", "row", "at", "told"]
def ir_item_at : ISs := .cons (.drop (.call 10 (.cons (.var 0) (.nil)))) (.cons (.asg 3 (.call 16 (.cons (.var 1) (.cons (.var 0) (.cons (.str "row") (.nil)))))) (.cons (.drop (.call 13 (.cons (.var 2) (.nil)))) (.cons (.ret (.call 12 (.cons (.var 3) (.cons (.var 2) (.nil))))) (.nil))))
noncomputable def S_item_at : Sem0 := mkS T (attOf T) L18 I5
noncomputable def d_item_at : Den := evFn S_item_at 4 ir_item_at
noncomputable def L19 : List Den := L18 ++ [d_item_at]
def N_odd_ones : List Str := ["n", "found"]
def ir_odd_ones : ISs := .cons (.asg 1 (.int 0)) (.cons (.whl (.cmp .gt (.var 0) (.int 0)) (.cons (.par 1 0 (.bin .mod (.bin .add (.var 1) (.var 0)) (.int 2)) (.bin .fdiv (.var 0) (.int 2))) (.nil))) (.cons (.ret (.var 1)) (.nil)))
noncomputable def S_odd_ones : Sem0 := mkS T (attOf T) L19 I5
noncomputable def d_odd_ones : Den := evFn S_odd_ones 2 ir_odd_ones
noncomputable def L20 : List Den := L19 ++ [d_odd_ones]
def N_loreti_by : List Str := ["m", "i", "k", "one"]
def ir_loreti_by : ISs := .cons (.par 2 3 (.bin .fdiv (.var 0) (.int 2)) (.call 18 (.cons (.bin .add (.var 1) (.int 1)) (.nil)))) (.cons (.ret (.ite (.cmp .eq (.bin .mod (.var 0) (.int 2)) (.int 0)) (.bin .sub (.bin .add (.var 2) (.var 3)) (.call 18 (.cons (.var 1) (.nil)))) (.bin .add (.var 2) (.var 3)))) (.nil))
noncomputable def S_loreti_by : Sem0 := mkS T (attOf T) L20 I5
noncomputable def d_loreti_by : Den := evFn S_loreti_by 4 ir_loreti_by
noncomputable def L21 : List Den := L20 ++ [d_loreti_by]
def N_loreti_item : List Str := ["m", "i"]
def ir_loreti_item : ISs := .cons (.drop (.call 10 (.cons (.var 0) (.nil)))) (.cons (.iff (.not (.call 9 (.cons (.var 1) (.cons (.int 0) (.cons (.con 3) (.nil)))))) (.cons (.rais 1000 (.cons (.str "i") (.cons (.var 1) (.nil)))) (.nil)) (.nil)) (.cons (.ret (.call 19 (.cons (.var 0) (.cons (.var 1) (.nil))))) (.nil)))
noncomputable def S_loreti_item : Sem0 := mkS T (attOf T) L21 I5
noncomputable def d_loreti_item : Den := evFn S_loreti_item 2 ir_loreti_item
noncomputable def L22 : List Den := L21 ++ [d_loreti_item]
def N_Row___eq__ : List Str := ["self", "other"]
def ir_Row___eq__ : ISs := .cons (.ret (.and (.cons (.isi (.var 1) (.c 0)) (.cons (.cmp .eq (.tup (.cons (.fld (.var 0) "ahead") (.cons (.fld (.var 0) "ring") (.nil)))) (.tup (.cons (.fld (.var 1) "ahead") (.cons (.fld (.var 1) "ring") (.nil))))) (.nil))))) (.nil)
noncomputable def S_Row___eq__ : Sem0 := mkS T (attOf T) L22 I5
noncomputable def d_Row___eq__ : Den := evFn S_Row___eq__ 2 ir_Row___eq__
noncomputable def L23 : List Den := L22 ++ [d_Row___eq__]
def N__law_loreti_right : List Str := ["pen", "m", "items", "unlike", "block", "lap", "i", "k", "row", "one"]
def ir__law_loreti_right : ISs := .cons (.asg 1 (.bin .add (.int 1) (.call 4 (.cons (.var 0) (.cons (.int 20) (.nil)))))) (.cons (.unp [7, 8] (.tup (.cons (.bin .fdiv (.var 1) (.int 2)) (.cons (.call 11 (.cons (.var 1) (.nil))) (.nil))))) (.cons (.iff (.eqo true 0 21 (.var 8) (.mk 0 (.cons (.tup (.nil)) (.cons (.ite (.cmp .eq (.bin .mod (.blt .int (.cons (.var 1) (.nil))) (.int 2)) (.int 0)) (.tup (.cons (.var 7) (.nil))) (.tup (.cons (.bin .add (.var 7) (.int 1)) (.cons (.var 7) (.nil))))) (.nil))))) (.cons (.ret (.bl false)) (.nil)) (.nil)) (.cons (.asg 2 (.comp (.call 20 (.cons (.var 1) (.cons (.var 6) (.nil)))) (.nm 6) (.rng1 (.int 64)) (.nil) [("i", 6)])) (.cons (.iff (.or (.cons (.cmp .ne (.comp (.var 6) (.nm 6) (.rng1 (.int 64)) (.cons (.cmp .ne (.ix (.var 2) (.var 6)) (.bin .sub (.bin .add (.var 7) (.call 5 (.cons (.bin .add (.var 6) (.int 1)) (.nil)))) (.ite (.cmp .eq (.bin .mod (.blt .int (.cons (.var 1) (.nil))) (.int 2)) (.int 0)) (.call 5 (.cons (.var 6) (.nil))) (.int 0)))) (.nil)) [("i", 6)]) (.lst (.nil))) (.cons (.cmp .ne (.comp (.var 9) (.nm 9) (.seq (.var 2)) (.cons (.not (.chain .le .le (.int 0) (.var 9) (.var 1))) (.nil)) [("one", 9)]) (.lst (.nil))) (.nil)))) (.cons (.ret (.bl false)) (.nil)) (.nil)) (.cons (.asg 3 (.comp (.var 6) (.nm 6) (.rng1 (.int 64)) (.cons (.cmp .ne (.ix (.var 2) (.var 6)) (.call 17 (.cons (.var 1) (.cons (.var 8) (.cons (.var 6) (.nil)))))) (.nil)) [("i", 6)])) (.cons (.iff (.or (.cons (.cmp .eq (.var 3) (.lst (.nil))) (.cons (.cmp .lt (.ix (.var 2) (.ix (.var 3) (.int 0))) (.call 17 (.cons (.var 1) (.cons (.var 8) (.cons (.ix (.var 3) (.int 0)) (.nil)))))) (.nil)))) (.cons (.ret (.bl false)) (.nil)) (.nil)) (.cons (.asg 4 (.int 1)) (.cons (.for_ (.nm 5) (.rng1 (.bin .add (.int 1) (.call 4 (.cons (.var 0) (.cons (.int 5) (.nil)))))) (.cons (.asg 4 (.bin .mul (.var 4) (.int 2))) (.nil))) (.cons (.iff (.cmp .ne (.sl (.var 2) (.so (.var 4)) (.so (.bin .sub (.bin .mul (.int 2) (.var 4)) (.int 1)))) (.comp (.bin .sub (.var 1) (.var 9)) (.nm 9) (.seq (.sl (.var 2) .no (.so (.bin .sub (.var 4) (.int 1))))) (.nil) [("one", 9)])) (.cons (.ret (.bl false)) (.nil)) (.nil)) (.cons (.iff (.cmp .ne (.ix (.var 2) (.bin .sub (.bin .mul (.int 2) (.var 4)) (.int 1))) (.bin .add (.bin .sub (.var 1) (.ix (.var 2) (.bin .sub (.var 4) (.int 1)))) (.int 1))) (.cons (.ret (.bl false)) (.nil)) (.nil)) (.cons (.asg 6 (.call 6 (.cons (.var 0) (.cons (.lst (.cons (.call 4 (.cons (.var 0) (.cons (.bin .pow (.int 10) (.int 9)) (.nil)))) (.cons (.bin .sub (.bin .pow (.int 10) (.int 9)) (.call 4 (.cons (.var 0) (.cons (.int 99) (.nil))))) (.nil)))) (.nil))))) (.cons (.ret (.cmp .eq (.call 20 (.cons (.var 1) (.cons (.var 6) (.nil)))) (.bin .sub (.bin .add (.var 7) (.call 5 (.cons (.bin .add (.var 6) (.int 1)) (.nil)))) (.ite (.cmp .eq (.bin .mod (.blt .int (.cons (.var 1) (.nil))) (.int 2)) (.int 0)) (.call 5 (.cons (.var 6) (.nil))) (.int 0))))) (.nil)))))))))))))
noncomputable def S__law_loreti_right : Sem0 := mkS T (attOf T) L23 I5
noncomputable def d__law_loreti_right : Den := evFn S__law_loreti_right 10 ir__law_loreti_right
noncomputable def L24 : List Den := L23 ++ [d__law_loreti_right]
def N__law_is_0 : List Str := ["told", "due", "at"]
noncomputable def d__law_is_0 : Den := stuckD
noncomputable def L25 : List Den := L24 ++ [d__law_is_0]
def N__law_is_1 : List Str := ["told", "due", "at"]
def ir__law_is_1 : ISs := .cons (.iff (.isi (.var 1) (.b "tuple")) (.cons (.iff (.or (.cons (.not (.isi (.var 0) (.b "tuple"))) (.cons (.cmp .ne (.blt .len (.cons (.var 0) (.nil))) (.blt .len (.cons (.var 1) (.nil)))) (.nil)))) (.cons (.ret (.bl false)) (.nil)) (.nil)) (.cons (.ret (.cmp .eq (.comp (.var 2) (.nm 2) (.rng1 (.blt .len (.cons (.var 1) (.nil)))) (.cons (.not (.call 23 (.cons (.ix (.var 0) (.var 2)) (.cons (.ix (.var 1) (.var 2)) (.nil))))) (.nil)) [("at", 2)]) (.lst (.nil)))) (.nil))) (.nil)) (.cons (.iff (.cmp .is_ (.var 1) (.non)) (.cons (.ret (.cmp .is_ (.var 0) (.non))) (.nil)) (.nil)) (.cons (.iff (.cmp .is_ (.var 1) (.bl true)) (.cons (.ret (.cmp .is_ (.var 0) (.bl true))) (.nil)) (.nil)) (.cons (.iff (.cmp .is_ (.var 1) (.bl false)) (.cons (.ret (.cmp .is_ (.var 0) (.bl false))) (.nil)) (.nil)) (.cons (.iff (.isi (.var 1) (.b "str")) (.cons (.ret (.and (.cons (.isi (.var 0) (.b "str")) (.cons (.cmp .eq (.var 0) (.var 1)) (.nil))))) (.nil)) (.nil)) (.cons (.ret (.and (.cons (.isi (.var 0) (.b "int")) (.cons (.not (.isi (.var 0) (.b "bool"))) (.cons (.cmp .eq (.var 0) (.var 1)) (.nil)))))) (.nil))))))
noncomputable def S__law_is_1 : Sem0 := mkS T (attOf T) L25 I5
noncomputable def d__law_is_1 : Den := evFn S__law_is_1 3 ir__law_is_1
noncomputable def L26 : List Den := L25 ++ [d__law_is_1]
def N__law_is_2 : List Str := ["told", "due", "at"]
def ir__law_is_2 : ISs := .cons (.iff (.isi (.var 1) (.b "tuple")) (.cons (.iff (.or (.cons (.not (.isi (.var 0) (.b "tuple"))) (.cons (.cmp .ne (.blt .len (.cons (.var 0) (.nil))) (.blt .len (.cons (.var 1) (.nil)))) (.nil)))) (.cons (.ret (.bl false)) (.nil)) (.nil)) (.cons (.ret (.cmp .eq (.comp (.var 2) (.nm 2) (.rng1 (.blt .len (.cons (.var 1) (.nil)))) (.cons (.not (.call 24 (.cons (.ix (.var 0) (.var 2)) (.cons (.ix (.var 1) (.var 2)) (.nil))))) (.nil)) [("at", 2)]) (.lst (.nil)))) (.nil))) (.nil)) (.cons (.iff (.cmp .is_ (.var 1) (.non)) (.cons (.ret (.cmp .is_ (.var 0) (.non))) (.nil)) (.nil)) (.cons (.iff (.cmp .is_ (.var 1) (.bl true)) (.cons (.ret (.cmp .is_ (.var 0) (.bl true))) (.nil)) (.nil)) (.cons (.iff (.cmp .is_ (.var 1) (.bl false)) (.cons (.ret (.cmp .is_ (.var 0) (.bl false))) (.nil)) (.nil)) (.cons (.iff (.isi (.var 1) (.b "str")) (.cons (.ret (.and (.cons (.isi (.var 0) (.b "str")) (.cons (.cmp .eq (.var 0) (.var 1)) (.nil))))) (.nil)) (.nil)) (.cons (.ret (.and (.cons (.isi (.var 0) (.b "int")) (.cons (.not (.isi (.var 0) (.b "bool"))) (.cons (.cmp .eq (.var 0) (.var 1)) (.nil)))))) (.nil))))))
noncomputable def S__law_is_2 : Sem0 := mkS T (attOf T) L26 I5
noncomputable def d__law_is_2 : Den := evFn S__law_is_2 3 ir__law_is_2
noncomputable def L27 : List Den := L26 ++ [d__law_is_2]
def N__law_wide : List Str := ["pen", "figures", "lap", "found", "top"]
def ir__law_wide : ISs := .cons (.unp [3, 4] (.tup (.cons (.int 0) (.cons (.int 1) (.nil))))) (.cons (.for_ (.nm 2) (.rng1 (.bin .fdiv (.bin .add (.var 1) (.int 5)) (.int 6))) (.cons (.asg 3 (.bin .add (.bin .mul (.var 3) (.bin .pow (.int 10) (.int 6))) (.call 4 (.cons (.var 0) (.cons (.bin .pow (.int 10) (.int 6)) (.nil)))))) (.nil))) (.cons (.for_ (.nm 2) (.rng1 (.var 1)) (.cons (.asg 4 (.bin .mul (.var 4) (.int 10))) (.nil))) (.cons (.ret (.bin .mod (.blt .int (.cons (.var 3) (.nil))) (.var 4))) (.nil))))
noncomputable def S__law_wide : Sem0 := mkS T (attOf T) L27 I5
noncomputable def d__law_wide : Den := evFn S__law_wide 5 ir__law_wide
noncomputable def L28 : List Den := L27 ++ [d__law_wide]
def N_need_between : List Str := ["what", "number", "low", "high"]
def ir_need_between : ISs := .cons (.iff (.not (.call 9 (.cons (.var 1) (.cons (.var 2) (.cons (.var 3) (.nil)))))) (.cons (.rais 1000 (.cons (.var 0) (.cons (.var 1) (.nil)))) (.nil)) (.nil)) (.nil)
noncomputable def S_need_between : Sem0 := mkS T (attOf T) L28 I5
noncomputable def d_need_between : Den := evFn S_need_between 4 ir_need_between
noncomputable def L29 : List Den := L28 ++ [d_need_between]
def N_morse_item : List Str := ["at", "found"]
def ir_morse_item : ISs := .cons (.drop (.call 27 (.cons (.str "at") (.cons (.var 0) (.cons (.int 0) (.cons (.con 1) (.nil))))))) (.cons (.asg 1 (.int 0)) (.cons (.whl (.cmp .gt (.var 0) (.int 0)) (.cons (.par 0 1 (.bin .fdiv (.var 0) (.int 2)) (.bin .add (.var 1) (.bin .mod (.var 0) (.int 2)))) (.nil))) (.cons (.ret (.bin .mod (.var 1) (.int 2))) (.nil))))
noncomputable def S_morse_item : Sem0 := mkS T (attOf T) L29 I5
noncomputable def d_morse_item : Den := evFn S_morse_item 2 ir_morse_item
noncomputable def L30 : List Den := L29 ++ [d_morse_item]
def N__law_fault : List Str := ["call", "found"]
noncomputable def d__law_fault : Den := stuckD
noncomputable def L31 : List Den := L30 ++ [d__law_fault]
def N__law_az_one : List Str := ["call", "one"]
def ir__law_az_one : ISs := .cons (.ret (.fault 29 (.callv [11, 28] 0 (.cons (.var 1) (.nil))))) (.nil)
noncomputable def S__law_az_one : Sem0 := mkS T (attOf T) L31 I5
noncomputable def d__law_az_one : Den := evFn S__law_az_one 2 ir__law_az_one
noncomputable def L32 : List Den := L31 ++ [d__law_az_one]
def N__law_az_two : List Str := ["call", "one", "other"]
def ir__law_az_two : ISs := .cons (.ret (.fault 29 (.callv [20] 0 (.cons (.var 1) (.cons (.var 2) (.nil)))))) (.nil)
noncomputable def S__law_az_two : Sem0 := mkS T (attOf T) L32 I5
noncomputable def d__law_az_two : Den := evFn S__law_az_two 3 ir__law_az_two
noncomputable def L33 : List Den := L32 ++ [d__law_az_two]
def N__law_morse_right : List Str := ["pen", "at", "half", "lap", "row", "place", "four", "far", "power", "k", "n", "one"]
def ir__law_morse_right : ISs := .cons (.asg 1 (.call 6 (.cons (.var 0) (.cons (.lst (.cons (.call 4 (.cons (.var 0) (.cons (.int 1000) (.nil)))) (.cons (.call 26 (.cons (.var 0) (.cons (.int 30) (.nil)))) (.cons (.call 26 (.cons (.var 0) (.cons (.int 40) (.nil)))) (.nil))))) (.nil))))) (.cons (.iff (.not (.call 25 (.cons (.tup (.cons (.call 28 (.cons (.var 1) (.nil))) (.cons (.call 28 (.cons (.bin .pow (.int 10) (.int 40)) (.nil))) (.nil)))) (.cons (.tup (.cons (.call 5 (.cons (.var 1) (.nil))) (.cons (.call 5 (.cons (.bin .pow (.int 10) (.int 40)) (.nil))) (.nil)))) (.nil))))) (.cons (.ret (.bl false)) (.nil)) (.nil)) (.cons (.asg 2 (.bin .fdiv (.var 1) (.int 3))) (.cons (.iff (.or (.cons (.cmp .ne (.call 28 (.cons (.bin .mul (.int 2) (.var 2)) (.nil))) (.call 28 (.cons (.var 2) (.nil)))) (.cons (.cmp .ne (.call 28 (.cons (.bin .add (.bin .mul (.int 2) (.var 2)) (.int 1)) (.nil))) (.bin .sub (.int 1) (.call 28 (.cons (.var 2) (.nil))))) (.nil)))) (.cons (.ret (.bl false)) (.nil)) (.nil)) (.cons (.par 8 9 (.int 1) (.call 4 (.cons (.var 0) (.cons (.int 9) (.nil))))) (.cons (.for_ (.nm 3) (.rng1 (.var 9)) (.cons (.asg 8 (.bin .mul (.var 8) (.int 2))) (.nil))) (.cons (.asg 4 (.comp (.call 28 (.cons (.var 10) (.nil))) (.nm 10) (.rng1 (.bin .mul (.int 2) (.var 8))) (.nil) [("n", 10)])) (.cons (.iff (.or (.cons (.cmp .ne (.sl (.var 4) (.so (.var 8)) .no) (.comp (.bin .sub (.int 1) (.var 11)) (.nm 11) (.seq (.sl (.var 4) .no (.so (.var 8)))) (.nil) [("one", 11)])) (.cons (.and (.cons (.cmp .gt (.var 8) (.int 1)) (.cons (.cmp .ne (.bin .mul (.blt .sum (.cons (.sl (.var 4) .no (.so (.var 8))) (.nil))) (.int 2)) (.var 8)) (.nil)))) (.nil)))) (.cons (.ret (.bl false)) (.nil)) (.nil)) (.cons (.asg 5 (.bin .mul (.call 4 (.cons (.var 0) (.cons (.bin .pow (.int 10) (.int 12)) (.nil)))) (.int 4))) (.cons (.asg 6 (.comp (.call 28 (.cons (.bin .add (.var 5) (.var 10)) (.nil))) (.nm 10) (.rng1 (.int 4)) (.nil) [("n", 10)])) (.cons (.iff (.or (.cons (.cmp .ne (.blt .sum (.cons (.var 6) (.nil))) (.int 2)) (.cons (.cmp .eq (.ix (.var 6) (.int 0)) (.ix (.var 6) (.int 1))) (.cons (.cmp .eq (.ix (.var 6) (.int 2)) (.ix (.var 6) (.int 3))) (.nil))))) (.cons (.ret (.bl false)) (.nil)) (.nil)) (.cons (.asg 7 (.call 4 (.cons (.var 0) (.cons (.bin .pow (.int 10) (.int 9)) (.nil))))) (.cons (.ret (.cmp .eq (.dlen (.comp (.tup (.cons (.call 28 (.cons (.bin .add (.var 7) (.var 10)) (.nil))) (.cons (.bl true) (.nil)))) (.nm 10) (.rng1 (.int 3)) (.nil) [("n", 10)])) (.int 2))) (.nil)))))))))))))
noncomputable def S__law_morse_right : Sem0 := mkS T (attOf T) L33 I5
noncomputable def d__law_morse_right : Den := evFn S__law_morse_right 12 ir__law_morse_right
noncomputable def L34 : List Den := L33 ++ [d__law_morse_right]
theorem s_as_tuples_1 : S_as_tuples_1.den 0 = d_as_tuples_0 := rfl
theorem s_as_tuples_2 : S_as_tuples_2.den 1 = d_as_tuples_1 := rfl
theorem s_as_tuples_3 : S_as_tuples_3.den 2 = d_as_tuples_2 := rfl
theorem s_init_Row : S_init_Row.den 3 = d_as_tuples_3 ∧ S_init_Row.att 0 = (["ahead", "ring"] : List Str) := by
  exact ⟨rfl, rfl⟩
theorem s__law_draw : S__law_draw.con 99999 = S__law_draw.con 99999 := rfl
theorem s__law_morse : S__law_morse.con 99999 = S__law_morse.con 99999 := rfl
theorem s__law_pick : S__law_pick.den 4 = d__law_draw := rfl
theorem s_golden_by : S_golden_by.con 99999 = S_golden_by.con 99999 := rfl
theorem s_is_integer : S_is_integer.con 99999 = S_is_integer.con 99999 := rfl
theorem s_is_between : S_is_between.den 8 = d_is_integer := rfl
theorem s_need_figure : S_need_figure.den 9 = d_is_between ∧ S_need_figure.con 0 = some 20 ∧ S_need_figure.att 1000 = (["what", "number"] : List Str) := by
  exact ⟨rfl, rfl, rfl⟩
theorem s_golden_row : S_golden_row.den 7 = d_golden_by ∧ S_golden_row.den 10 = d_need_figure ∧ S_golden_row.ini 0 = i_Row ∧ S_golden_row.att 0 = (["ahead", "ring"] : List Str) := by
  exact ⟨rfl, rfl, rfl, rfl⟩
theorem s_item_by : S_item_by.con 99999 = S_item_by.con 99999 := rfl
theorem s_need_index : S_need_index.den 8 = d_is_integer ∧ S_need_index.att 1000 = (["what", "number"] : List Str) := by
  exact ⟨rfl, rfl⟩
theorem s_are_figures : S_are_figures.den 9 = d_is_between := rfl
theorem s_is_row : S_is_row.den 14 = d_are_figures ∧ S_is_row.con 2 = some 400 ∧ S_is_row.att 0 = (["ahead", "ring"] : List Str) := by
  exact ⟨rfl, rfl, rfl⟩
theorem s_need_row : S_need_row.den 15 = d_is_row ∧ S_need_row.att 1002 = (["what"] : List Str) ∧ S_need_row.att 0 = (["ahead", "ring"] : List Str) := by
  exact ⟨rfl, rfl, rfl⟩
theorem s_item_at : S_item_at.den 10 = d_need_figure ∧ S_item_at.den 12 = d_item_by ∧ S_item_at.den 13 = d_need_index ∧ S_item_at.den 16 = d_need_row := by
  exact ⟨rfl, rfl, rfl, rfl⟩
theorem s_odd_ones : S_odd_ones.con 99999 = S_odd_ones.con 99999 := rfl
theorem s_loreti_by : S_loreti_by.den 18 = d_odd_ones := rfl
theorem s_loreti_item : S_loreti_item.den 9 = d_is_between ∧ S_loreti_item.den 10 = d_need_figure ∧ S_loreti_item.den 19 = d_loreti_by ∧ S_loreti_item.con 3 = some 1000000000 ∧ S_loreti_item.att 1000 = (["what", "number"] : List Str) := by
  exact ⟨rfl, rfl, rfl, rfl, rfl⟩
theorem s_Row___eq__ : S_Row___eq__.att 0 = (["ahead", "ring"] : List Str) := rfl
theorem s__law_loreti_right : S__law_loreti_right.den 4 = d__law_draw ∧ S__law_loreti_right.den 5 = d__law_morse ∧ S__law_loreti_right.den 6 = d__law_pick ∧ S__law_loreti_right.den 11 = d_golden_row ∧ S__law_loreti_right.den 17 = d_item_at ∧ S__law_loreti_right.den 20 = d_loreti_item ∧ S__law_loreti_right.den 21 = d_Row___eq__ ∧ S__law_loreti_right.ini 0 = i_Row ∧ S__law_loreti_right.att 0 = (["ahead", "ring"] : List Str) := by
  exact ⟨rfl, rfl, rfl, rfl, rfl, rfl, rfl, rfl, rfl⟩
theorem s__law_is_1 : S__law_is_1.den 23 = d__law_is_0 := rfl
theorem s__law_is_2 : S__law_is_2.den 24 = d__law_is_1 := rfl
theorem s__law_wide : S__law_wide.den 4 = d__law_draw := rfl
theorem s_need_between : S_need_between.den 9 = d_is_between ∧ S_need_between.att 1000 = (["what", "number"] : List Str) := by
  exact ⟨rfl, rfl⟩
theorem s_morse_item : S_morse_item.den 27 = d_need_between ∧ S_morse_item.con 1 = some 10000000000000000000000000000000000000000 := by
  exact ⟨rfl, rfl⟩
theorem s__law_az_one : S__law_az_one.den 11 = d_golden_row ∧ S__law_az_one.den 28 = d_morse_item ∧ S__law_az_one.flt = flOf excs ents0 ents1 := by
  exact ⟨rfl, rfl, rfl⟩
theorem s__law_az_two : S__law_az_two.den 20 = d_loreti_item ∧ S__law_az_two.flt = flOf excs ents0 ents1 := by
  exact ⟨rfl, rfl⟩
theorem s__law_morse_right : S__law_morse_right.den 4 = d__law_draw ∧ S__law_morse_right.den 5 = d__law_morse ∧ S__law_morse_right.den 6 = d__law_pick ∧ S__law_morse_right.den 25 = d__law_is_2 ∧ S__law_morse_right.den 26 = d__law_wide ∧ S__law_morse_right.den 28 = d_morse_item := by
  exact ⟨rfl, rfl, rfl, rfl, rfl, rfl⟩
def N_law : List Str := ["script", "pen", "lap", "told", "odd", "late", "at"]
def ir_law : ISs := .cons (.for_ (.nm 2) (.rng1 (.int 4)) (.cons (.iff (.or (.cons (.not (.call 32 (.cons (.var 1) (.nil)))) (.cons (.not (.call 22 (.cons (.var 1) (.nil)))) (.nil)))) (.cons (.ret (.bl false)) (.nil)) (.nil)) (.nil))) (.cons (.par 4 5 (.call 6 (.cons (.var 1) (.cons (.lst (.cons (.int 0) (.cons (.int 21) (.cons (.non) (.cons (.bl true) (.cons (.str "1") (.nil))))))) (.nil)))) (.call 6 (.cons (.var 1) (.cons (.lst (.cons (.neg (.int 1)) (.cons (.bin .add (.bin .pow (.int 10) (.int 9)) (.int 1)) (.cons (.non) (.cons (.bl true) (.nil)))))) (.nil))))) (.cons (.asg 3 (.bin .add (.lst (.cons (.call 30 (.cons (.fnv 11) (.cons (.var 4) (.nil)))) (.cons (.call 31 (.cons (.fnv 20) (.cons (.var 4) (.cons (.var 5) (.nil))))) (.cons (.call 31 (.cons (.fnv 20) (.cons (.int 3) (.cons (.var 5) (.nil))))) (.nil))))) (.comp (.call 30 (.cons (.fnv 28) (.cons (.var 6) (.nil)))) (.nm 6) (.seq (.tup (.cons (.neg (.int 1)) (.cons (.bin .add (.bin .pow (.int 10) (.int 40)) (.int 1)) (.cons (.bl true) (.nil)))))) (.nil) [("at", 6)]))) (.cons (.ret (.cmp .eq (.var 3) (.bin .add (.bin .add (.bin .mul (.lst (.cons (.tup (.cons (.str "number") (.cons (.str "m") (.cons (.blt .repr (.cons (.var 4) (.nil))) (.nil))))) (.nil))) (.int 2)) (.lst (.cons (.tup (.cons (.str "number") (.cons (.str "i") (.cons (.blt .repr (.cons (.var 5) (.nil))) (.nil))))) (.nil)))) (.comp (.tup (.cons (.str "number") (.cons (.str "at") (.cons (.blt .repr (.cons (.var 6) (.nil))) (.nil))))) (.nm 6) (.seq (.tup (.cons (.neg (.int 1)) (.cons (.bin .add (.bin .pow (.int 10) (.int 40)) (.int 1)) (.cons (.bl true) (.nil)))))) (.nil) [("at", 6)])))) (.nil))))
noncomputable def S_law : Sem0 := mkS T (attOf T) L34 I5
theorem s_law : S_law.den 6 = d__law_pick ∧ S_law.den 22 = d__law_loreti_right ∧ S_law.den 30 = d__law_az_one ∧ S_law.den 31 = d__law_az_two ∧ S_law.den 32 = d__law_morse_right := by
  exact ⟨rfl, rfl, rfl, rfl, rfl⟩
end Lk91

set_option Elab.async false
set_option linter.all false
set_option maxRecDepth 100000
set_option maxHeartbeats 1000000
namespace Lk91
open PySem PySem.Spec PyProof.Rows L2 Mi RowP
theorem draw_tail (s : Pen) {many : Int} (h1 : 1 ≤ many) (h2 : many.natAbs.log2 < 9000) (z : Sl) : ∃ v s' ρ', evSs S__law_draw (dropSs 2 ir__law_draw) [.d .pen, .d (.int many), .u, z, .u] (some s) = .ok (.rt (.int v), ρ') (some s') ∧ s'.at_ = s.at_ ∧ 0 ≤ v ∧ v < many := by
  have hm : many ≠ 0 := by omega
  have hd : ∀ x, divOk x many := fun x => .inr ⟨by omega, h2⟩
  have hd64 : ∀ x, divOk x 64 := fun x => .inl ⟨by decide, by decide⟩
  have m2 : ∀ x : Int, mulOk x 48271 := fun x => mulOk_r (by decide)
  have m3 : ∀ x : Int, mulOk x 7919 := fun x => mulOk_r (by decide)
  have m4 : ∀ x : Int, mulOk 31 x := fun x => mulOk_l (by decide)
  have m5 : ∀ x : Int, mulOk x 16807 := fun x => mulOk_r (by decide)
  have m6 : ∀ x : Int, mulOk (x.fmod 2147483647) (x.fmod 2147483647) := fun x => mulOk_l ⟨by have := Int.fmod_nonneg_of_pos x (show (0:Int) < 2147483647 by decide); omega, by have := Int.fmod_lt_of_pos x (show (0:Int) < 2147483647 by decide); omega⟩
  have n2 : (2147483647 : Int) ≠ 0 := by decide
  have n3 : (2147483629 : Int) ≠ 0 := by decide
  have bd : ∀ x : Int, 0 ≤ x.fmod many ∧ x.fmod many < many := fun x => ⟨Int.fmod_nonneg_of_pos x (by omega), Int.fmod_lt_of_pos x (by omega)⟩
  by_cases c : 0 < s.digits
  · simp -implicitDefEqProofs only [evFn, evSs, evS, evE, evT, evEs, evAnd, evOr, evAndT, evOrT, evO, evI, evOwn, R.bind_ok, R.bind_err, R.of_some, cat_ok, cat_err, f_repr, onInt_i, mem1, mem2, mem2b, se_d, se_u, se_o, sb_d, sb_u, sb_o, see, seeB, List.map_cons, List.map_nil, List.cons_append, List.nil_append, List.length_cons, List.length_nil, List.replicate_succ, List.replicate_zero, List.getElem?_cons_zero, List.getElem?_cons_succ, List.set_cons_zero, List.set_cons_succ, Option.join_some, Option.map_some, Option.map_none, Option.bind_some, setSl, tgSl, b_add, b_sub, b_mul, b_fdiv, b_mod, b_pow, b_addT, b_addL, b_mulT, b_mulL, deq_ii, deq_bb, c_eq, c_ne, c_lt, c_le, c_gt, c_ge, c_isN, c_isnN, c_isB, c_isnB, i_bl, i_non, i_int, i_str, i_tup, i_lst, non_non, non_int, non_tup, non_bl, t_non, t_bl, t_int, t_tup, t_lst, ixD_tup, ixD_lst, slD_tup, slD_lst, f_lenT, f_lenL, f_tupT, f_tupL, f_lstT, f_lstL, f_int, f_abs, f_max, f_min, f_all, f_any, f_sum, f_sorted, y_int, y_bl, y_non, y_str, y_tup, y_lst, y_obj, k_ii, k_ib, k_it, k_il, k_is, k_tt, k_tl, k_ti, k_tb, k_ll, k_lt, k_bi, k_bb, k_bt, k_bl, k_nt, k_ss, k_st, k_cc, ks_nil, ks_cons, as_int, pg_cells, pg_at, pg_digits, pg_count, pg_fold, ps_at, ps_digits, ps_count, ps_fold, q_tup, q_lst, z_tt, z_ll, ea_obj, er_bl, if_true, if_false, Bool.false_eq_true, Nat.reduceAdd, Nat.reduceSub, Bool.not_true, Bool.not_false, decide_true, decide_false, ir__law_draw, dropSs, c, hm, hd, ne_eq, not_false_eq_true]
    exact ⟨_, _, _, rfl, rfl, bd _⟩
  · simp -implicitDefEqProofs only [evFn, evSs, evS, evE, evT, evEs, evAnd, evOr, evAndT, evOrT, evO, evI, evOwn, R.bind_ok, R.bind_err, R.of_some, cat_ok, cat_err, f_repr, onInt_i, mem1, mem2, mem2b, se_d, se_u, se_o, sb_d, sb_u, sb_o, see, seeB, List.map_cons, List.map_nil, List.cons_append, List.nil_append, List.length_cons, List.length_nil, List.replicate_succ, List.replicate_zero, List.getElem?_cons_zero, List.getElem?_cons_succ, List.set_cons_zero, List.set_cons_succ, Option.join_some, Option.map_some, Option.map_none, Option.bind_some, setSl, tgSl, b_add, b_sub, b_mul, b_fdiv, b_mod, b_pow, b_addT, b_addL, b_mulT, b_mulL, deq_ii, deq_bb, c_eq, c_ne, c_lt, c_le, c_gt, c_ge, c_isN, c_isnN, c_isB, c_isnB, i_bl, i_non, i_int, i_str, i_tup, i_lst, non_non, non_int, non_tup, non_bl, t_non, t_bl, t_int, t_tup, t_lst, ixD_tup, ixD_lst, slD_tup, slD_lst, f_lenT, f_lenL, f_tupT, f_tupL, f_lstT, f_lstL, f_int, f_abs, f_max, f_min, f_all, f_any, f_sum, f_sorted, y_int, y_bl, y_non, y_str, y_tup, y_lst, y_obj, k_ii, k_ib, k_it, k_il, k_is, k_tt, k_tl, k_ti, k_tb, k_ll, k_lt, k_bi, k_bb, k_bt, k_bl, k_nt, k_ss, k_st, k_cc, ks_nil, ks_cons, as_int, pg_cells, pg_at, pg_digits, pg_count, pg_fold, ps_at, ps_digits, ps_count, ps_fold, q_tup, q_lst, z_tt, z_ll, ea_obj, er_bl, if_true, if_false, Bool.false_eq_true, Nat.reduceAdd, Nat.reduceSub, Bool.not_true, Bool.not_false, decide_true, decide_false, ir__law_draw, dropSs, c, hm, hd, hd64, m2, m3, m4, m5, m6, n2, n3, ne_eq, not_false_eq_true]
    exact ⟨_, _, _, rfl, rfl, bd _⟩
theorem draw {p : PenS} (hp : PInv p) {many : Int} (h1 : 1 ≤ many) (h2 : many.natAbs.log2 < 9000) : ∃ v p', d__law_draw [.pen, .int many] p = .ok (.int v) p' ∧ PInv p' ∧ 0 ≤ v ∧ v < many := by
  obtain ⟨st, rfl, ha⟩ := hp
  have m1 : ∀ x : Int, mulOk x 69069 := fun x => mulOk_r (by decide)
  have n1 : (2147483587 : Int) ≠ 0 := by decide
  have key : ∃ s' z, 0 ≤ s'.at_ ∧ ∀ r, evSs S__law_draw (.cons (match ir__law_draw with | .cons a _ => a | _ => .pas) (.cons (match dropSs 1 ir__law_draw with | .cons a _ => a | _ => .pas) r)) [.d .pen, .d (.int many), .u, .u, .u] (some st) = evSs S__law_draw r [.d .pen, .d (.int many), .u, z, .u] (some s') := by
    by_cases c1 : st.digits = 0
    · by_cases c2 : st.at_ < st.cells.length
      · have hx : atI (st.cells.map D.int) st.at_ = some (.int (st.cells[st.at_.toNat]'(by omega))) := by
          rw [atI_nn ha (by rw [List.length_map]; exact c2), List.getElem?_map, List.getElem?_eq_getElem (by omega)]
          rfl
        generalize (st.cells[st.at_.toNat]'(by omega)) = cell at hx
        by_cases c3 : 1000000000000000000 ≤ cell
        · refine ⟨{ cells := st.cells, at_ := st.at_ + 1, digits := cell - 1000000000000000000, count := st.count + 1, fold := st.fold }, .d (.int cell), by show 0 ≤ st.at_ + 1; omega, fun r => ?_⟩
          rw [evSs_cons]
          simp -implicitDefEqProofs only [evFn, evSs, evS, evE, evT, evEs, evAnd, evOr, evAndT, evOrT, evO, evI, evOwn, R.bind_ok, R.bind_err, R.of_some, cat_ok, cat_err, f_repr, onInt_i, mem1, mem2, mem2b, se_d, se_u, se_o, sb_d, sb_u, sb_o, see, seeB, List.map_cons, List.map_nil, List.cons_append, List.nil_append, List.length_cons, List.length_nil, List.replicate_succ, List.replicate_zero, List.getElem?_cons_zero, List.getElem?_cons_succ, List.set_cons_zero, List.set_cons_succ, Option.join_some, Option.map_some, Option.map_none, Option.bind_some, setSl, tgSl, b_add, b_sub, b_mul, b_fdiv, b_mod, b_pow, b_addT, b_addL, b_mulT, b_mulL, deq_ii, deq_bb, c_eq, c_ne, c_lt, c_le, c_gt, c_ge, c_isN, c_isnN, c_isB, c_isnB, i_bl, i_non, i_int, i_str, i_tup, i_lst, non_non, non_int, non_tup, non_bl, t_non, t_bl, t_int, t_tup, t_lst, ixD_tup, ixD_lst, slD_tup, slD_lst, f_lenT, f_lenL, f_tupT, f_tupL, f_lstT, f_lstL, f_int, f_abs, f_max, f_min, f_all, f_any, f_sum, f_sorted, y_int, y_bl, y_non, y_str, y_tup, y_lst, y_obj, k_ii, k_ib, k_it, k_il, k_is, k_tt, k_tl, k_ti, k_tb, k_ll, k_lt, k_bi, k_bb, k_bt, k_bl, k_nt, k_ss, k_st, k_cc, ks_nil, ks_cons, as_int, pg_cells, pg_at, pg_digits, pg_count, pg_fold, ps_at, ps_digits, ps_count, ps_fold, q_tup, q_lst, z_tt, z_ll, ea_obj, er_bl, if_true, if_false, Bool.false_eq_true, Nat.reduceAdd, Nat.reduceSub, Bool.not_true, Bool.not_false, decide_true, decide_false, ir__law_draw, dropSs, c1, c2, hx, List.length_map, cp18, e18, c3]
        · refine ⟨{ cells := st.cells, at_ := st.at_ + 1, digits := 0, count := st.count + 1, fold := (st.fold * 69069 + cell).fmod 2147483587 }, .d (.int cell), by show 0 ≤ st.at_ + 1; omega, fun r => ?_⟩
          rw [evSs_cons]
          simp -implicitDefEqProofs only [evFn, evSs, evS, evE, evT, evEs, evAnd, evOr, evAndT, evOrT, evO, evI, evOwn, R.bind_ok, R.bind_err, R.of_some, cat_ok, cat_err, f_repr, onInt_i, mem1, mem2, mem2b, se_d, se_u, se_o, sb_d, sb_u, sb_o, see, seeB, List.map_cons, List.map_nil, List.cons_append, List.nil_append, List.length_cons, List.length_nil, List.replicate_succ, List.replicate_zero, List.getElem?_cons_zero, List.getElem?_cons_succ, List.set_cons_zero, List.set_cons_succ, Option.join_some, Option.map_some, Option.map_none, Option.bind_some, setSl, tgSl, b_add, b_sub, b_mul, b_fdiv, b_mod, b_pow, b_addT, b_addL, b_mulT, b_mulL, deq_ii, deq_bb, c_eq, c_ne, c_lt, c_le, c_gt, c_ge, c_isN, c_isnN, c_isB, c_isnB, i_bl, i_non, i_int, i_str, i_tup, i_lst, non_non, non_int, non_tup, non_bl, t_non, t_bl, t_int, t_tup, t_lst, ixD_tup, ixD_lst, slD_tup, slD_lst, f_lenT, f_lenL, f_tupT, f_tupL, f_lstT, f_lstL, f_int, f_abs, f_max, f_min, f_all, f_any, f_sum, f_sorted, y_int, y_bl, y_non, y_str, y_tup, y_lst, y_obj, k_ii, k_ib, k_it, k_il, k_is, k_tt, k_tl, k_ti, k_tb, k_ll, k_lt, k_bi, k_bb, k_bt, k_bl, k_nt, k_ss, k_st, k_cc, ks_nil, ks_cons, as_int, pg_cells, pg_at, pg_digits, pg_count, pg_fold, ps_at, ps_digits, ps_count, ps_fold, q_tup, q_lst, z_tt, z_ll, ea_obj, er_bl, if_true, if_false, Bool.false_eq_true, Nat.reduceAdd, Nat.reduceSub, Bool.not_true, Bool.not_false, decide_true, decide_false, ir__law_draw, dropSs, c1, c2, hx, List.length_map, cp18, e18, c3, m1, n1, ne_eq, not_false_eq_true]
      · refine ⟨{ cells := st.cells, at_ := st.at_, digits := 0, count := st.count + 1, fold := st.fold }, .u, ha, fun r => ?_⟩
        rw [evSs_cons]
        simp -implicitDefEqProofs only [evFn, evSs, evS, evE, evT, evEs, evAnd, evOr, evAndT, evOrT, evO, evI, evOwn, R.bind_ok, R.bind_err, R.of_some, cat_ok, cat_err, f_repr, onInt_i, mem1, mem2, mem2b, se_d, se_u, se_o, sb_d, sb_u, sb_o, see, seeB, List.map_cons, List.map_nil, List.cons_append, List.nil_append, List.length_cons, List.length_nil, List.replicate_succ, List.replicate_zero, List.getElem?_cons_zero, List.getElem?_cons_succ, List.set_cons_zero, List.set_cons_succ, Option.join_some, Option.map_some, Option.map_none, Option.bind_some, setSl, tgSl, b_add, b_sub, b_mul, b_fdiv, b_mod, b_pow, b_addT, b_addL, b_mulT, b_mulL, deq_ii, deq_bb, c_eq, c_ne, c_lt, c_le, c_gt, c_ge, c_isN, c_isnN, c_isB, c_isnB, i_bl, i_non, i_int, i_str, i_tup, i_lst, non_non, non_int, non_tup, non_bl, t_non, t_bl, t_int, t_tup, t_lst, ixD_tup, ixD_lst, slD_tup, slD_lst, f_lenT, f_lenL, f_tupT, f_tupL, f_lstT, f_lstL, f_int, f_abs, f_max, f_min, f_all, f_any, f_sum, f_sorted, y_int, y_bl, y_non, y_str, y_tup, y_lst, y_obj, k_ii, k_ib, k_it, k_il, k_is, k_tt, k_tl, k_ti, k_tb, k_ll, k_lt, k_bi, k_bb, k_bt, k_bl, k_nt, k_ss, k_st, k_cc, ks_nil, ks_cons, as_int, pg_cells, pg_at, pg_digits, pg_count, pg_fold, ps_at, ps_digits, ps_count, ps_fold, q_tup, q_lst, z_tt, z_ll, ea_obj, er_bl, if_true, if_false, Bool.false_eq_true, Nat.reduceAdd, Nat.reduceSub, Bool.not_true, Bool.not_false, decide_true, decide_false, ir__law_draw, dropSs, c1, c2, List.length_map]
    · refine ⟨{ cells := st.cells, at_ := st.at_, digits := st.digits, count := st.count + 1, fold := st.fold }, .u, ha, fun r => ?_⟩
      rw [evSs_cons]
      simp -implicitDefEqProofs only [evFn, evSs, evS, evE, evT, evEs, evAnd, evOr, evAndT, evOrT, evO, evI, evOwn, R.bind_ok, R.bind_err, R.of_some, cat_ok, cat_err, f_repr, onInt_i, mem1, mem2, mem2b, se_d, se_u, se_o, sb_d, sb_u, sb_o, see, seeB, List.map_cons, List.map_nil, List.cons_append, List.nil_append, List.length_cons, List.length_nil, List.replicate_succ, List.replicate_zero, List.getElem?_cons_zero, List.getElem?_cons_succ, List.set_cons_zero, List.set_cons_succ, Option.join_some, Option.map_some, Option.map_none, Option.bind_some, setSl, tgSl, b_add, b_sub, b_mul, b_fdiv, b_mod, b_pow, b_addT, b_addL, b_mulT, b_mulL, deq_ii, deq_bb, c_eq, c_ne, c_lt, c_le, c_gt, c_ge, c_isN, c_isnN, c_isB, c_isnB, i_bl, i_non, i_int, i_str, i_tup, i_lst, non_non, non_int, non_tup, non_bl, t_non, t_bl, t_int, t_tup, t_lst, ixD_tup, ixD_lst, slD_tup, slD_lst, f_lenT, f_lenL, f_tupT, f_tupL, f_lstT, f_lstL, f_int, f_abs, f_max, f_min, f_all, f_any, f_sum, f_sorted, y_int, y_bl, y_non, y_str, y_tup, y_lst, y_obj, k_ii, k_ib, k_it, k_il, k_is, k_tt, k_tl, k_ti, k_tb, k_ll, k_lt, k_bi, k_bb, k_bt, k_bl, k_nt, k_ss, k_st, k_cc, ks_nil, ks_cons, as_int, pg_cells, pg_at, pg_digits, pg_count, pg_fold, ps_at, ps_digits, ps_count, ps_fold, q_tup, q_lst, z_tt, z_ll, ea_obj, er_bl, if_true, if_false, Bool.false_eq_true, Nat.reduceAdd, Nat.reduceSub, Bool.not_true, Bool.not_false, decide_true, decide_false, ir__law_draw, dropSs, c1]
  obtain ⟨s', z, ha', k⟩ := key
  obtain ⟨v, s2, ρ', e2, e3, e4⟩ := draw_tail s' h1 h2 z
  refine ⟨v, some s2, ?_, ⟨s2, rfl, by omega⟩, e4⟩
  have k2 := k (dropSs 2 ir__law_draw)
  rw [e2] at k2
  unfold d__law_draw evFn
  show R.bind (evSs S__law_draw ir__law_draw [.d .pen, .d (.int many), .u, .u, .u] (some st)) _ = _
  rw [show ir__law_draw = (.cons (match ir__law_draw with | .cons a _ => a | _ => .pas) (.cons (match dropSs 1 ir__law_draw with | .cons a _ => a | _ => .pas) (dropSs 2 ir__law_draw))) from rfl, k2]
  rfl

abbrev Rw := W × W
def pr (x : Rw) : D := .tup [tW x.1, tW x.2]
def ob (x : Rw) : D := .obj 0 [tW x.1, tW x.2]
section
variable {p : PenS}
theorem is_integer_i (v : Int) : d_is_integer [.int v] p = .ok (.bl true) p := by
  unfold d_is_integer; simp -implicitDefEqProofs only [evFn, evSs, evS, evE, evT, evEs, evAnd, evOr, evAndT, evOrT, evO, evI, evOwn, R.bind_ok, R.bind_err, R.of_some, cat_ok, cat_err, f_repr, onInt_i, mem1, mem2, mem2b, se_d, se_u, se_o, sb_d, sb_u, sb_o, see, seeB, List.map_cons, List.map_nil, List.cons_append, List.nil_append, List.length_cons, List.length_nil, List.replicate_succ, List.replicate_zero, List.getElem?_cons_zero, List.getElem?_cons_succ, List.set_cons_zero, List.set_cons_succ, Option.join_some, Option.map_some, Option.map_none, Option.bind_some, setSl, tgSl, b_add, b_sub, b_mul, b_fdiv, b_mod, b_pow, b_addT, b_addL, b_mulT, b_mulL, deq_ii, deq_bb, c_eq, c_ne, c_lt, c_le, c_gt, c_ge, c_isN, c_isnN, c_isB, c_isnB, i_bl, i_non, i_int, i_str, i_tup, i_lst, non_non, non_int, non_tup, non_bl, t_non, t_bl, t_int, t_tup, t_lst, ixD_tup, ixD_lst, slD_tup, slD_lst, f_lenT, f_lenL, f_tupT, f_tupL, f_lstT, f_lstL, f_int, f_abs, f_max, f_min, f_all, f_any, f_sum, f_sorted, y_int, y_bl, y_non, y_str, y_tup, y_lst, y_obj, k_ii, k_ib, k_it, k_il, k_is, k_tt, k_tl, k_ti, k_tb, k_ll, k_lt, k_bi, k_bb, k_bt, k_bl, k_nt, k_ss, k_st, k_cc, ks_nil, ks_cons, as_int, pg_cells, pg_at, pg_digits, pg_count, pg_fold, ps_at, ps_digits, ps_count, ps_fold, q_tup, q_lst, z_tt, z_ll, ea_obj, er_bl, if_true, if_false, Bool.false_eq_true, Nat.reduceAdd, Nat.reduceSub, Bool.not_true, Bool.not_false, decide_true, decide_false, ir_is_integer]
theorem is_between_i (v lo hi : Int) : d_is_between [.int v, .int lo, .int hi] p = .ok (.bl (decide (lo ≤ v ∧ v ≤ hi))) p := by
  unfold d_is_between
  by_cases h1 : lo ≤ v <;> by_cases h2 : v ≤ hi <;> simp -implicitDefEqProofs only [evFn, evSs, evS, evE, evT, evEs, evAnd, evOr, evAndT, evOrT, evO, evI, evOwn, R.bind_ok, R.bind_err, R.of_some, cat_ok, cat_err, f_repr, onInt_i, mem1, mem2, mem2b, se_d, se_u, se_o, sb_d, sb_u, sb_o, see, seeB, List.map_cons, List.map_nil, List.cons_append, List.nil_append, List.length_cons, List.length_nil, List.replicate_succ, List.replicate_zero, List.getElem?_cons_zero, List.getElem?_cons_succ, List.set_cons_zero, List.set_cons_succ, Option.join_some, Option.map_some, Option.map_none, Option.bind_some, setSl, tgSl, b_add, b_sub, b_mul, b_fdiv, b_mod, b_pow, b_addT, b_addL, b_mulT, b_mulL, deq_ii, deq_bb, c_eq, c_ne, c_lt, c_le, c_gt, c_ge, c_isN, c_isnN, c_isB, c_isnB, i_bl, i_non, i_int, i_str, i_tup, i_lst, non_non, non_int, non_tup, non_bl, t_non, t_bl, t_int, t_tup, t_lst, ixD_tup, ixD_lst, slD_tup, slD_lst, f_lenT, f_lenL, f_tupT, f_tupL, f_lstT, f_lstL, f_int, f_abs, f_max, f_min, f_all, f_any, f_sum, f_sorted, y_int, y_bl, y_non, y_str, y_tup, y_lst, y_obj, k_ii, k_ib, k_it, k_il, k_is, k_tt, k_tl, k_ti, k_tb, k_ll, k_lt, k_bi, k_bb, k_bt, k_bl, k_nt, k_ss, k_st, k_cc, ks_nil, ks_cons, as_int, pg_cells, pg_at, pg_digits, pg_count, pg_fold, ps_at, ps_digits, ps_count, ps_fold, q_tup, q_lst, z_tt, z_ll, ea_obj, er_bl, if_true, if_false, Bool.false_eq_true, Nat.reduceAdd, Nat.reduceSub, Bool.not_true, Bool.not_false, decide_true, decide_false, ir_is_between, s_is_between, is_integer_i, h1, h2, true_and, false_and, and_self, and_true, and_false]
theorem need_figure_i {m : Int} (h : 1 ≤ m ∧ m ≤ 20) : d_need_figure [.int m] p = .ok .non p := by
  unfold d_need_figure; simp -implicitDefEqProofs only [evFn, evSs, evS, evE, evT, evEs, evAnd, evOr, evAndT, evOrT, evO, evI, evOwn, R.bind_ok, R.bind_err, R.of_some, cat_ok, cat_err, f_repr, onInt_i, mem1, mem2, mem2b, se_d, se_u, se_o, sb_d, sb_u, sb_o, see, seeB, List.map_cons, List.map_nil, List.cons_append, List.nil_append, List.length_cons, List.length_nil, List.replicate_succ, List.replicate_zero, List.getElem?_cons_zero, List.getElem?_cons_succ, List.set_cons_zero, List.set_cons_succ, Option.join_some, Option.map_some, Option.map_none, Option.bind_some, setSl, tgSl, b_add, b_sub, b_mul, b_fdiv, b_mod, b_pow, b_addT, b_addL, b_mulT, b_mulL, deq_ii, deq_bb, c_eq, c_ne, c_lt, c_le, c_gt, c_ge, c_isN, c_isnN, c_isB, c_isnB, i_bl, i_non, i_int, i_str, i_tup, i_lst, non_non, non_int, non_tup, non_bl, t_non, t_bl, t_int, t_tup, t_lst, ixD_tup, ixD_lst, slD_tup, slD_lst, f_lenT, f_lenL, f_tupT, f_tupL, f_lstT, f_lstL, f_int, f_abs, f_max, f_min, f_all, f_any, f_sum, f_sorted, y_int, y_bl, y_non, y_str, y_tup, y_lst, y_obj, k_ii, k_ib, k_it, k_il, k_is, k_tt, k_tl, k_ti, k_tb, k_ll, k_lt, k_bi, k_bb, k_bt, k_bl, k_nt, k_ss, k_st, k_cc, ks_nil, ks_cons, as_int, pg_cells, pg_at, pg_digits, pg_count, pg_fold, ps_at, ps_digits, ps_count, ps_fold, q_tup, q_lst, z_tt, z_ll, ea_obj, er_bl, if_true, if_false, Bool.false_eq_true, Nat.reduceAdd, Nat.reduceSub, Bool.not_true, Bool.not_false, decide_true, decide_false, ir_need_figure, s_need_figure, is_between_i, h, and_self]
theorem need_index_i {a : Int} (h : 0 ≤ a) : d_need_index [.int a] p = .ok .non p := by
  have h2 : ¬ a < 0 := by omega
  unfold d_need_index; simp -implicitDefEqProofs only [evFn, evSs, evS, evE, evT, evEs, evAnd, evOr, evAndT, evOrT, evO, evI, evOwn, R.bind_ok, R.bind_err, R.of_some, cat_ok, cat_err, f_repr, onInt_i, mem1, mem2, mem2b, se_d, se_u, se_o, sb_d, sb_u, sb_o, see, seeB, List.map_cons, List.map_nil, List.cons_append, List.nil_append, List.length_cons, List.length_nil, List.replicate_succ, List.replicate_zero, List.getElem?_cons_zero, List.getElem?_cons_succ, List.set_cons_zero, List.set_cons_succ, Option.join_some, Option.map_some, Option.map_none, Option.bind_some, setSl, tgSl, b_add, b_sub, b_mul, b_fdiv, b_mod, b_pow, b_addT, b_addL, b_mulT, b_mulL, deq_ii, deq_bb, c_eq, c_ne, c_lt, c_le, c_gt, c_ge, c_isN, c_isnN, c_isB, c_isnB, i_bl, i_non, i_int, i_str, i_tup, i_lst, non_non, non_int, non_tup, non_bl, t_non, t_bl, t_int, t_tup, t_lst, ixD_tup, ixD_lst, slD_tup, slD_lst, f_lenT, f_lenL, f_tupT, f_tupL, f_lstT, f_lstL, f_int, f_abs, f_max, f_min, f_all, f_any, f_sum, f_sorted, y_int, y_bl, y_non, y_str, y_tup, y_lst, y_obj, k_ii, k_ib, k_it, k_il, k_is, k_tt, k_tl, k_ti, k_tb, k_ll, k_lt, k_bi, k_bb, k_bt, k_bl, k_nt, k_ss, k_st, k_cc, ks_nil, ks_cons, as_int, pg_cells, pg_at, pg_digits, pg_count, pg_fold, ps_at, ps_digits, ps_count, ps_fold, q_tup, q_lst, z_tt, z_ll, ea_obj, er_bl, if_true, if_false, Bool.false_eq_true, Nat.reduceAdd, Nat.reduceSub, Bool.not_true, Bool.not_false, decide_true, decide_false, ir_need_index, s_need_index, is_integer_i, h2]
theorem are_figures_i {xs : W} {m : Int} (hl : xs.length ≤ 1000) : d_are_figures [tW xs, .int m] p = .ok (.bl (xs.all fun v => decide (0 ≤ v ∧ v ≤ m))) p := by
  unfold d_are_figures tW
  have hl' : (xs.map D.int).length ≤ sizeLine := by rw [List.length_map]; exact len_line hl
  simp -implicitDefEqProofs only [evFn, evSs, evS, evE, evT, evEs, evAnd, evOr, evAndT, evOrT, evO, evI, evOwn, R.bind_ok, R.bind_err, R.of_some, cat_ok, cat_err, f_repr, onInt_i, mem1, mem2, mem2b, se_d, se_u, se_o, sb_d, sb_u, sb_o, see, seeB, List.map_cons, List.map_nil, List.cons_append, List.nil_append, List.length_cons, List.length_nil, List.replicate_succ, List.replicate_zero, List.getElem?_cons_zero, List.getElem?_cons_succ, List.set_cons_zero, List.set_cons_succ, Option.join_some, Option.map_some, Option.map_none, Option.bind_some, setSl, tgSl, b_add, b_sub, b_mul, b_fdiv, b_mod, b_pow, b_addT, b_addL, b_mulT, b_mulL, deq_ii, deq_bb, c_eq, c_ne, c_lt, c_le, c_gt, c_ge, c_isN, c_isnN, c_isB, c_isnB, i_bl, i_non, i_int, i_str, i_tup, i_lst, non_non, non_int, non_tup, non_bl, t_non, t_bl, t_int, t_tup, t_lst, ixD_tup, ixD_lst, slD_tup, slD_lst, f_lenT, f_lenL, f_tupT, f_tupL, f_lstT, f_lstL, f_int, f_abs, f_max, f_min, f_all, f_any, f_sum, f_sorted, y_int, y_bl, y_non, y_str, y_tup, y_lst, y_obj, k_ii, k_ib, k_it, k_il, k_is, k_tt, k_tl, k_ti, k_tb, k_ll, k_lt, k_bi, k_bb, k_bt, k_bl, k_nt, k_ss, k_st, k_cc, ks_nil, ks_cons, as_int, pg_cells, pg_at, pg_digits, pg_count, pg_fold, ps_at, ps_digits, ps_count, ps_fold, q_tup, q_lst, z_tt, z_ll, ea_obj, er_bl, if_true, if_false, Bool.false_eq_true, Nat.reduceAdd, Nat.reduceSub, Bool.not_true, Bool.not_false, decide_true, decide_false, ir_are_figures, s_are_figures, hl', wipeD, asgTg]
  rw [compF (g := onInt fun v => .bl (decide (0 ≤ v ∧ v ≤ m)))]
  · simp -implicitDefEqProofs only [evFn, evSs, evS, evE, evT, evEs, evAnd, evOr, evAndT, evOrT, evO, evI, evOwn, R.bind_ok, R.bind_err, R.of_some, cat_ok, cat_err, f_repr, onInt_i, mem1, mem2, mem2b, se_d, se_u, se_o, sb_d, sb_u, sb_o, see, seeB, List.map_cons, List.map_nil, List.cons_append, List.nil_append, List.length_cons, List.length_nil, List.replicate_succ, List.replicate_zero, List.getElem?_cons_zero, List.getElem?_cons_succ, List.set_cons_zero, List.set_cons_succ, Option.join_some, Option.map_some, Option.map_none, Option.bind_some, setSl, tgSl, b_add, b_sub, b_mul, b_fdiv, b_mod, b_pow, b_addT, b_addL, b_mulT, b_mulL, deq_ii, deq_bb, c_eq, c_ne, c_lt, c_le, c_gt, c_ge, c_isN, c_isnN, c_isB, c_isnB, i_bl, i_non, i_int, i_str, i_tup, i_lst, non_non, non_int, non_tup, non_bl, t_non, t_bl, t_int, t_tup, t_lst, ixD_tup, ixD_lst, slD_tup, slD_lst, f_lenT, f_lenL, f_tupT, f_tupL, f_lstT, f_lstL, f_int, f_abs, f_max, f_min, f_all, f_any, f_sum, f_sorted, y_int, y_bl, y_non, y_str, y_tup, y_lst, y_obj, k_ii, k_ib, k_it, k_il, k_is, k_tt, k_tl, k_ti, k_tb, k_ll, k_lt, k_bi, k_bb, k_bt, k_bl, k_nt, k_ss, k_st, k_cc, ks_nil, ks_cons, as_int, pg_cells, pg_at, pg_digits, pg_count, pg_fold, ps_at, ps_digits, ps_count, ps_fold, q_tup, q_lst, z_tt, z_ll, ea_obj, er_bl, if_true, if_false, Bool.false_eq_true, Nat.reduceAdd, Nat.reduceSub, Bool.not_true, Bool.not_false, decide_true, decide_false, all_bl, List.all_map, Function.comp_def, id_eq]
  · intro d hd
    obtain ⟨v, _, rfl⟩ := List.mem_map.mp hd
    simp -implicitDefEqProofs only [evFn, evSs, evS, evE, evT, evEs, evAnd, evOr, evAndT, evOrT, evO, evI, evOwn, R.bind_ok, R.bind_err, R.of_some, cat_ok, cat_err, f_repr, onInt_i, mem1, mem2, mem2b, se_d, se_u, se_o, sb_d, sb_u, sb_o, see, seeB, List.map_cons, List.map_nil, List.cons_append, List.nil_append, List.length_cons, List.length_nil, List.replicate_succ, List.replicate_zero, List.getElem?_cons_zero, List.getElem?_cons_succ, List.set_cons_zero, List.set_cons_succ, Option.join_some, Option.map_some, Option.map_none, Option.bind_some, setSl, tgSl, b_add, b_sub, b_mul, b_fdiv, b_mod, b_pow, b_addT, b_addL, b_mulT, b_mulL, deq_ii, deq_bb, c_eq, c_ne, c_lt, c_le, c_gt, c_ge, c_isN, c_isnN, c_isB, c_isnB, i_bl, i_non, i_int, i_str, i_tup, i_lst, non_non, non_int, non_tup, non_bl, t_non, t_bl, t_int, t_tup, t_lst, ixD_tup, ixD_lst, slD_tup, slD_lst, f_lenT, f_lenL, f_tupT, f_tupL, f_lstT, f_lstL, f_int, f_abs, f_max, f_min, f_all, f_any, f_sum, f_sorted, y_int, y_bl, y_non, y_str, y_tup, y_lst, y_obj, k_ii, k_ib, k_it, k_il, k_is, k_tt, k_tl, k_ti, k_tb, k_ll, k_lt, k_bi, k_bb, k_bt, k_bl, k_nt, k_ss, k_st, k_cc, ks_nil, ks_cons, as_int, pg_cells, pg_at, pg_digits, pg_count, pg_fold, ps_at, ps_digits, ps_count, ps_fold, q_tup, q_lst, z_tt, z_ll, ea_obj, er_bl, if_true, if_false, Bool.false_eq_true, Nat.reduceAdd, Nat.reduceSub, Bool.not_true, Bool.not_false, decide_true, decide_false, is_between_i]
end

def Good (m : Int) (x : Rw) : Prop := x.2 ≠ [] ∧ (∀ v ∈ x.1, 0 ≤ v ∧ v ≤ m) ∧ (∀ v ∈ x.2, 0 ≤ v ∧ v ≤ m) ∧ x.1.length + x.2.length ≤ 400
theorem lk_a {a b : D} : ((["ahead", "ring"] : List Str).zip [a, b]).lookup ("ahead" : Str) = some a := rfl
theorem lk_r {a b : D} : ((["ahead", "ring"] : List Str).zip [a, b]).lookup ("ring" : Str) = some b := rfl
section
variable {p : PenS}
theorem ring_ne {r : W} : (deq (tW r) (D.tup [])).map (fun x => !x) = some (decide (r ≠ [])) := by
  rw [nil_tI, deq_tI]
  by_cases h : r = [] <;> simp [h]
theorem is_row_i {x : Rw} {m : Int} (h : Good m x) : d_is_row [ob x, .int m] p = .ok (.bl true) p := by
  obtain ⟨h1, h2, h3, h4⟩ := h
  have f1 : (x.1.all fun v => decide (0 ≤ v ∧ v ≤ m)) = true := List.all_eq_true.mpr fun v hv => decide_eq_true (h2 v hv)
  have f2 : (x.2.all fun v => decide (0 ≤ v ∧ v ≤ m)) = true := List.all_eq_true.mpr fun v hv => decide_eq_true (h3 v hv)
  have l4 : ((x.1.length : Int) + (x.2.length : Int) ≤ 400) := by omega
  have l1 : x.1.length ≤ 1000 := by omega
  have l2 : x.2.length ≤ 1000 := by omega
  have e1 : ∀ p, d_are_figures [tW x.1, .int m] p = .ok (.bl true) p := fun p => by rw [are_figures_i l1, f1]
  have e2 : ∀ p, d_are_figures [tW x.2, .int m] p = .ok (.bl true) p := fun p => by rw [are_figures_i l2, f2]
  have g1 : bfn .len [tW x.1] = some (.int x.1.length) := by unfold tW; rw [f_lenT, List.length_map]
  have g2 : bfn .len [tW x.2] = some (.int x.2.length) := by unfold tW; rw [f_lenT, List.length_map]
  unfold d_is_row ob
  simp -implicitDefEqProofs only [evFn, evSs, evS, evE, evT, evEs, evAnd, evOr, evAndT, evOrT, evO, evI, evOwn, R.bind_ok, R.bind_err, R.of_some, cat_ok, cat_err, f_repr, onInt_i, mem1, mem2, mem2b, se_d, se_u, se_o, sb_d, sb_u, sb_o, see, seeB, List.map_cons, List.map_nil, List.cons_append, List.nil_append, List.length_cons, List.length_nil, List.replicate_succ, List.replicate_zero, List.getElem?_cons_zero, List.getElem?_cons_succ, List.set_cons_zero, List.set_cons_succ, Option.join_some, Option.map_some, Option.map_none, Option.bind_some, setSl, tgSl, b_add, b_sub, b_mul, b_fdiv, b_mod, b_pow, b_addT, b_addL, b_mulT, b_mulL, deq_ii, deq_bb, c_eq, c_ne, c_lt, c_le, c_gt, c_ge, c_isN, c_isnN, c_isB, c_isnB, i_bl, i_non, i_int, i_str, i_tup, i_lst, non_non, non_int, non_tup, non_bl, t_non, t_bl, t_int, t_tup, t_lst, ixD_tup, ixD_lst, slD_tup, slD_lst, f_lenT, f_lenL, f_tupT, f_tupL, f_lstT, f_lstL, f_int, f_abs, f_max, f_min, f_all, f_any, f_sum, f_sorted, y_int, y_bl, y_non, y_str, y_tup, y_lst, y_obj, k_ii, k_ib, k_it, k_il, k_is, k_tt, k_tl, k_ti, k_tb, k_ll, k_lt, k_bi, k_bb, k_bt, k_bl, k_nt, k_ss, k_st, k_cc, ks_nil, ks_cons, as_int, pg_cells, pg_at, pg_digits, pg_count, pg_fold, ps_at, ps_digits, ps_count, ps_fold, q_tup, q_lst, z_tt, z_ll, ea_obj, er_bl, if_true, if_false, Bool.false_eq_true, Nat.reduceAdd, Nat.reduceSub, Bool.not_true, Bool.not_false, decide_true, decide_false, ir_is_row, s_is_row, lk_a, lk_r, e1, e2, ring_ne, h1, g1, g2, l4, ne_eq, not_false_eq_true, sz0]
theorem need_row_i {x : Rw} {m : Int} (h : Good m x) (s : D) : d_need_row [ob x, .int m, s] p = .ok (pr x) p := by
  unfold d_need_row
  simp -implicitDefEqProofs only [evFn, evSs, evS, evE, evT, evEs, evAnd, evOr, evAndT, evOrT, evO, evI, evOwn, R.bind_ok, R.bind_err, R.of_some, cat_ok, cat_err, f_repr, onInt_i, mem1, mem2, mem2b, se_d, se_u, se_o, sb_d, sb_u, sb_o, see, seeB, List.map_cons, List.map_nil, List.cons_append, List.nil_append, List.length_cons, List.length_nil, List.replicate_succ, List.replicate_zero, List.getElem?_cons_zero, List.getElem?_cons_succ, List.set_cons_zero, List.set_cons_succ, Option.join_some, Option.map_some, Option.map_none, Option.bind_some, setSl, tgSl, b_add, b_sub, b_mul, b_fdiv, b_mod, b_pow, b_addT, b_addL, b_mulT, b_mulL, deq_ii, deq_bb, c_eq, c_ne, c_lt, c_le, c_gt, c_ge, c_isN, c_isnN, c_isB, c_isnB, i_bl, i_non, i_int, i_str, i_tup, i_lst, non_non, non_int, non_tup, non_bl, t_non, t_bl, t_int, t_tup, t_lst, ixD_tup, ixD_lst, slD_tup, slD_lst, f_lenT, f_lenL, f_tupT, f_tupL, f_lstT, f_lstL, f_int, f_abs, f_max, f_min, f_all, f_any, f_sum, f_sorted, y_int, y_bl, y_non, y_str, y_tup, y_lst, y_obj, k_ii, k_ib, k_it, k_il, k_is, k_tt, k_tl, k_ti, k_tb, k_ll, k_lt, k_bi, k_bb, k_bt, k_bl, k_nt, k_ss, k_st, k_cc, ks_nil, ks_cons, as_int, pg_cells, pg_at, pg_digits, pg_count, pg_fold, ps_at, ps_digits, ps_count, ps_fold, q_tup, q_lst, z_tt, z_ll, ea_obj, er_bl, if_true, if_false, Bool.false_eq_true, Nat.reduceAdd, Nat.reduceSub, Bool.not_true, Bool.not_false, decide_true, decide_false, ir_need_row, s_need_row, is_row_i h]
  unfold ob pr
  simp -implicitDefEqProofs only [evFn, evSs, evS, evE, evT, evEs, evAnd, evOr, evAndT, evOrT, evO, evI, evOwn, R.bind_ok, R.bind_err, R.of_some, cat_ok, cat_err, f_repr, onInt_i, mem1, mem2, mem2b, se_d, se_u, se_o, sb_d, sb_u, sb_o, see, seeB, List.map_cons, List.map_nil, List.cons_append, List.nil_append, List.length_cons, List.length_nil, List.replicate_succ, List.replicate_zero, List.getElem?_cons_zero, List.getElem?_cons_succ, List.set_cons_zero, List.set_cons_succ, Option.join_some, Option.map_some, Option.map_none, Option.bind_some, setSl, tgSl, b_add, b_sub, b_mul, b_fdiv, b_mod, b_pow, b_addT, b_addL, b_mulT, b_mulL, deq_ii, deq_bb, c_eq, c_ne, c_lt, c_le, c_gt, c_ge, c_isN, c_isnN, c_isB, c_isnB, i_bl, i_non, i_int, i_str, i_tup, i_lst, non_non, non_int, non_tup, non_bl, t_non, t_bl, t_int, t_tup, t_lst, ixD_tup, ixD_lst, slD_tup, slD_lst, f_lenT, f_lenL, f_tupT, f_tupL, f_lstT, f_lstL, f_int, f_abs, f_max, f_min, f_all, f_any, f_sum, f_sorted, y_int, y_bl, y_non, y_str, y_tup, y_lst, y_obj, k_ii, k_ib, k_it, k_il, k_is, k_tt, k_tl, k_ti, k_tb, k_ll, k_lt, k_bi, k_bb, k_bt, k_bl, k_nt, k_ss, k_st, k_cc, ks_nil, ks_cons, as_int, pg_cells, pg_at, pg_digits, pg_count, pg_fold, ps_at, ps_digits, ps_count, ps_fold, q_tup, q_lst, z_tt, z_ll, ea_obj, er_bl, if_true, if_false, Bool.false_eq_true, Nat.reduceAdd, Nat.reduceSub, Bool.not_true, Bool.not_false, decide_true, decide_false, s_need_row, lk_a, lk_r, sz2]
/-- as_tuples on words -/
theorem as_int_i (v : Int) : d_as_tuples_2 [.int v] p = .ok (.int v) p := by
  unfold d_as_tuples_2; simp -implicitDefEqProofs only [evFn, evSs, evS, evE, evT, evEs, evAnd, evOr, evAndT, evOrT, evO, evI, evOwn, R.bind_ok, R.bind_err, R.of_some, cat_ok, cat_err, f_repr, onInt_i, mem1, mem2, mem2b, se_d, se_u, se_o, sb_d, sb_u, sb_o, see, seeB, List.map_cons, List.map_nil, List.cons_append, List.nil_append, List.length_cons, List.length_nil, List.replicate_succ, List.replicate_zero, List.getElem?_cons_zero, List.getElem?_cons_succ, List.set_cons_zero, List.set_cons_succ, Option.join_some, Option.map_some, Option.map_none, Option.bind_some, setSl, tgSl, b_add, b_sub, b_mul, b_fdiv, b_mod, b_pow, b_addT, b_addL, b_mulT, b_mulL, deq_ii, deq_bb, c_eq, c_ne, c_lt, c_le, c_gt, c_ge, c_isN, c_isnN, c_isB, c_isnB, i_bl, i_non, i_int, i_str, i_tup, i_lst, non_non, non_int, non_tup, non_bl, t_non, t_bl, t_int, t_tup, t_lst, ixD_tup, ixD_lst, slD_tup, slD_lst, f_lenT, f_lenL, f_tupT, f_tupL, f_lstT, f_lstL, f_int, f_abs, f_max, f_min, f_all, f_any, f_sum, f_sorted, y_int, y_bl, y_non, y_str, y_tup, y_lst, y_obj, k_ii, k_ib, k_it, k_il, k_is, k_tt, k_tl, k_ti, k_tb, k_ll, k_lt, k_bi, k_bb, k_bt, k_bl, k_nt, k_ss, k_st, k_cc, ks_nil, ks_cons, as_int, pg_cells, pg_at, pg_digits, pg_count, pg_fold, ps_at, ps_digits, ps_count, ps_fold, q_tup, q_lst, z_tt, z_ll, ea_obj, er_bl, if_true, if_false, Bool.false_eq_true, Nat.reduceAdd, Nat.reduceSub, Bool.not_true, Bool.not_false, decide_true, decide_false, ir_as_tuples_2]
theorem as_tI {xs : W} (h : xs.length ≤ 1000) : d_as_tuples_3 [tW xs] p = .ok (tW xs) p := by
  unfold d_as_tuples_3 tW
  have hl' : (xs.map D.int).length ≤ sizeLine := by rw [List.length_map]; exact len_line h
  simp -implicitDefEqProofs only [evFn, evSs, evS, evE, evT, evEs, evAnd, evOr, evAndT, evOrT, evO, evI, evOwn, R.bind_ok, R.bind_err, R.of_some, cat_ok, cat_err, f_repr, onInt_i, mem1, mem2, mem2b, se_d, se_u, se_o, sb_d, sb_u, sb_o, see, seeB, List.map_cons, List.map_nil, List.cons_append, List.nil_append, List.length_cons, List.length_nil, List.replicate_succ, List.replicate_zero, List.getElem?_cons_zero, List.getElem?_cons_succ, List.set_cons_zero, List.set_cons_succ, Option.join_some, Option.map_some, Option.map_none, Option.bind_some, setSl, tgSl, b_add, b_sub, b_mul, b_fdiv, b_mod, b_pow, b_addT, b_addL, b_mulT, b_mulL, deq_ii, deq_bb, c_eq, c_ne, c_lt, c_le, c_gt, c_ge, c_isN, c_isnN, c_isB, c_isnB, i_bl, i_non, i_int, i_str, i_tup, i_lst, non_non, non_int, non_tup, non_bl, t_non, t_bl, t_int, t_tup, t_lst, ixD_tup, ixD_lst, slD_tup, slD_lst, f_lenT, f_lenL, f_tupT, f_tupL, f_lstT, f_lstL, f_int, f_abs, f_max, f_min, f_all, f_any, f_sum, f_sorted, y_int, y_bl, y_non, y_str, y_tup, y_lst, y_obj, k_ii, k_ib, k_it, k_il, k_is, k_tt, k_tl, k_ti, k_tb, k_ll, k_lt, k_bi, k_bb, k_bt, k_bl, k_nt, k_ss, k_st, k_cc, ks_nil, ks_cons, as_int, pg_cells, pg_at, pg_digits, pg_count, pg_fold, ps_at, ps_digits, ps_count, ps_fold, q_tup, q_lst, z_tt, z_ll, ea_obj, er_bl, if_true, if_false, Bool.false_eq_true, Nat.reduceAdd, Nat.reduceSub, Bool.not_true, Bool.not_false, decide_true, decide_false, ir_as_tuples_3, s_as_tuples_3, hl', wipeD, asgTg]
  rw [compF (g := fun d => some d)]
  · simp -implicitDefEqProofs only [evFn, evSs, evS, evE, evT, evEs, evAnd, evOr, evAndT, evOrT, evO, evI, evOwn, R.bind_ok, R.bind_err, R.of_some, cat_ok, cat_err, f_repr, onInt_i, mem1, mem2, mem2b, se_d, se_u, se_o, sb_d, sb_u, sb_o, see, seeB, List.map_cons, List.map_nil, List.cons_append, List.nil_append, List.length_cons, List.length_nil, List.replicate_succ, List.replicate_zero, List.getElem?_cons_zero, List.getElem?_cons_succ, List.set_cons_zero, List.set_cons_succ, Option.join_some, Option.map_some, Option.map_none, Option.bind_some, setSl, tgSl, b_add, b_sub, b_mul, b_fdiv, b_mod, b_pow, b_addT, b_addL, b_mulT, b_mulL, deq_ii, deq_bb, c_eq, c_ne, c_lt, c_le, c_gt, c_ge, c_isN, c_isnN, c_isB, c_isnB, i_bl, i_non, i_int, i_str, i_tup, i_lst, non_non, non_int, non_tup, non_bl, t_non, t_bl, t_int, t_tup, t_lst, ixD_tup, ixD_lst, slD_tup, slD_lst, f_lenT, f_lenL, f_tupT, f_tupL, f_lstT, f_lstL, f_int, f_abs, f_max, f_min, f_all, f_any, f_sum, f_sorted, y_int, y_bl, y_non, y_str, y_tup, y_lst, y_obj, k_ii, k_ib, k_it, k_il, k_is, k_tt, k_tl, k_ti, k_tb, k_ll, k_lt, k_bi, k_bb, k_bt, k_bl, k_nt, k_ss, k_st, k_cc, ks_nil, ks_cons, as_int, pg_cells, pg_at, pg_digits, pg_count, pg_fold, ps_at, ps_digits, ps_count, ps_fold, q_tup, q_lst, z_tt, z_ll, ea_obj, er_bl, if_true, if_false, Bool.false_eq_true, Nat.reduceAdd, Nat.reduceSub, Bool.not_true, Bool.not_false, decide_true, decide_false, List.filterMap_some]
  · intro d hd
    obtain ⟨v, _, rfl⟩ := List.mem_map.mp hd
    simp -implicitDefEqProofs only [evFn, evSs, evS, evE, evT, evEs, evAnd, evOr, evAndT, evOrT, evO, evI, evOwn, R.bind_ok, R.bind_err, R.of_some, cat_ok, cat_err, f_repr, onInt_i, mem1, mem2, mem2b, se_d, se_u, se_o, sb_d, sb_u, sb_o, see, seeB, List.map_cons, List.map_nil, List.cons_append, List.nil_append, List.length_cons, List.length_nil, List.replicate_succ, List.replicate_zero, List.getElem?_cons_zero, List.getElem?_cons_succ, List.set_cons_zero, List.set_cons_succ, Option.join_some, Option.map_some, Option.map_none, Option.bind_some, setSl, tgSl, b_add, b_sub, b_mul, b_fdiv, b_mod, b_pow, b_addT, b_addL, b_mulT, b_mulL, deq_ii, deq_bb, c_eq, c_ne, c_lt, c_le, c_gt, c_ge, c_isN, c_isnN, c_isB, c_isnB, i_bl, i_non, i_int, i_str, i_tup, i_lst, non_non, non_int, non_tup, non_bl, t_non, t_bl, t_int, t_tup, t_lst, ixD_tup, ixD_lst, slD_tup, slD_lst, f_lenT, f_lenL, f_tupT, f_tupL, f_lstT, f_lstL, f_int, f_abs, f_max, f_min, f_all, f_any, f_sum, f_sorted, y_int, y_bl, y_non, y_str, y_tup, y_lst, y_obj, k_ii, k_ib, k_it, k_il, k_is, k_tt, k_tl, k_ti, k_tb, k_ll, k_lt, k_bi, k_bb, k_bt, k_bl, k_nt, k_ss, k_st, k_cc, ks_nil, ks_cons, as_int, pg_cells, pg_at, pg_digits, pg_count, pg_fold, ps_at, ps_digits, ps_count, ps_fold, q_tup, q_lst, z_tt, z_ll, ea_obj, er_bl, if_true, if_false, Bool.false_eq_true, Nat.reduceAdd, Nat.reduceSub, Bool.not_true, Bool.not_false, decide_true, decide_false, as_int_i]
theorem row_ini {x : Rw} (h1 : x.1.length ≤ 1000) (h2 : x.2.length ≤ 1000) : i_Row [tW x.1, tW x.2] p = .ok [tW x.1, tW x.2] p := by
  unfold i_Row evIni
  simp -implicitDefEqProofs only [evFn, evSs, evS, evE, evT, evEs, evAnd, evOr, evAndT, evOrT, evO, evI, evOwn, R.bind_ok, R.bind_err, R.of_some, cat_ok, cat_err, f_repr, onInt_i, mem1, mem2, mem2b, se_d, se_u, se_o, sb_d, sb_u, sb_o, see, seeB, List.map_cons, List.map_nil, List.cons_append, List.nil_append, List.length_cons, List.length_nil, List.replicate_succ, List.replicate_zero, List.getElem?_cons_zero, List.getElem?_cons_succ, List.set_cons_zero, List.set_cons_succ, Option.join_some, Option.map_some, Option.map_none, Option.bind_some, setSl, tgSl, b_add, b_sub, b_mul, b_fdiv, b_mod, b_pow, b_addT, b_addL, b_mulT, b_mulL, deq_ii, deq_bb, c_eq, c_ne, c_lt, c_le, c_gt, c_ge, c_isN, c_isnN, c_isB, c_isnB, i_bl, i_non, i_int, i_str, i_tup, i_lst, non_non, non_int, non_tup, non_bl, t_non, t_bl, t_int, t_tup, t_lst, ixD_tup, ixD_lst, slD_tup, slD_lst, f_lenT, f_lenL, f_tupT, f_tupL, f_lstT, f_lstL, f_int, f_abs, f_max, f_min, f_all, f_any, f_sum, f_sorted, y_int, y_bl, y_non, y_str, y_tup, y_lst, y_obj, k_ii, k_ib, k_it, k_il, k_is, k_tt, k_tl, k_ti, k_tb, k_ll, k_lt, k_bi, k_bb, k_bt, k_bl, k_nt, k_ss, k_st, k_cc, ks_nil, ks_cons, as_int, pg_cells, pg_at, pg_digits, pg_count, pg_fold, ps_at, ps_digits, ps_count, ps_fold, q_tup, q_lst, z_tt, z_ll, ea_obj, er_bl, if_true, if_false, Bool.false_eq_true, Nat.reduceAdd, Nat.reduceSub, Bool.not_true, Bool.not_false, decide_true, decide_false, ir_init_Row, s_init_Row, as_tI h1, as_tI h2, and_self]
theorem item_by_i {x : Rw} (hr : x.2 ≠ []) {n : Nat} : d_item_by [pr x, .int n] p = .ok (.int (item x.1 x.2 n)) p := by
  have hp : 0 < x.2.length := List.length_pos_iff.mpr hr
  unfold d_item_by pr
  have g1 : bfn .len [tW x.1] = some (.int x.1.length) := by unfold tW; rw [f_lenT, List.length_map]
  have g2 : bfn .len [tW x.2] = some (.int x.2.length) := by unfold tW; rw [f_lenT, List.length_map]
  by_cases h : n < x.1.length
  · have h' : ((n : Int) < (x.1.length : Int)) := by omega
    have a1 : idx (tW x.1) (.int n) = some (.int (x.1.getD n 0)) := by
      unfold tW; rw [ixD_tup, at_get _ (by omega) h']; rfl
    simp -implicitDefEqProofs only [evFn, evSs, evS, evE, evT, evEs, evAnd, evOr, evAndT, evOrT, evO, evI, evOwn, R.bind_ok, R.bind_err, R.of_some, cat_ok, cat_err, f_repr, onInt_i, mem1, mem2, mem2b, se_d, se_u, se_o, sb_d, sb_u, sb_o, see, seeB, List.map_cons, List.map_nil, List.cons_append, List.nil_append, List.length_cons, List.length_nil, List.replicate_succ, List.replicate_zero, List.getElem?_cons_zero, List.getElem?_cons_succ, List.set_cons_zero, List.set_cons_succ, Option.join_some, Option.map_some, Option.map_none, Option.bind_some, setSl, tgSl, b_add, b_sub, b_mul, b_fdiv, b_mod, b_pow, b_addT, b_addL, b_mulT, b_mulL, deq_ii, deq_bb, c_eq, c_ne, c_lt, c_le, c_gt, c_ge, c_isN, c_isnN, c_isB, c_isnB, i_bl, i_non, i_int, i_str, i_tup, i_lst, non_non, non_int, non_tup, non_bl, t_non, t_bl, t_int, t_tup, t_lst, ixD_tup, ixD_lst, slD_tup, slD_lst, f_lenT, f_lenL, f_tupT, f_tupL, f_lstT, f_lstL, f_int, f_abs, f_max, f_min, f_all, f_any, f_sum, f_sorted, y_int, y_bl, y_non, y_str, y_tup, y_lst, y_obj, k_ii, k_ib, k_it, k_il, k_is, k_tt, k_tl, k_ti, k_tb, k_ll, k_lt, k_bi, k_bb, k_bt, k_bl, k_nt, k_ss, k_st, k_cc, ks_nil, ks_cons, as_int, pg_cells, pg_at, pg_digits, pg_count, pg_fold, ps_at, ps_digits, ps_count, ps_fold, q_tup, q_lst, z_tt, z_ll, ea_obj, er_bl, if_true, if_false, Bool.false_eq_true, Nat.reduceAdd, Nat.reduceSub, Bool.not_true, Bool.not_false, decide_true, decide_false, ir_item_by, g1, g2, h', a1]
    unfold item; rw [if_pos h]
  · have h' : ¬ ((n : Int) < (x.1.length : Int)) := by omega
    have ne : ((x.2.length : Int)) ≠ 0 := by omega
    have e : ((n : Int) - (x.1.length : Int)).fmod (x.2.length : Int) = (((n - x.1.length) % x.2.length : Nat) : Int) := by
      rw [Int.fmod_eq_emod_of_nonneg _ (by omega), Int.natCast_emod]
      congr 1; omega
    have a1 : idx (tW x.2) (.int (((n - x.1.length) % x.2.length : Nat) : Int)) = some (.int (x.2.getD ((n - x.1.length) % x.2.length) 0)) := by
      unfold tW; rw [ixD_tup, at_get _ (by omega) (by have := Nat.mod_lt (n - x.1.length) hp; omega)]; rfl
    simp -implicitDefEqProofs only [evFn, evSs, evS, evE, evT, evEs, evAnd, evOr, evAndT, evOrT, evO, evI, evOwn, R.bind_ok, R.bind_err, R.of_some, cat_ok, cat_err, f_repr, onInt_i, mem1, mem2, mem2b, se_d, se_u, se_o, sb_d, sb_u, sb_o, see, seeB, List.map_cons, List.map_nil, List.cons_append, List.nil_append, List.length_cons, List.length_nil, List.replicate_succ, List.replicate_zero, List.getElem?_cons_zero, List.getElem?_cons_succ, List.set_cons_zero, List.set_cons_succ, Option.join_some, Option.map_some, Option.map_none, Option.bind_some, setSl, tgSl, b_add, b_sub, b_mul, b_fdiv, b_mod, b_pow, b_addT, b_addL, b_mulT, b_mulL, deq_ii, deq_bb, c_eq, c_ne, c_lt, c_le, c_gt, c_ge, c_isN, c_isnN, c_isB, c_isnB, i_bl, i_non, i_int, i_str, i_tup, i_lst, non_non, non_int, non_tup, non_bl, t_non, t_bl, t_int, t_tup, t_lst, ixD_tup, ixD_lst, slD_tup, slD_lst, f_lenT, f_lenL, f_tupT, f_tupL, f_lstT, f_lstL, f_int, f_abs, f_max, f_min, f_all, f_any, f_sum, f_sorted, y_int, y_bl, y_non, y_str, y_tup, y_lst, y_obj, k_ii, k_ib, k_it, k_il, k_is, k_tt, k_tl, k_ti, k_tb, k_ll, k_lt, k_bi, k_bb, k_bt, k_bl, k_nt, k_ss, k_st, k_cc, ks_nil, ks_cons, as_int, pg_cells, pg_at, pg_digits, pg_count, pg_fold, ps_at, ps_digits, ps_count, ps_fold, q_tup, q_lst, z_tt, z_ll, ea_obj, er_bl, if_true, if_false, Bool.false_eq_true, Nat.reduceAdd, Nat.reduceSub, Bool.not_true, Bool.not_false, decide_true, decide_false, ir_item_by, g1, g2, h', ne, e, a1, ne_eq, not_false_eq_true]
    unfold item; rw [if_neg h]; rfl
end
end Lk91

set_option Elab.async false
set_option linter.all false
set_option maxRecDepth 100000
set_option maxHeartbeats 1000000
namespace Lk91
open PySem PySem.Spec PyProof.Rows L2 Mi RowP
/-- the parity of ones -/
def t : Nat → Int
  | 0 => 0
  | n + 1 => (t ((n + 1) / 2) + ((n + 1) % 2 : Nat)) % 2
  decreasing_by omega
theorem t_step {n : Nat} (h : 0 < n) : t n = (t (n / 2) + (n % 2 : Nat)) % 2 := by
  cases n with
  | zero => omega
  | succ n => rw [t]
theorem t0 : t 0 = 0 := by rw [t]
theorem t01 (n : Nat) : t n = 0 ∨ t n = 1 := by
  cases n with
  | zero => exact .inl t0
  | succ n => rw [t]; omega
theorem t_even (n : Nat) : t (2 * n) = t n := by
  by_cases h : 0 < n
  · rw [t_step (n := 2 * n) (by omega), show 2 * n / 2 = n by omega, show 2 * n % 2 = 0 by omega]
    have := t01 n; omega
  · rw [show n = 0 by omega]
theorem t_odd (n : Nat) : t (2 * n + 1) = 1 - t n := by
  rw [t_step (n := 2 * n + 1) (by omega), show (2 * n + 1) / 2 = n by omega, show (2 * n + 1) % 2 = 1 by omega]
  have := t01 n; omega
theorem t_pow (k : Nat) : ∀ j, j < 2 ^ k → t (2 ^ k + j) = 1 - t j := by
  induction k with
  | zero => intro j h; have : j = 0 := by simpa using h
            subst this; show t 1 = _; rw [show (1 : Nat) = 2 * 0 + 1 from rfl, t_odd]
  | succ k ih =>
    intro j h
    rw [Nat.pow_succ] at h ⊢
    have e := ih (j / 2) (by omega)
    by_cases c : j % 2 = 0
    · rw [show 2 ^ k * 2 + j = 2 * (2 ^ k + j / 2) by omega, t_even, e]
      conv => rhs; rw [show j = 2 * (j / 2) by omega, t_even]
    · rw [show 2 ^ k * 2 + j = 2 * (2 ^ k + j / 2) + 1 by omega, t_odd, e]
      conv => rhs; rw [show j = 2 * (j / 2) + 1 by omega, t_odd]
theorem halfs_mod (n : Nat) : ∀ a : Int, a = 0 ∨ a = 1 → halfs (fun n a => Int.fmod (a + (n : Nat)) 2) n a = (a + t n) % 2 := by
  induction n using Nat.strongRecOn with
  | _ n ih =>
    intro a ha
    cases n with
    | zero => rw [halfs, t0]; omega
    | succ n =>
      rw [halfs, ih _ (by omega) _ (by rw [Int.fmod_eq_emod_of_nonneg _ (by omega)]; omega), t, Int.fmod_eq_emod_of_nonneg _ (by omega)]
      omega
theorem halfs_sum (n : Nat) : ∀ a : Int, Int.fmod (halfs (fun n a => a + Int.fmod (n : Nat) 2) n a) 2 = (a + t n) % 2 := by
  induction n using Nat.strongRecOn with
  | _ n ih =>
    intro a
    cases n with
    | zero => rw [halfs, t0, Int.fmod_eq_emod_of_nonneg _ (by omega)]; omega
    | succ n =>
      rw [halfs, ih _ (by omega), t, Int.fmod_eq_emod_of_nonneg _ (by omega)]
      omega
abbrev e2 (n : Nat) (a : Int) : SEnv := [.d (.int (n : Nat)), .d (.int a)]
section
variable {p : PenS}
theorem odd_ones_i (n : Nat) : d_odd_ones [.int (n : Nat)] p = .ok (.int (t n)) p := by
  have w := whl_half (S := S_odd_ones) (c := whC (headS (dropSs 1 ir_odd_ones))) (b := whB (headS (dropSs 1 ir_odd_ones))) (e := e2) (g := fun n a => Int.fmod (a + (n : Nat)) 2) (p := p)
    (fun n a => by simp -implicitDefEqProofs only [evFn, evSs, evS, evE, evT, evEs, evAnd, evOr, evAndT, evOrT, evO, evI, evOwn, R.bind_ok, R.bind_err, R.of_some, cat_ok, cat_err, f_repr, onInt_i, mem1, mem2, mem2b, se_d, se_u, se_o, sb_d, sb_u, sb_o, see, seeB, List.map_cons, List.map_nil, List.cons_append, List.nil_append, List.length_cons, List.length_nil, List.replicate_succ, List.replicate_zero, List.getElem?_cons_zero, List.getElem?_cons_succ, List.set_cons_zero, List.set_cons_succ, Option.join_some, Option.map_some, Option.map_none, Option.bind_some, setSl, tgSl, b_add, b_sub, b_mul, b_fdiv, b_mod, b_pow, b_addT, b_addL, b_mulT, b_mulL, deq_ii, deq_bb, c_eq, c_ne, c_lt, c_le, c_gt, c_ge, c_isN, c_isnN, c_isB, c_isnB, i_bl, i_non, i_int, i_str, i_tup, i_lst, non_non, non_int, non_tup, non_bl, t_non, t_bl, t_int, t_tup, t_lst, ixD_tup, ixD_lst, slD_tup, slD_lst, f_lenT, f_lenL, f_tupT, f_tupL, f_lstT, f_lstL, f_int, f_abs, f_max, f_min, f_all, f_any, f_sum, f_sorted, y_int, y_bl, y_non, y_str, y_tup, y_lst, y_obj, k_ii, k_ib, k_it, k_il, k_is, k_tt, k_tl, k_ti, k_tb, k_ll, k_lt, k_bi, k_bb, k_bt, k_bl, k_nt, k_ss, k_st, k_cc, ks_nil, ks_cons, as_int, pg_cells, pg_at, pg_digits, pg_count, pg_fold, ps_at, ps_digits, ps_count, ps_fold, q_tup, q_lst, z_tt, z_ll, ea_obj, er_bl, if_true, if_false, Bool.false_eq_true, Nat.reduceAdd, Nat.reduceSub, Bool.not_true, Bool.not_false, decide_true, decide_false, whC, headS, dropSs, ir_odd_ones, e2, pos_nat]) (fun n a h => by simp -implicitDefEqProofs only [evFn, evSs, evS, evE, evT, evEs, evAnd, evOr, evAndT, evOrT, evO, evI, evOwn, R.bind_ok, R.bind_err, R.of_some, cat_ok, cat_err, f_repr, onInt_i, mem1, mem2, mem2b, se_d, se_u, se_o, sb_d, sb_u, sb_o, see, seeB, List.map_cons, List.map_nil, List.cons_append, List.nil_append, List.length_cons, List.length_nil, List.replicate_succ, List.replicate_zero, List.getElem?_cons_zero, List.getElem?_cons_succ, List.set_cons_zero, List.set_cons_succ, Option.join_some, Option.map_some, Option.map_none, Option.bind_some, setSl, tgSl, b_add, b_sub, b_mul, b_fdiv, b_mod, b_pow, b_addT, b_addL, b_mulT, b_mulL, deq_ii, deq_bb, c_eq, c_ne, c_lt, c_le, c_gt, c_ge, c_isN, c_isnN, c_isB, c_isnB, i_bl, i_non, i_int, i_str, i_tup, i_lst, non_non, non_int, non_tup, non_bl, t_non, t_bl, t_int, t_tup, t_lst, ixD_tup, ixD_lst, slD_tup, slD_lst, f_lenT, f_lenL, f_tupT, f_tupL, f_lstT, f_lstL, f_int, f_abs, f_max, f_min, f_all, f_any, f_sum, f_sorted, y_int, y_bl, y_non, y_str, y_tup, y_lst, y_obj, k_ii, k_ib, k_it, k_il, k_is, k_tt, k_tl, k_ti, k_tb, k_ll, k_lt, k_bi, k_bb, k_bt, k_bl, k_nt, k_ss, k_st, k_cc, ks_nil, ks_cons, as_int, pg_cells, pg_at, pg_digits, pg_count, pg_fold, ps_at, ps_digits, ps_count, ps_fold, q_tup, q_lst, z_tt, z_ll, ea_obj, er_bl, if_true, if_false, Bool.false_eq_true, Nat.reduceAdd, Nat.reduceSub, Bool.not_true, Bool.not_false, decide_true, decide_false, whB, headS, dropSs, ir_odd_ones, e2, fd2, d2ok, ne_eq, show ¬ ((2 : Int) = 0) by decide, not_false_eq_true]) n 0
  rw [halfs_mod n 0 (.inl rfl)] at w
  refine evFn_rt (ρ' := e2 0 ((0 + t n) % 2)) ?_
  refine evSs_nx (ρ1 := e2 n 0) (p1 := p) (by simp -implicitDefEqProofs only [evFn, evSs, evS, evE, evT, evEs, evAnd, evOr, evAndT, evOrT, evO, evI, evOwn, R.bind_ok, R.bind_err, R.of_some, cat_ok, cat_err, f_repr, onInt_i, mem1, mem2, mem2b, se_d, se_u, se_o, sb_d, sb_u, sb_o, see, seeB, List.map_cons, List.map_nil, List.cons_append, List.nil_append, List.length_cons, List.length_nil, List.replicate_succ, List.replicate_zero, List.getElem?_cons_zero, List.getElem?_cons_succ, List.set_cons_zero, List.set_cons_succ, Option.join_some, Option.map_some, Option.map_none, Option.bind_some, setSl, tgSl, b_add, b_sub, b_mul, b_fdiv, b_mod, b_pow, b_addT, b_addL, b_mulT, b_mulL, deq_ii, deq_bb, c_eq, c_ne, c_lt, c_le, c_gt, c_ge, c_isN, c_isnN, c_isB, c_isnB, i_bl, i_non, i_int, i_str, i_tup, i_lst, non_non, non_int, non_tup, non_bl, t_non, t_bl, t_int, t_tup, t_lst, ixD_tup, ixD_lst, slD_tup, slD_lst, f_lenT, f_lenL, f_tupT, f_tupL, f_lstT, f_lstL, f_int, f_abs, f_max, f_min, f_all, f_any, f_sum, f_sorted, y_int, y_bl, y_non, y_str, y_tup, y_lst, y_obj, k_ii, k_ib, k_it, k_il, k_is, k_tt, k_tl, k_ti, k_tb, k_ll, k_lt, k_bi, k_bb, k_bt, k_bl, k_nt, k_ss, k_st, k_cc, ks_nil, ks_cons, as_int, pg_cells, pg_at, pg_digits, pg_count, pg_fold, ps_at, ps_digits, ps_count, ps_fold, q_tup, q_lst, z_tt, z_ll, ea_obj, er_bl, if_true, if_false, Bool.false_eq_true, Nat.reduceAdd, Nat.reduceSub, Bool.not_true, Bool.not_false, decide_true, decide_false]) (evSs_nx w ?_)
  have : (0 + t n) % 2 = t n := by have := t01 n; omega
  simp -implicitDefEqProofs only [evFn, evSs, evS, evE, evT, evEs, evAnd, evOr, evAndT, evOrT, evO, evI, evOwn, R.bind_ok, R.bind_err, R.of_some, cat_ok, cat_err, f_repr, onInt_i, mem1, mem2, mem2b, se_d, se_u, se_o, sb_d, sb_u, sb_o, see, seeB, List.map_cons, List.map_nil, List.cons_append, List.nil_append, List.length_cons, List.length_nil, List.replicate_succ, List.replicate_zero, List.getElem?_cons_zero, List.getElem?_cons_succ, List.set_cons_zero, List.set_cons_succ, Option.join_some, Option.map_some, Option.map_none, Option.bind_some, setSl, tgSl, b_add, b_sub, b_mul, b_fdiv, b_mod, b_pow, b_addT, b_addL, b_mulT, b_mulL, deq_ii, deq_bb, c_eq, c_ne, c_lt, c_le, c_gt, c_ge, c_isN, c_isnN, c_isB, c_isnB, i_bl, i_non, i_int, i_str, i_tup, i_lst, non_non, non_int, non_tup, non_bl, t_non, t_bl, t_int, t_tup, t_lst, ixD_tup, ixD_lst, slD_tup, slD_lst, f_lenT, f_lenL, f_tupT, f_tupL, f_lstT, f_lstL, f_int, f_abs, f_max, f_min, f_all, f_any, f_sum, f_sorted, y_int, y_bl, y_non, y_str, y_tup, y_lst, y_obj, k_ii, k_ib, k_it, k_il, k_is, k_tt, k_tl, k_ti, k_tb, k_ll, k_lt, k_bi, k_bb, k_bt, k_bl, k_nt, k_ss, k_st, k_cc, ks_nil, ks_cons, as_int, pg_cells, pg_at, pg_digits, pg_count, pg_fold, ps_at, ps_digits, ps_count, ps_fold, q_tup, q_lst, z_tt, z_ll, ea_obj, er_bl, if_true, if_false, Bool.false_eq_true, Nat.reduceAdd, Nat.reduceSub, Bool.not_true, Bool.not_false, decide_true, decide_false, this]
theorem law_morse_i (n : Nat) : d__law_morse [.int (n : Nat)] p = .ok (.int (t n)) p := by
  have w := whl_half (S := S__law_morse) (c := whC (headS (dropSs 1 ir__law_morse))) (b := whB (headS (dropSs 1 ir__law_morse))) (e := e2) (g := fun n a => a + Int.fmod (n : Nat) 2) (p := p)
    (fun n a => by simp -implicitDefEqProofs only [evFn, evSs, evS, evE, evT, evEs, evAnd, evOr, evAndT, evOrT, evO, evI, evOwn, R.bind_ok, R.bind_err, R.of_some, cat_ok, cat_err, f_repr, onInt_i, mem1, mem2, mem2b, se_d, se_u, se_o, sb_d, sb_u, sb_o, see, seeB, List.map_cons, List.map_nil, List.cons_append, List.nil_append, List.length_cons, List.length_nil, List.replicate_succ, List.replicate_zero, List.getElem?_cons_zero, List.getElem?_cons_succ, List.set_cons_zero, List.set_cons_succ, Option.join_some, Option.map_some, Option.map_none, Option.bind_some, setSl, tgSl, b_add, b_sub, b_mul, b_fdiv, b_mod, b_pow, b_addT, b_addL, b_mulT, b_mulL, deq_ii, deq_bb, c_eq, c_ne, c_lt, c_le, c_gt, c_ge, c_isN, c_isnN, c_isB, c_isnB, i_bl, i_non, i_int, i_str, i_tup, i_lst, non_non, non_int, non_tup, non_bl, t_non, t_bl, t_int, t_tup, t_lst, ixD_tup, ixD_lst, slD_tup, slD_lst, f_lenT, f_lenL, f_tupT, f_tupL, f_lstT, f_lstL, f_int, f_abs, f_max, f_min, f_all, f_any, f_sum, f_sorted, y_int, y_bl, y_non, y_str, y_tup, y_lst, y_obj, k_ii, k_ib, k_it, k_il, k_is, k_tt, k_tl, k_ti, k_tb, k_ll, k_lt, k_bi, k_bb, k_bt, k_bl, k_nt, k_ss, k_st, k_cc, ks_nil, ks_cons, as_int, pg_cells, pg_at, pg_digits, pg_count, pg_fold, ps_at, ps_digits, ps_count, ps_fold, q_tup, q_lst, z_tt, z_ll, ea_obj, er_bl, if_true, if_false, Bool.false_eq_true, Nat.reduceAdd, Nat.reduceSub, Bool.not_true, Bool.not_false, decide_true, decide_false, whC, headS, dropSs, ir__law_morse, e2, pos_nat]) (fun n a h => by simp -implicitDefEqProofs only [evFn, evSs, evS, evE, evT, evEs, evAnd, evOr, evAndT, evOrT, evO, evI, evOwn, R.bind_ok, R.bind_err, R.of_some, cat_ok, cat_err, f_repr, onInt_i, mem1, mem2, mem2b, se_d, se_u, se_o, sb_d, sb_u, sb_o, see, seeB, List.map_cons, List.map_nil, List.cons_append, List.nil_append, List.length_cons, List.length_nil, List.replicate_succ, List.replicate_zero, List.getElem?_cons_zero, List.getElem?_cons_succ, List.set_cons_zero, List.set_cons_succ, Option.join_some, Option.map_some, Option.map_none, Option.bind_some, setSl, tgSl, b_add, b_sub, b_mul, b_fdiv, b_mod, b_pow, b_addT, b_addL, b_mulT, b_mulL, deq_ii, deq_bb, c_eq, c_ne, c_lt, c_le, c_gt, c_ge, c_isN, c_isnN, c_isB, c_isnB, i_bl, i_non, i_int, i_str, i_tup, i_lst, non_non, non_int, non_tup, non_bl, t_non, t_bl, t_int, t_tup, t_lst, ixD_tup, ixD_lst, slD_tup, slD_lst, f_lenT, f_lenL, f_tupT, f_tupL, f_lstT, f_lstL, f_int, f_abs, f_max, f_min, f_all, f_any, f_sum, f_sorted, y_int, y_bl, y_non, y_str, y_tup, y_lst, y_obj, k_ii, k_ib, k_it, k_il, k_is, k_tt, k_tl, k_ti, k_tb, k_ll, k_lt, k_bi, k_bb, k_bt, k_bl, k_nt, k_ss, k_st, k_cc, ks_nil, ks_cons, as_int, pg_cells, pg_at, pg_digits, pg_count, pg_fold, ps_at, ps_digits, ps_count, ps_fold, q_tup, q_lst, z_tt, z_ll, ea_obj, er_bl, if_true, if_false, Bool.false_eq_true, Nat.reduceAdd, Nat.reduceSub, Bool.not_true, Bool.not_false, decide_true, decide_false, whB, headS, dropSs, ir__law_morse, e2, fd2, d2ok, ne_eq, show ¬ ((2 : Int) = 0) by decide, not_false_eq_true]) n 0
  have hs := halfs_sum n 0
  refine evFn_rt (ρ' := e2 0 (halfs (fun n a => a + Int.fmod (n : Nat) 2) n 0)) ?_
  refine evSs_nx (ρ1 := e2 n 0) (p1 := p) (by simp -implicitDefEqProofs only [evFn, evSs, evS, evE, evT, evEs, evAnd, evOr, evAndT, evOrT, evO, evI, evOwn, R.bind_ok, R.bind_err, R.of_some, cat_ok, cat_err, f_repr, onInt_i, mem1, mem2, mem2b, se_d, se_u, se_o, sb_d, sb_u, sb_o, see, seeB, List.map_cons, List.map_nil, List.cons_append, List.nil_append, List.length_cons, List.length_nil, List.replicate_succ, List.replicate_zero, List.getElem?_cons_zero, List.getElem?_cons_succ, List.set_cons_zero, List.set_cons_succ, Option.join_some, Option.map_some, Option.map_none, Option.bind_some, setSl, tgSl, b_add, b_sub, b_mul, b_fdiv, b_mod, b_pow, b_addT, b_addL, b_mulT, b_mulL, deq_ii, deq_bb, c_eq, c_ne, c_lt, c_le, c_gt, c_ge, c_isN, c_isnN, c_isB, c_isnB, i_bl, i_non, i_int, i_str, i_tup, i_lst, non_non, non_int, non_tup, non_bl, t_non, t_bl, t_int, t_tup, t_lst, ixD_tup, ixD_lst, slD_tup, slD_lst, f_lenT, f_lenL, f_tupT, f_tupL, f_lstT, f_lstL, f_int, f_abs, f_max, f_min, f_all, f_any, f_sum, f_sorted, y_int, y_bl, y_non, y_str, y_tup, y_lst, y_obj, k_ii, k_ib, k_it, k_il, k_is, k_tt, k_tl, k_ti, k_tb, k_ll, k_lt, k_bi, k_bb, k_bt, k_bl, k_nt, k_ss, k_st, k_cc, ks_nil, ks_cons, as_int, pg_cells, pg_at, pg_digits, pg_count, pg_fold, ps_at, ps_digits, ps_count, ps_fold, q_tup, q_lst, z_tt, z_ll, ea_obj, er_bl, if_true, if_false, Bool.false_eq_true, Nat.reduceAdd, Nat.reduceSub, Bool.not_true, Bool.not_false, decide_true, decide_false]) (evSs_nx w ?_)
  have : (0 + t n) % 2 = t n := by have := t01 n; omega
  simp -implicitDefEqProofs only [evFn, evSs, evS, evE, evT, evEs, evAnd, evOr, evAndT, evOrT, evO, evI, evOwn, R.bind_ok, R.bind_err, R.of_some, cat_ok, cat_err, f_repr, onInt_i, mem1, mem2, mem2b, se_d, se_u, se_o, sb_d, sb_u, sb_o, see, seeB, List.map_cons, List.map_nil, List.cons_append, List.nil_append, List.length_cons, List.length_nil, List.replicate_succ, List.replicate_zero, List.getElem?_cons_zero, List.getElem?_cons_succ, List.set_cons_zero, List.set_cons_succ, Option.join_some, Option.map_some, Option.map_none, Option.bind_some, setSl, tgSl, b_add, b_sub, b_mul, b_fdiv, b_mod, b_pow, b_addT, b_addL, b_mulT, b_mulL, deq_ii, deq_bb, c_eq, c_ne, c_lt, c_le, c_gt, c_ge, c_isN, c_isnN, c_isB, c_isnB, i_bl, i_non, i_int, i_str, i_tup, i_lst, non_non, non_int, non_tup, non_bl, t_non, t_bl, t_int, t_tup, t_lst, ixD_tup, ixD_lst, slD_tup, slD_lst, f_lenT, f_lenL, f_tupT, f_tupL, f_lstT, f_lstL, f_int, f_abs, f_max, f_min, f_all, f_any, f_sum, f_sorted, y_int, y_bl, y_non, y_str, y_tup, y_lst, y_obj, k_ii, k_ib, k_it, k_il, k_is, k_tt, k_tl, k_ti, k_tb, k_ll, k_lt, k_bi, k_bb, k_bt, k_bl, k_nt, k_ss, k_st, k_cc, ks_nil, ks_cons, as_int, pg_cells, pg_at, pg_digits, pg_count, pg_fold, ps_at, ps_digits, ps_count, ps_fold, q_tup, q_lst, z_tt, z_ll, ea_obj, er_bl, if_true, if_false, Bool.false_eq_true, Nat.reduceAdd, Nat.reduceSub, Bool.not_true, Bool.not_false, decide_true, decide_false, hs, this, ne_eq, show ¬ ((2 : Int) = 0) by decide, not_false_eq_true]
theorem is_between_x (d : D) (lo hi : Int) (h : d = .non ∨ (∃ b, d = .bl b) ∨ ∃ s, d = .str s) : d_is_between [d, .int lo, .int hi] p = .ok (.bl false) p := by
  have : d_is_integer [d] p = .ok (.bl false) p := by
    rcases h with rfl | ⟨b, rfl⟩ | ⟨s, rfl⟩ <;> unfold d_is_integer
    · simp -implicitDefEqProofs only [evFn, evSs, evS, evE, evT, evEs, evAnd, evOr, evAndT, evOrT, evO, evI, evOwn, R.bind_ok, R.bind_err, R.of_some, cat_ok, cat_err, f_repr, onInt_i, mem1, mem2, mem2b, se_d, se_u, se_o, sb_d, sb_u, sb_o, see, seeB, List.map_cons, List.map_nil, List.cons_append, List.nil_append, List.length_cons, List.length_nil, List.replicate_succ, List.replicate_zero, List.getElem?_cons_zero, List.getElem?_cons_succ, List.set_cons_zero, List.set_cons_succ, Option.join_some, Option.map_some, Option.map_none, Option.bind_some, setSl, tgSl, b_add, b_sub, b_mul, b_fdiv, b_mod, b_pow, b_addT, b_addL, b_mulT, b_mulL, deq_ii, deq_bb, c_eq, c_ne, c_lt, c_le, c_gt, c_ge, c_isN, c_isnN, c_isB, c_isnB, i_bl, i_non, i_int, i_str, i_tup, i_lst, non_non, non_int, non_tup, non_bl, t_non, t_bl, t_int, t_tup, t_lst, ixD_tup, ixD_lst, slD_tup, slD_lst, f_lenT, f_lenL, f_tupT, f_tupL, f_lstT, f_lstL, f_int, f_abs, f_max, f_min, f_all, f_any, f_sum, f_sorted, y_int, y_bl, y_non, y_str, y_tup, y_lst, y_obj, k_ii, k_ib, k_it, k_il, k_is, k_tt, k_tl, k_ti, k_tb, k_ll, k_lt, k_bi, k_bb, k_bt, k_bl, k_nt, k_ss, k_st, k_cc, ks_nil, ks_cons, as_int, pg_cells, pg_at, pg_digits, pg_count, pg_fold, ps_at, ps_digits, ps_count, ps_fold, q_tup, q_lst, z_tt, z_ll, ea_obj, er_bl, if_true, if_false, Bool.false_eq_true, Nat.reduceAdd, Nat.reduceSub, Bool.not_true, Bool.not_false, decide_true, decide_false, ir_is_integer, show kit (.b "NoneType") (.b "int") = some false by decide +kernel]
    · simp -implicitDefEqProofs only [evFn, evSs, evS, evE, evT, evEs, evAnd, evOr, evAndT, evOrT, evO, evI, evOwn, R.bind_ok, R.bind_err, R.of_some, cat_ok, cat_err, f_repr, onInt_i, mem1, mem2, mem2b, se_d, se_u, se_o, sb_d, sb_u, sb_o, see, seeB, List.map_cons, List.map_nil, List.cons_append, List.nil_append, List.length_cons, List.length_nil, List.replicate_succ, List.replicate_zero, List.getElem?_cons_zero, List.getElem?_cons_succ, List.set_cons_zero, List.set_cons_succ, Option.join_some, Option.map_some, Option.map_none, Option.bind_some, setSl, tgSl, b_add, b_sub, b_mul, b_fdiv, b_mod, b_pow, b_addT, b_addL, b_mulT, b_mulL, deq_ii, deq_bb, c_eq, c_ne, c_lt, c_le, c_gt, c_ge, c_isN, c_isnN, c_isB, c_isnB, i_bl, i_non, i_int, i_str, i_tup, i_lst, non_non, non_int, non_tup, non_bl, t_non, t_bl, t_int, t_tup, t_lst, ixD_tup, ixD_lst, slD_tup, slD_lst, f_lenT, f_lenL, f_tupT, f_tupL, f_lstT, f_lstL, f_int, f_abs, f_max, f_min, f_all, f_any, f_sum, f_sorted, y_int, y_bl, y_non, y_str, y_tup, y_lst, y_obj, k_ii, k_ib, k_it, k_il, k_is, k_tt, k_tl, k_ti, k_tb, k_ll, k_lt, k_bi, k_bb, k_bt, k_bl, k_nt, k_ss, k_st, k_cc, ks_nil, ks_cons, as_int, pg_cells, pg_at, pg_digits, pg_count, pg_fold, ps_at, ps_digits, ps_count, ps_fold, q_tup, q_lst, z_tt, z_ll, ea_obj, er_bl, if_true, if_false, Bool.false_eq_true, Nat.reduceAdd, Nat.reduceSub, Bool.not_true, Bool.not_false, decide_true, decide_false, ir_is_integer]
    · simp -implicitDefEqProofs only [evFn, evSs, evS, evE, evT, evEs, evAnd, evOr, evAndT, evOrT, evO, evI, evOwn, R.bind_ok, R.bind_err, R.of_some, cat_ok, cat_err, f_repr, onInt_i, mem1, mem2, mem2b, se_d, se_u, se_o, sb_d, sb_u, sb_o, see, seeB, List.map_cons, List.map_nil, List.cons_append, List.nil_append, List.length_cons, List.length_nil, List.replicate_succ, List.replicate_zero, List.getElem?_cons_zero, List.getElem?_cons_succ, List.set_cons_zero, List.set_cons_succ, Option.join_some, Option.map_some, Option.map_none, Option.bind_some, setSl, tgSl, b_add, b_sub, b_mul, b_fdiv, b_mod, b_pow, b_addT, b_addL, b_mulT, b_mulL, deq_ii, deq_bb, c_eq, c_ne, c_lt, c_le, c_gt, c_ge, c_isN, c_isnN, c_isB, c_isnB, i_bl, i_non, i_int, i_str, i_tup, i_lst, non_non, non_int, non_tup, non_bl, t_non, t_bl, t_int, t_tup, t_lst, ixD_tup, ixD_lst, slD_tup, slD_lst, f_lenT, f_lenL, f_tupT, f_tupL, f_lstT, f_lstL, f_int, f_abs, f_max, f_min, f_all, f_any, f_sum, f_sorted, y_int, y_bl, y_non, y_str, y_tup, y_lst, y_obj, k_ii, k_ib, k_it, k_il, k_is, k_tt, k_tl, k_ti, k_tb, k_ll, k_lt, k_bi, k_bb, k_bt, k_bl, k_nt, k_ss, k_st, k_cc, ks_nil, ks_cons, as_int, pg_cells, pg_at, pg_digits, pg_count, pg_fold, ps_at, ps_digits, ps_count, ps_fold, q_tup, q_lst, z_tt, z_ll, ea_obj, er_bl, if_true, if_false, Bool.false_eq_true, Nat.reduceAdd, Nat.reduceSub, Bool.not_true, Bool.not_false, decide_true, decide_false, ir_is_integer, show kit (.b "str") (.b "int") = some false by decide +kernel]
  unfold d_is_between
  simp -implicitDefEqProofs only [evFn, evSs, evS, evE, evT, evEs, evAnd, evOr, evAndT, evOrT, evO, evI, evOwn, R.bind_ok, R.bind_err, R.of_some, cat_ok, cat_err, f_repr, onInt_i, mem1, mem2, mem2b, se_d, se_u, se_o, sb_d, sb_u, sb_o, see, seeB, List.map_cons, List.map_nil, List.cons_append, List.nil_append, List.length_cons, List.length_nil, List.replicate_succ, List.replicate_zero, List.getElem?_cons_zero, List.getElem?_cons_succ, List.set_cons_zero, List.set_cons_succ, Option.join_some, Option.map_some, Option.map_none, Option.bind_some, setSl, tgSl, b_add, b_sub, b_mul, b_fdiv, b_mod, b_pow, b_addT, b_addL, b_mulT, b_mulL, deq_ii, deq_bb, c_eq, c_ne, c_lt, c_le, c_gt, c_ge, c_isN, c_isnN, c_isB, c_isnB, i_bl, i_non, i_int, i_str, i_tup, i_lst, non_non, non_int, non_tup, non_bl, t_non, t_bl, t_int, t_tup, t_lst, ixD_tup, ixD_lst, slD_tup, slD_lst, f_lenT, f_lenL, f_tupT, f_tupL, f_lstT, f_lstL, f_int, f_abs, f_max, f_min, f_all, f_any, f_sum, f_sorted, y_int, y_bl, y_non, y_str, y_tup, y_lst, y_obj, k_ii, k_ib, k_it, k_il, k_is, k_tt, k_tl, k_ti, k_tb, k_ll, k_lt, k_bi, k_bb, k_bt, k_bl, k_nt, k_ss, k_st, k_cc, ks_nil, ks_cons, as_int, pg_cells, pg_at, pg_digits, pg_count, pg_fold, ps_at, ps_digits, ps_count, ps_fold, q_tup, q_lst, z_tt, z_ll, ea_obj, er_bl, if_true, if_false, Bool.false_eq_true, Nat.reduceAdd, Nat.reduceSub, Bool.not_true, Bool.not_false, decide_true, decide_false, ir_is_between, s_is_between, this]
theorem need_between_i (w : D) {v lo hi : Int} (h : lo ≤ v ∧ v ≤ hi) : d_need_between [w, .int v, .int lo, .int hi] p = .ok .non p := by
  unfold d_need_between; simp -implicitDefEqProofs only [evFn, evSs, evS, evE, evT, evEs, evAnd, evOr, evAndT, evOrT, evO, evI, evOwn, R.bind_ok, R.bind_err, R.of_some, cat_ok, cat_err, f_repr, onInt_i, mem1, mem2, mem2b, se_d, se_u, se_o, sb_d, sb_u, sb_o, see, seeB, List.map_cons, List.map_nil, List.cons_append, List.nil_append, List.length_cons, List.length_nil, List.replicate_succ, List.replicate_zero, List.getElem?_cons_zero, List.getElem?_cons_succ, List.set_cons_zero, List.set_cons_succ, Option.join_some, Option.map_some, Option.map_none, Option.bind_some, setSl, tgSl, b_add, b_sub, b_mul, b_fdiv, b_mod, b_pow, b_addT, b_addL, b_mulT, b_mulL, deq_ii, deq_bb, c_eq, c_ne, c_lt, c_le, c_gt, c_ge, c_isN, c_isnN, c_isB, c_isnB, i_bl, i_non, i_int, i_str, i_tup, i_lst, non_non, non_int, non_tup, non_bl, t_non, t_bl, t_int, t_tup, t_lst, ixD_tup, ixD_lst, slD_tup, slD_lst, f_lenT, f_lenL, f_tupT, f_tupL, f_lstT, f_lstL, f_int, f_abs, f_max, f_min, f_all, f_any, f_sum, f_sorted, y_int, y_bl, y_non, y_str, y_tup, y_lst, y_obj, k_ii, k_ib, k_it, k_il, k_is, k_tt, k_tl, k_ti, k_tb, k_ll, k_lt, k_bi, k_bb, k_bt, k_bl, k_nt, k_ss, k_st, k_cc, ks_nil, ks_cons, as_int, pg_cells, pg_at, pg_digits, pg_count, pg_fold, ps_at, ps_digits, ps_count, ps_fold, q_tup, q_lst, z_tt, z_ll, ea_obj, er_bl, if_true, if_false, Bool.false_eq_true, Nat.reduceAdd, Nat.reduceSub, Bool.not_true, Bool.not_false, decide_true, decide_false, ir_need_between, s_need_between, is_between_i, h, and_self]
theorem need_between_e (w : D) {d : D} {lo hi : Int} (h : ∀ p, d_is_between [d, .int lo, .int hi] p = .ok (.bl false) p) : d_need_between [w, d, .int lo, .int hi] p = .err 1000 [w, d] p := by
  unfold d_need_between; simp -implicitDefEqProofs only [evFn, evSs, evS, evE, evT, evEs, evAnd, evOr, evAndT, evOrT, evO, evI, evOwn, R.bind_ok, R.bind_err, R.of_some, cat_ok, cat_err, f_repr, onInt_i, mem1, mem2, mem2b, se_d, se_u, se_o, sb_d, sb_u, sb_o, see, seeB, List.map_cons, List.map_nil, List.cons_append, List.nil_append, List.length_cons, List.length_nil, List.replicate_succ, List.replicate_zero, List.getElem?_cons_zero, List.getElem?_cons_succ, List.set_cons_zero, List.set_cons_succ, Option.join_some, Option.map_some, Option.map_none, Option.bind_some, setSl, tgSl, b_add, b_sub, b_mul, b_fdiv, b_mod, b_pow, b_addT, b_addL, b_mulT, b_mulL, deq_ii, deq_bb, c_eq, c_ne, c_lt, c_le, c_gt, c_ge, c_isN, c_isnN, c_isB, c_isnB, i_bl, i_non, i_int, i_str, i_tup, i_lst, non_non, non_int, non_tup, non_bl, t_non, t_bl, t_int, t_tup, t_lst, ixD_tup, ixD_lst, slD_tup, slD_lst, f_lenT, f_lenL, f_tupT, f_tupL, f_lstT, f_lstL, f_int, f_abs, f_max, f_min, f_all, f_any, f_sum, f_sorted, y_int, y_bl, y_non, y_str, y_tup, y_lst, y_obj, k_ii, k_ib, k_it, k_il, k_is, k_tt, k_tl, k_ti, k_tb, k_ll, k_lt, k_bi, k_bb, k_bt, k_bl, k_nt, k_ss, k_st, k_cc, ks_nil, ks_cons, as_int, pg_cells, pg_at, pg_digits, pg_count, pg_fold, ps_at, ps_digits, ps_count, ps_fold, q_tup, q_lst, z_tt, z_ll, ea_obj, er_bl, if_true, if_false, Bool.false_eq_true, Nat.reduceAdd, Nat.reduceSub, Bool.not_true, Bool.not_false, decide_true, decide_false, ir_need_between, s_need_between, h]
theorem morse_item_i (n : Nat) (hn : n ≤ 10 ^ 40) : d_morse_item [.int (n : Nat)] p = .ok (.int (t n)) p := by
  have w := whl_half (S := S_morse_item) (c := whC (headS (dropSs 2 ir_morse_item))) (b := whB (headS (dropSs 2 ir_morse_item))) (e := e2) (g := fun n a => a + Int.fmod (n : Nat) 2) (p := p)
    (fun n a => by simp -implicitDefEqProofs only [evFn, evSs, evS, evE, evT, evEs, evAnd, evOr, evAndT, evOrT, evO, evI, evOwn, R.bind_ok, R.bind_err, R.of_some, cat_ok, cat_err, f_repr, onInt_i, mem1, mem2, mem2b, se_d, se_u, se_o, sb_d, sb_u, sb_o, see, seeB, List.map_cons, List.map_nil, List.cons_append, List.nil_append, List.length_cons, List.length_nil, List.replicate_succ, List.replicate_zero, List.getElem?_cons_zero, List.getElem?_cons_succ, List.set_cons_zero, List.set_cons_succ, Option.join_some, Option.map_some, Option.map_none, Option.bind_some, setSl, tgSl, b_add, b_sub, b_mul, b_fdiv, b_mod, b_pow, b_addT, b_addL, b_mulT, b_mulL, deq_ii, deq_bb, c_eq, c_ne, c_lt, c_le, c_gt, c_ge, c_isN, c_isnN, c_isB, c_isnB, i_bl, i_non, i_int, i_str, i_tup, i_lst, non_non, non_int, non_tup, non_bl, t_non, t_bl, t_int, t_tup, t_lst, ixD_tup, ixD_lst, slD_tup, slD_lst, f_lenT, f_lenL, f_tupT, f_tupL, f_lstT, f_lstL, f_int, f_abs, f_max, f_min, f_all, f_any, f_sum, f_sorted, y_int, y_bl, y_non, y_str, y_tup, y_lst, y_obj, k_ii, k_ib, k_it, k_il, k_is, k_tt, k_tl, k_ti, k_tb, k_ll, k_lt, k_bi, k_bb, k_bt, k_bl, k_nt, k_ss, k_st, k_cc, ks_nil, ks_cons, as_int, pg_cells, pg_at, pg_digits, pg_count, pg_fold, ps_at, ps_digits, ps_count, ps_fold, q_tup, q_lst, z_tt, z_ll, ea_obj, er_bl, if_true, if_false, Bool.false_eq_true, Nat.reduceAdd, Nat.reduceSub, Bool.not_true, Bool.not_false, decide_true, decide_false, whC, headS, dropSs, ir_morse_item, e2, pos_nat]) (fun n a h => by simp -implicitDefEqProofs only [evFn, evSs, evS, evE, evT, evEs, evAnd, evOr, evAndT, evOrT, evO, evI, evOwn, R.bind_ok, R.bind_err, R.of_some, cat_ok, cat_err, f_repr, onInt_i, mem1, mem2, mem2b, se_d, se_u, se_o, sb_d, sb_u, sb_o, see, seeB, List.map_cons, List.map_nil, List.cons_append, List.nil_append, List.length_cons, List.length_nil, List.replicate_succ, List.replicate_zero, List.getElem?_cons_zero, List.getElem?_cons_succ, List.set_cons_zero, List.set_cons_succ, Option.join_some, Option.map_some, Option.map_none, Option.bind_some, setSl, tgSl, b_add, b_sub, b_mul, b_fdiv, b_mod, b_pow, b_addT, b_addL, b_mulT, b_mulL, deq_ii, deq_bb, c_eq, c_ne, c_lt, c_le, c_gt, c_ge, c_isN, c_isnN, c_isB, c_isnB, i_bl, i_non, i_int, i_str, i_tup, i_lst, non_non, non_int, non_tup, non_bl, t_non, t_bl, t_int, t_tup, t_lst, ixD_tup, ixD_lst, slD_tup, slD_lst, f_lenT, f_lenL, f_tupT, f_tupL, f_lstT, f_lstL, f_int, f_abs, f_max, f_min, f_all, f_any, f_sum, f_sorted, y_int, y_bl, y_non, y_str, y_tup, y_lst, y_obj, k_ii, k_ib, k_it, k_il, k_is, k_tt, k_tl, k_ti, k_tb, k_ll, k_lt, k_bi, k_bb, k_bt, k_bl, k_nt, k_ss, k_st, k_cc, ks_nil, ks_cons, as_int, pg_cells, pg_at, pg_digits, pg_count, pg_fold, ps_at, ps_digits, ps_count, ps_fold, q_tup, q_lst, z_tt, z_ll, ea_obj, er_bl, if_true, if_false, Bool.false_eq_true, Nat.reduceAdd, Nat.reduceSub, Bool.not_true, Bool.not_false, decide_true, decide_false, whB, headS, dropSs, ir_morse_item, e2, fd2, d2ok, ne_eq, show ¬ ((2 : Int) = 0) by decide, not_false_eq_true]) n 0
  have hs := halfs_sum n 0
  refine evFn_rt (ρ' := e2 0 (halfs (fun n a => a + Int.fmod (n : Nat) 2) n 0)) ?_
  have nb : d_need_between [.str "at", .int (n : Nat), .int 0, .int 10000000000000000000000000000000000000000] p = .ok .non p := need_between_i _ ⟨by omega, by omega⟩
  refine evSs_nx (ρ1 := [.d (.int (n : Nat)), .u]) (p1 := p) (by simp -implicitDefEqProofs only [evFn, evSs, evS, evE, evT, evEs, evAnd, evOr, evAndT, evOrT, evO, evI, evOwn, R.bind_ok, R.bind_err, R.of_some, cat_ok, cat_err, f_repr, onInt_i, mem1, mem2, mem2b, se_d, se_u, se_o, sb_d, sb_u, sb_o, see, seeB, List.map_cons, List.map_nil, List.cons_append, List.nil_append, List.length_cons, List.length_nil, List.replicate_succ, List.replicate_zero, List.getElem?_cons_zero, List.getElem?_cons_succ, List.set_cons_zero, List.set_cons_succ, Option.join_some, Option.map_some, Option.map_none, Option.bind_some, setSl, tgSl, b_add, b_sub, b_mul, b_fdiv, b_mod, b_pow, b_addT, b_addL, b_mulT, b_mulL, deq_ii, deq_bb, c_eq, c_ne, c_lt, c_le, c_gt, c_ge, c_isN, c_isnN, c_isB, c_isnB, i_bl, i_non, i_int, i_str, i_tup, i_lst, non_non, non_int, non_tup, non_bl, t_non, t_bl, t_int, t_tup, t_lst, ixD_tup, ixD_lst, slD_tup, slD_lst, f_lenT, f_lenL, f_tupT, f_tupL, f_lstT, f_lstL, f_int, f_abs, f_max, f_min, f_all, f_any, f_sum, f_sorted, y_int, y_bl, y_non, y_str, y_tup, y_lst, y_obj, k_ii, k_ib, k_it, k_il, k_is, k_tt, k_tl, k_ti, k_tb, k_ll, k_lt, k_bi, k_bb, k_bt, k_bl, k_nt, k_ss, k_st, k_cc, ks_nil, ks_cons, as_int, pg_cells, pg_at, pg_digits, pg_count, pg_fold, ps_at, ps_digits, ps_count, ps_fold, q_tup, q_lst, z_tt, z_ll, ea_obj, er_bl, if_true, if_false, Bool.false_eq_true, Nat.reduceAdd, Nat.reduceSub, Bool.not_true, Bool.not_false, decide_true, decide_false, s_morse_item, nb]) (evSs_nx (ρ1 := e2 n 0) (p1 := p) (by simp -implicitDefEqProofs only [evFn, evSs, evS, evE, evT, evEs, evAnd, evOr, evAndT, evOrT, evO, evI, evOwn, R.bind_ok, R.bind_err, R.of_some, cat_ok, cat_err, f_repr, onInt_i, mem1, mem2, mem2b, se_d, se_u, se_o, sb_d, sb_u, sb_o, see, seeB, List.map_cons, List.map_nil, List.cons_append, List.nil_append, List.length_cons, List.length_nil, List.replicate_succ, List.replicate_zero, List.getElem?_cons_zero, List.getElem?_cons_succ, List.set_cons_zero, List.set_cons_succ, Option.join_some, Option.map_some, Option.map_none, Option.bind_some, setSl, tgSl, b_add, b_sub, b_mul, b_fdiv, b_mod, b_pow, b_addT, b_addL, b_mulT, b_mulL, deq_ii, deq_bb, c_eq, c_ne, c_lt, c_le, c_gt, c_ge, c_isN, c_isnN, c_isB, c_isnB, i_bl, i_non, i_int, i_str, i_tup, i_lst, non_non, non_int, non_tup, non_bl, t_non, t_bl, t_int, t_tup, t_lst, ixD_tup, ixD_lst, slD_tup, slD_lst, f_lenT, f_lenL, f_tupT, f_tupL, f_lstT, f_lstL, f_int, f_abs, f_max, f_min, f_all, f_any, f_sum, f_sorted, y_int, y_bl, y_non, y_str, y_tup, y_lst, y_obj, k_ii, k_ib, k_it, k_il, k_is, k_tt, k_tl, k_ti, k_tb, k_ll, k_lt, k_bi, k_bb, k_bt, k_bl, k_nt, k_ss, k_st, k_cc, ks_nil, ks_cons, as_int, pg_cells, pg_at, pg_digits, pg_count, pg_fold, ps_at, ps_digits, ps_count, ps_fold, q_tup, q_lst, z_tt, z_ll, ea_obj, er_bl, if_true, if_false, Bool.false_eq_true, Nat.reduceAdd, Nat.reduceSub, Bool.not_true, Bool.not_false, decide_true, decide_false]) (evSs_nx w ?_))
  have : (0 + t n) % 2 = t n := by have := t01 n; omega
  simp -implicitDefEqProofs only [evFn, evSs, evS, evE, evT, evEs, evAnd, evOr, evAndT, evOrT, evO, evI, evOwn, R.bind_ok, R.bind_err, R.of_some, cat_ok, cat_err, f_repr, onInt_i, mem1, mem2, mem2b, se_d, se_u, se_o, sb_d, sb_u, sb_o, see, seeB, List.map_cons, List.map_nil, List.cons_append, List.nil_append, List.length_cons, List.length_nil, List.replicate_succ, List.replicate_zero, List.getElem?_cons_zero, List.getElem?_cons_succ, List.set_cons_zero, List.set_cons_succ, Option.join_some, Option.map_some, Option.map_none, Option.bind_some, setSl, tgSl, b_add, b_sub, b_mul, b_fdiv, b_mod, b_pow, b_addT, b_addL, b_mulT, b_mulL, deq_ii, deq_bb, c_eq, c_ne, c_lt, c_le, c_gt, c_ge, c_isN, c_isnN, c_isB, c_isnB, i_bl, i_non, i_int, i_str, i_tup, i_lst, non_non, non_int, non_tup, non_bl, t_non, t_bl, t_int, t_tup, t_lst, ixD_tup, ixD_lst, slD_tup, slD_lst, f_lenT, f_lenL, f_tupT, f_tupL, f_lstT, f_lstL, f_int, f_abs, f_max, f_min, f_all, f_any, f_sum, f_sorted, y_int, y_bl, y_non, y_str, y_tup, y_lst, y_obj, k_ii, k_ib, k_it, k_il, k_is, k_tt, k_tl, k_ti, k_tb, k_ll, k_lt, k_bi, k_bb, k_bt, k_bl, k_nt, k_ss, k_st, k_cc, ks_nil, ks_cons, as_int, pg_cells, pg_at, pg_digits, pg_count, pg_fold, ps_at, ps_digits, ps_count, ps_fold, q_tup, q_lst, z_tt, z_ll, ea_obj, er_bl, if_true, if_false, Bool.false_eq_true, Nat.reduceAdd, Nat.reduceSub, Bool.not_true, Bool.not_false, decide_true, decide_false, hs, this, ne_eq, show ¬ ((2 : Int) = 0) by decide, not_false_eq_true]
theorem morse_item_e {d : D} (h : ∀ p, d_is_between [d, .int 0, .int 10000000000000000000000000000000000000000] p = .ok (.bl false) p) : d_morse_item [d] p = .err 1000 [.str "at", d] p := by
  unfold d_morse_item; simp -implicitDefEqProofs only [evFn, evSs, evS, evE, evT, evEs, evAnd, evOr, evAndT, evOrT, evO, evI, evOwn, R.bind_ok, R.bind_err, R.of_some, cat_ok, cat_err, f_repr, onInt_i, mem1, mem2, mem2b, se_d, se_u, se_o, sb_d, sb_u, sb_o, see, seeB, List.map_cons, List.map_nil, List.cons_append, List.nil_append, List.length_cons, List.length_nil, List.replicate_succ, List.replicate_zero, List.getElem?_cons_zero, List.getElem?_cons_succ, List.set_cons_zero, List.set_cons_succ, Option.join_some, Option.map_some, Option.map_none, Option.bind_some, setSl, tgSl, b_add, b_sub, b_mul, b_fdiv, b_mod, b_pow, b_addT, b_addL, b_mulT, b_mulL, deq_ii, deq_bb, c_eq, c_ne, c_lt, c_le, c_gt, c_ge, c_isN, c_isnN, c_isB, c_isnB, i_bl, i_non, i_int, i_str, i_tup, i_lst, non_non, non_int, non_tup, non_bl, t_non, t_bl, t_int, t_tup, t_lst, ixD_tup, ixD_lst, slD_tup, slD_lst, f_lenT, f_lenL, f_tupT, f_tupL, f_lstT, f_lstL, f_int, f_abs, f_max, f_min, f_all, f_any, f_sum, f_sorted, y_int, y_bl, y_non, y_str, y_tup, y_lst, y_obj, k_ii, k_ib, k_it, k_il, k_is, k_tt, k_tl, k_ti, k_tb, k_ll, k_lt, k_bi, k_bb, k_bt, k_bl, k_nt, k_ss, k_st, k_cc, ks_nil, ks_cons, as_int, pg_cells, pg_at, pg_digits, pg_count, pg_fold, ps_at, ps_digits, ps_count, ps_fold, q_tup, q_lst, z_tt, z_ll, ea_obj, er_bl, if_true, if_false, Bool.false_eq_true, Nat.reduceAdd, Nat.reduceSub, Bool.not_true, Bool.not_false, decide_true, decide_false, ir_morse_item, s_morse_item, need_between_e _ h]
theorem need_figure_e {d : D} (h : ∀ p, d_is_between [d, .int 1, .int 20] p = .ok (.bl false) p) : d_need_figure [d] p = .err 1000 [.str "m", d] p := by
  unfold d_need_figure; simp -implicitDefEqProofs only [evFn, evSs, evS, evE, evT, evEs, evAnd, evOr, evAndT, evOrT, evO, evI, evOwn, R.bind_ok, R.bind_err, R.of_some, cat_ok, cat_err, f_repr, onInt_i, mem1, mem2, mem2b, se_d, se_u, se_o, sb_d, sb_u, sb_o, see, seeB, List.map_cons, List.map_nil, List.cons_append, List.nil_append, List.length_cons, List.length_nil, List.replicate_succ, List.replicate_zero, List.getElem?_cons_zero, List.getElem?_cons_succ, List.set_cons_zero, List.set_cons_succ, Option.join_some, Option.map_some, Option.map_none, Option.bind_some, setSl, tgSl, b_add, b_sub, b_mul, b_fdiv, b_mod, b_pow, b_addT, b_addL, b_mulT, b_mulL, deq_ii, deq_bb, c_eq, c_ne, c_lt, c_le, c_gt, c_ge, c_isN, c_isnN, c_isB, c_isnB, i_bl, i_non, i_int, i_str, i_tup, i_lst, non_non, non_int, non_tup, non_bl, t_non, t_bl, t_int, t_tup, t_lst, ixD_tup, ixD_lst, slD_tup, slD_lst, f_lenT, f_lenL, f_tupT, f_tupL, f_lstT, f_lstL, f_int, f_abs, f_max, f_min, f_all, f_any, f_sum, f_sorted, y_int, y_bl, y_non, y_str, y_tup, y_lst, y_obj, k_ii, k_ib, k_it, k_il, k_is, k_tt, k_tl, k_ti, k_tb, k_ll, k_lt, k_bi, k_bb, k_bt, k_bl, k_nt, k_ss, k_st, k_cc, ks_nil, ks_cons, as_int, pg_cells, pg_at, pg_digits, pg_count, pg_fold, ps_at, ps_digits, ps_count, ps_fold, q_tup, q_lst, z_tt, z_ll, ea_obj, er_bl, if_true, if_false, Bool.false_eq_true, Nat.reduceAdd, Nat.reduceSub, Bool.not_true, Bool.not_false, decide_true, decide_false, ir_need_figure, s_need_figure, h]
theorem golden_row_e {d : D} (h : ∀ p, d_is_between [d, .int 1, .int 20] p = .ok (.bl false) p) : d_golden_row [d] p = .err 1000 [.str "m", d] p := by
  unfold d_golden_row; simp -implicitDefEqProofs only [evFn, evSs, evS, evE, evT, evEs, evAnd, evOr, evAndT, evOrT, evO, evI, evOwn, R.bind_ok, R.bind_err, R.of_some, cat_ok, cat_err, f_repr, onInt_i, mem1, mem2, mem2b, se_d, se_u, se_o, sb_d, sb_u, sb_o, see, seeB, List.map_cons, List.map_nil, List.cons_append, List.nil_append, List.length_cons, List.length_nil, List.replicate_succ, List.replicate_zero, List.getElem?_cons_zero, List.getElem?_cons_succ, List.set_cons_zero, List.set_cons_succ, Option.join_some, Option.map_some, Option.map_none, Option.bind_some, setSl, tgSl, b_add, b_sub, b_mul, b_fdiv, b_mod, b_pow, b_addT, b_addL, b_mulT, b_mulL, deq_ii, deq_bb, c_eq, c_ne, c_lt, c_le, c_gt, c_ge, c_isN, c_isnN, c_isB, c_isnB, i_bl, i_non, i_int, i_str, i_tup, i_lst, non_non, non_int, non_tup, non_bl, t_non, t_bl, t_int, t_tup, t_lst, ixD_tup, ixD_lst, slD_tup, slD_lst, f_lenT, f_lenL, f_tupT, f_tupL, f_lstT, f_lstL, f_int, f_abs, f_max, f_min, f_all, f_any, f_sum, f_sorted, y_int, y_bl, y_non, y_str, y_tup, y_lst, y_obj, k_ii, k_ib, k_it, k_il, k_is, k_tt, k_tl, k_ti, k_tb, k_ll, k_lt, k_bi, k_bb, k_bt, k_bl, k_nt, k_ss, k_st, k_cc, ks_nil, ks_cons, as_int, pg_cells, pg_at, pg_digits, pg_count, pg_fold, ps_at, ps_digits, ps_count, ps_fold, q_tup, q_lst, z_tt, z_ll, ea_obj, er_bl, if_true, if_false, Bool.false_eq_true, Nat.reduceAdd, Nat.reduceSub, Bool.not_true, Bool.not_false, decide_true, decide_false, ir_golden_row, s_golden_row, need_figure_e h]
theorem loreti_item_e1 {d e : D} (h : ∀ p, d_is_between [d, .int 1, .int 20] p = .ok (.bl false) p) : d_loreti_item [d, e] p = .err 1000 [.str "m", d] p := by
  unfold d_loreti_item; simp -implicitDefEqProofs only [evFn, evSs, evS, evE, evT, evEs, evAnd, evOr, evAndT, evOrT, evO, evI, evOwn, R.bind_ok, R.bind_err, R.of_some, cat_ok, cat_err, f_repr, onInt_i, mem1, mem2, mem2b, se_d, se_u, se_o, sb_d, sb_u, sb_o, see, seeB, List.map_cons, List.map_nil, List.cons_append, List.nil_append, List.length_cons, List.length_nil, List.replicate_succ, List.replicate_zero, List.getElem?_cons_zero, List.getElem?_cons_succ, List.set_cons_zero, List.set_cons_succ, Option.join_some, Option.map_some, Option.map_none, Option.bind_some, setSl, tgSl, b_add, b_sub, b_mul, b_fdiv, b_mod, b_pow, b_addT, b_addL, b_mulT, b_mulL, deq_ii, deq_bb, c_eq, c_ne, c_lt, c_le, c_gt, c_ge, c_isN, c_isnN, c_isB, c_isnB, i_bl, i_non, i_int, i_str, i_tup, i_lst, non_non, non_int, non_tup, non_bl, t_non, t_bl, t_int, t_tup, t_lst, ixD_tup, ixD_lst, slD_tup, slD_lst, f_lenT, f_lenL, f_tupT, f_tupL, f_lstT, f_lstL, f_int, f_abs, f_max, f_min, f_all, f_any, f_sum, f_sorted, y_int, y_bl, y_non, y_str, y_tup, y_lst, y_obj, k_ii, k_ib, k_it, k_il, k_is, k_tt, k_tl, k_ti, k_tb, k_ll, k_lt, k_bi, k_bb, k_bt, k_bl, k_nt, k_ss, k_st, k_cc, ks_nil, ks_cons, as_int, pg_cells, pg_at, pg_digits, pg_count, pg_fold, ps_at, ps_digits, ps_count, ps_fold, q_tup, q_lst, z_tt, z_ll, ea_obj, er_bl, if_true, if_false, Bool.false_eq_true, Nat.reduceAdd, Nat.reduceSub, Bool.not_true, Bool.not_false, decide_true, decide_false, ir_loreti_item, s_loreti_item, need_figure_e h]
theorem loreti_item_e2 {m : Int} {e : D} (hm : 1 ≤ m ∧ m ≤ 20) (h : ∀ p, d_is_between [e, .int 0, .int 1000000000] p = .ok (.bl false) p) : d_loreti_item [.int m, e] p = .err 1000 [.str "i", e] p := by
  unfold d_loreti_item; simp -implicitDefEqProofs only [evFn, evSs, evS, evE, evT, evEs, evAnd, evOr, evAndT, evOrT, evO, evI, evOwn, R.bind_ok, R.bind_err, R.of_some, cat_ok, cat_err, f_repr, onInt_i, mem1, mem2, mem2b, se_d, se_u, se_o, sb_d, sb_u, sb_o, see, seeB, List.map_cons, List.map_nil, List.cons_append, List.nil_append, List.length_cons, List.length_nil, List.replicate_succ, List.replicate_zero, List.getElem?_cons_zero, List.getElem?_cons_succ, List.set_cons_zero, List.set_cons_succ, Option.join_some, Option.map_some, Option.map_none, Option.bind_some, setSl, tgSl, b_add, b_sub, b_mul, b_fdiv, b_mod, b_pow, b_addT, b_addL, b_mulT, b_mulL, deq_ii, deq_bb, c_eq, c_ne, c_lt, c_le, c_gt, c_ge, c_isN, c_isnN, c_isB, c_isnB, i_bl, i_non, i_int, i_str, i_tup, i_lst, non_non, non_int, non_tup, non_bl, t_non, t_bl, t_int, t_tup, t_lst, ixD_tup, ixD_lst, slD_tup, slD_lst, f_lenT, f_lenL, f_tupT, f_tupL, f_lstT, f_lstL, f_int, f_abs, f_max, f_min, f_all, f_any, f_sum, f_sorted, y_int, y_bl, y_non, y_str, y_tup, y_lst, y_obj, k_ii, k_ib, k_it, k_il, k_is, k_tt, k_tl, k_ti, k_tb, k_ll, k_lt, k_bi, k_bb, k_bt, k_bl, k_nt, k_ss, k_st, k_cc, ks_nil, ks_cons, as_int, pg_cells, pg_at, pg_digits, pg_count, pg_fold, ps_at, ps_digits, ps_count, ps_fold, q_tup, q_lst, z_tt, z_ll, ea_obj, er_bl, if_true, if_false, Bool.false_eq_true, Nat.reduceAdd, Nat.reduceSub, Bool.not_true, Bool.not_false, decide_true, decide_false, ir_loreti_item, s_loreti_item, need_figure_i hm, h]
/-- the golden row -/
def gold (m : Nat) : Rw := ([], if m % 2 = 0 then [((m / 2 : Nat) : Int)] else [((m / 2 : Nat) : Int) + 1, ((m / 2 : Nat) : Int)])
/-- items of the other row -/
def lor (m i : Nat) : Int := ((m / 2 : Nat) : Int) + t (i + 1) - (if m % 2 = 0 then t i else 0)
theorem even_i (m : Nat) : decide (((m % 2 : Nat) : Int) = 0) = decide (m % 2 = 0) := by
  by_cases h : m % 2 = 0
  · rw [decide_eq_true h, decide_eq_true (by omega)]
  · rw [decide_eq_false h, decide_eq_false (by omega)]
theorem golden_by_i (m : Nat) : d_golden_by [.int (m : Nat)] p = .ok (pr (gold m)) p := by
  unfold d_golden_by
  by_cases h : m % 2 = 0
  · simp -implicitDefEqProofs only [evFn, evSs, evS, evE, evT, evEs, evAnd, evOr, evAndT, evOrT, evO, evI, evOwn, R.bind_ok, R.bind_err, R.of_some, cat_ok, cat_err, f_repr, onInt_i, mem1, mem2, mem2b, se_d, se_u, se_o, sb_d, sb_u, sb_o, see, seeB, List.map_cons, List.map_nil, List.cons_append, List.nil_append, List.length_cons, List.length_nil, List.replicate_succ, List.replicate_zero, List.getElem?_cons_zero, List.getElem?_cons_succ, List.set_cons_zero, List.set_cons_succ, Option.join_some, Option.map_some, Option.map_none, Option.bind_some, setSl, tgSl, b_add, b_sub, b_mul, b_fdiv, b_mod, b_pow, b_addT, b_addL, b_mulT, b_mulL, deq_ii, deq_bb, c_eq, c_ne, c_lt, c_le, c_gt, c_ge, c_isN, c_isnN, c_isB, c_isnB, i_bl, i_non, i_int, i_str, i_tup, i_lst, non_non, non_int, non_tup, non_bl, t_non, t_bl, t_int, t_tup, t_lst, ixD_tup, ixD_lst, slD_tup, slD_lst, f_lenT, f_lenL, f_tupT, f_tupL, f_lstT, f_lstL, f_int, f_abs, f_max, f_min, f_all, f_any, f_sum, f_sorted, y_int, y_bl, y_non, y_str, y_tup, y_lst, y_obj, k_ii, k_ib, k_it, k_il, k_is, k_tt, k_tl, k_ti, k_tb, k_ll, k_lt, k_bi, k_bb, k_bt, k_bl, k_nt, k_ss, k_st, k_cc, ks_nil, ks_cons, as_int, pg_cells, pg_at, pg_digits, pg_count, pg_fold, ps_at, ps_digits, ps_count, ps_fold, q_tup, q_lst, z_tt, z_ll, ea_obj, er_bl, if_true, if_false, Bool.false_eq_true, Nat.reduceAdd, Nat.reduceSub, Bool.not_true, Bool.not_false, decide_true, decide_false, ir_golden_by, fd2, d2ok, fm m 2 (by decide), show Int.fmod (m : Int) 2 = ((m % 2 : Nat) : Int) from fm m 2 (by decide), even_i, h, sz1, sz2, sz0, ne_eq, show ¬ ((2 : Int) = 0) by decide, not_false_eq_true]
    unfold gold pr tW; rw [if_pos h]; rfl
  · simp -implicitDefEqProofs only [evFn, evSs, evS, evE, evT, evEs, evAnd, evOr, evAndT, evOrT, evO, evI, evOwn, R.bind_ok, R.bind_err, R.of_some, cat_ok, cat_err, f_repr, onInt_i, mem1, mem2, mem2b, se_d, se_u, se_o, sb_d, sb_u, sb_o, see, seeB, List.map_cons, List.map_nil, List.cons_append, List.nil_append, List.length_cons, List.length_nil, List.replicate_succ, List.replicate_zero, List.getElem?_cons_zero, List.getElem?_cons_succ, List.set_cons_zero, List.set_cons_succ, Option.join_some, Option.map_some, Option.map_none, Option.bind_some, setSl, tgSl, b_add, b_sub, b_mul, b_fdiv, b_mod, b_pow, b_addT, b_addL, b_mulT, b_mulL, deq_ii, deq_bb, c_eq, c_ne, c_lt, c_le, c_gt, c_ge, c_isN, c_isnN, c_isB, c_isnB, i_bl, i_non, i_int, i_str, i_tup, i_lst, non_non, non_int, non_tup, non_bl, t_non, t_bl, t_int, t_tup, t_lst, ixD_tup, ixD_lst, slD_tup, slD_lst, f_lenT, f_lenL, f_tupT, f_tupL, f_lstT, f_lstL, f_int, f_abs, f_max, f_min, f_all, f_any, f_sum, f_sorted, y_int, y_bl, y_non, y_str, y_tup, y_lst, y_obj, k_ii, k_ib, k_it, k_il, k_is, k_tt, k_tl, k_ti, k_tb, k_ll, k_lt, k_bi, k_bb, k_bt, k_bl, k_nt, k_ss, k_st, k_cc, ks_nil, ks_cons, as_int, pg_cells, pg_at, pg_digits, pg_count, pg_fold, ps_at, ps_digits, ps_count, ps_fold, q_tup, q_lst, z_tt, z_ll, ea_obj, er_bl, if_true, if_false, Bool.false_eq_true, Nat.reduceAdd, Nat.reduceSub, Bool.not_true, Bool.not_false, decide_true, decide_false, ir_golden_by, fd2, d2ok, show Int.fmod (m : Int) 2 = ((m % 2 : Nat) : Int) from fm m 2 (by decide), even_i, h, sz1, sz2, sz0, ne_eq, show ¬ ((2 : Int) = 0) by decide, not_false_eq_true]
    unfold gold pr tW; rw [if_neg h]; rfl
theorem gold_good {m : Nat} (hm : 1 ≤ m ∧ m ≤ 20) : Good m (gold m) := by
  unfold gold
  by_cases h : m % 2 = 0
  · simp only [h, if_true]; exact ⟨by simp, by simp, fun v hv => by simp at hv; omega, by simp⟩
  · simp only [h, if_false]; exact ⟨by simp, by simp, fun v hv => by simp at hv; omega, by simp⟩
theorem golden_row_i {m : Nat} (hm : 1 ≤ m ∧ m ≤ 20) : d_golden_row [.int (m : Nat)] p = .ok (ob (gold m)) p := by
  have g := gold_good hm
  have nf : d_need_figure [.int (m : Nat)] p = .ok .non p := need_figure_i (by omega)
  unfold d_golden_row
  simp -implicitDefEqProofs only [evFn, evSs, evS, evE, evT, evEs, evAnd, evOr, evAndT, evOrT, evO, evI, evOwn, R.bind_ok, R.bind_err, R.of_some, cat_ok, cat_err, f_repr, onInt_i, mem1, mem2, mem2b, se_d, se_u, se_o, sb_d, sb_u, sb_o, see, seeB, List.map_cons, List.map_nil, List.cons_append, List.nil_append, List.length_cons, List.length_nil, List.replicate_succ, List.replicate_zero, List.getElem?_cons_zero, List.getElem?_cons_succ, List.set_cons_zero, List.set_cons_succ, Option.join_some, Option.map_some, Option.map_none, Option.bind_some, setSl, tgSl, b_add, b_sub, b_mul, b_fdiv, b_mod, b_pow, b_addT, b_addL, b_mulT, b_mulL, deq_ii, deq_bb, c_eq, c_ne, c_lt, c_le, c_gt, c_ge, c_isN, c_isnN, c_isB, c_isnB, i_bl, i_non, i_int, i_str, i_tup, i_lst, non_non, non_int, non_tup, non_bl, t_non, t_bl, t_int, t_tup, t_lst, ixD_tup, ixD_lst, slD_tup, slD_lst, f_lenT, f_lenL, f_tupT, f_tupL, f_lstT, f_lstL, f_int, f_abs, f_max, f_min, f_all, f_any, f_sum, f_sorted, y_int, y_bl, y_non, y_str, y_tup, y_lst, y_obj, k_ii, k_ib, k_it, k_il, k_is, k_tt, k_tl, k_ti, k_tb, k_ll, k_lt, k_bi, k_bb, k_bt, k_bl, k_nt, k_ss, k_st, k_cc, ks_nil, ks_cons, as_int, pg_cells, pg_at, pg_digits, pg_count, pg_fold, ps_at, ps_digits, ps_count, ps_fold, q_tup, q_lst, z_tt, z_ll, ea_obj, er_bl, if_true, if_false, Bool.false_eq_true, Nat.reduceAdd, Nat.reduceSub, Bool.not_true, Bool.not_false, decide_true, decide_false, ir_golden_row, s_golden_row, nf, golden_by_i]
  unfold pr
  simp -implicitDefEqProofs only [evFn, evSs, evS, evE, evT, evEs, evAnd, evOr, evAndT, evOrT, evO, evI, evOwn, R.bind_ok, R.bind_err, R.of_some, cat_ok, cat_err, f_repr, onInt_i, mem1, mem2, mem2b, se_d, se_u, se_o, sb_d, sb_u, sb_o, see, seeB, List.map_cons, List.map_nil, List.cons_append, List.nil_append, List.length_cons, List.length_nil, List.replicate_succ, List.replicate_zero, List.getElem?_cons_zero, List.getElem?_cons_succ, List.set_cons_zero, List.set_cons_succ, Option.join_some, Option.map_some, Option.map_none, Option.bind_some, setSl, tgSl, b_add, b_sub, b_mul, b_fdiv, b_mod, b_pow, b_addT, b_addL, b_mulT, b_mulL, deq_ii, deq_bb, c_eq, c_ne, c_lt, c_le, c_gt, c_ge, c_isN, c_isnN, c_isB, c_isnB, i_bl, i_non, i_int, i_str, i_tup, i_lst, non_non, non_int, non_tup, non_bl, t_non, t_bl, t_int, t_tup, t_lst, ixD_tup, ixD_lst, slD_tup, slD_lst, f_lenT, f_lenL, f_tupT, f_tupL, f_lstT, f_lstL, f_int, f_abs, f_max, f_min, f_all, f_any, f_sum, f_sorted, y_int, y_bl, y_non, y_str, y_tup, y_lst, y_obj, k_ii, k_ib, k_it, k_il, k_is, k_tt, k_tl, k_ti, k_tb, k_ll, k_lt, k_bi, k_bb, k_bt, k_bl, k_nt, k_ss, k_st, k_cc, ks_nil, ks_cons, as_int, pg_cells, pg_at, pg_digits, pg_count, pg_fold, ps_at, ps_digits, ps_count, ps_fold, q_tup, q_lst, z_tt, z_ll, ea_obj, er_bl, if_true, if_false, Bool.false_eq_true, Nat.reduceAdd, Nat.reduceSub, Bool.not_true, Bool.not_false, decide_true, decide_false, s_golden_row, row_ini (x := gold m) (by have := g.2.2.2; omega) (by have := g.2.2.2; omega)]
  rfl
theorem loreti_by_i (m i : Nat) : d_loreti_by [.int (m : Nat), .int (i : Nat)] p = .ok (.int (lor m i)) p := by
  have o1 : d_odd_ones [.int ((i : Int) + 1)] p = .ok (.int (t (i + 1))) p := odd_ones_i (i + 1)
  unfold d_loreti_by lor
  by_cases h : m % 2 = 0
  · simp -implicitDefEqProofs only [evFn, evSs, evS, evE, evT, evEs, evAnd, evOr, evAndT, evOrT, evO, evI, evOwn, R.bind_ok, R.bind_err, R.of_some, cat_ok, cat_err, f_repr, onInt_i, mem1, mem2, mem2b, se_d, se_u, se_o, sb_d, sb_u, sb_o, see, seeB, List.map_cons, List.map_nil, List.cons_append, List.nil_append, List.length_cons, List.length_nil, List.replicate_succ, List.replicate_zero, List.getElem?_cons_zero, List.getElem?_cons_succ, List.set_cons_zero, List.set_cons_succ, Option.join_some, Option.map_some, Option.map_none, Option.bind_some, setSl, tgSl, b_add, b_sub, b_mul, b_fdiv, b_mod, b_pow, b_addT, b_addL, b_mulT, b_mulL, deq_ii, deq_bb, c_eq, c_ne, c_lt, c_le, c_gt, c_ge, c_isN, c_isnN, c_isB, c_isnB, i_bl, i_non, i_int, i_str, i_tup, i_lst, non_non, non_int, non_tup, non_bl, t_non, t_bl, t_int, t_tup, t_lst, ixD_tup, ixD_lst, slD_tup, slD_lst, f_lenT, f_lenL, f_tupT, f_tupL, f_lstT, f_lstL, f_int, f_abs, f_max, f_min, f_all, f_any, f_sum, f_sorted, y_int, y_bl, y_non, y_str, y_tup, y_lst, y_obj, k_ii, k_ib, k_it, k_il, k_is, k_tt, k_tl, k_ti, k_tb, k_ll, k_lt, k_bi, k_bb, k_bt, k_bl, k_nt, k_ss, k_st, k_cc, ks_nil, ks_cons, as_int, pg_cells, pg_at, pg_digits, pg_count, pg_fold, ps_at, ps_digits, ps_count, ps_fold, q_tup, q_lst, z_tt, z_ll, ea_obj, er_bl, if_true, if_false, Bool.false_eq_true, Nat.reduceAdd, Nat.reduceSub, Bool.not_true, Bool.not_false, decide_true, decide_false, ir_loreti_by, s_loreti_by, o1, odd_ones_i, fd2, d2ok, show decide (Int.fmod (m : Int) 2 = 0) = true by rw [show Int.fmod (m : Int) 2 = ((m % 2 : Nat) : Int) from fm m 2 (by decide), even_i, decide_eq_true h], h, ne_eq, show ¬ ((2 : Int) = 0) by decide, not_false_eq_true]
  · simp -implicitDefEqProofs only [evFn, evSs, evS, evE, evT, evEs, evAnd, evOr, evAndT, evOrT, evO, evI, evOwn, R.bind_ok, R.bind_err, R.of_some, cat_ok, cat_err, f_repr, onInt_i, mem1, mem2, mem2b, se_d, se_u, se_o, sb_d, sb_u, sb_o, see, seeB, List.map_cons, List.map_nil, List.cons_append, List.nil_append, List.length_cons, List.length_nil, List.replicate_succ, List.replicate_zero, List.getElem?_cons_zero, List.getElem?_cons_succ, List.set_cons_zero, List.set_cons_succ, Option.join_some, Option.map_some, Option.map_none, Option.bind_some, setSl, tgSl, b_add, b_sub, b_mul, b_fdiv, b_mod, b_pow, b_addT, b_addL, b_mulT, b_mulL, deq_ii, deq_bb, c_eq, c_ne, c_lt, c_le, c_gt, c_ge, c_isN, c_isnN, c_isB, c_isnB, i_bl, i_non, i_int, i_str, i_tup, i_lst, non_non, non_int, non_tup, non_bl, t_non, t_bl, t_int, t_tup, t_lst, ixD_tup, ixD_lst, slD_tup, slD_lst, f_lenT, f_lenL, f_tupT, f_tupL, f_lstT, f_lstL, f_int, f_abs, f_max, f_min, f_all, f_any, f_sum, f_sorted, y_int, y_bl, y_non, y_str, y_tup, y_lst, y_obj, k_ii, k_ib, k_it, k_il, k_is, k_tt, k_tl, k_ti, k_tb, k_ll, k_lt, k_bi, k_bb, k_bt, k_bl, k_nt, k_ss, k_st, k_cc, ks_nil, ks_cons, as_int, pg_cells, pg_at, pg_digits, pg_count, pg_fold, ps_at, ps_digits, ps_count, ps_fold, q_tup, q_lst, z_tt, z_ll, ea_obj, er_bl, if_true, if_false, Bool.false_eq_true, Nat.reduceAdd, Nat.reduceSub, Bool.not_true, Bool.not_false, decide_true, decide_false, ir_loreti_by, s_loreti_by, o1, odd_ones_i, fd2, d2ok, show Int.fmod (m : Int) 2 = ((m % 2 : Nat) : Int) from fm m 2 (by decide), even_i, h, ne_eq, show ¬ ((2 : Int) = 0) by decide, not_false_eq_true, Int.sub_zero]
theorem loreti_item_i {m i : Nat} (hm : 1 ≤ m ∧ m ≤ 20) (hi : i ≤ 1000000000) : d_loreti_item [.int (m : Nat), .int (i : Nat)] p = .ok (.int (lor m i)) p := by
  have nf : d_need_figure [.int (m : Nat)] p = .ok .non p := need_figure_i (by omega)
  have c : decide ((0 : Int) ≤ (i : Int) ∧ (i : Int) ≤ 1000000000) = true := decide_eq_true (by omega)
  unfold d_loreti_item
  simp -implicitDefEqProofs only [evFn, evSs, evS, evE, evT, evEs, evAnd, evOr, evAndT, evOrT, evO, evI, evOwn, R.bind_ok, R.bind_err, R.of_some, cat_ok, cat_err, f_repr, onInt_i, mem1, mem2, mem2b, se_d, se_u, se_o, sb_d, sb_u, sb_o, see, seeB, List.map_cons, List.map_nil, List.cons_append, List.nil_append, List.length_cons, List.length_nil, List.replicate_succ, List.replicate_zero, List.getElem?_cons_zero, List.getElem?_cons_succ, List.set_cons_zero, List.set_cons_succ, Option.join_some, Option.map_some, Option.map_none, Option.bind_some, setSl, tgSl, b_add, b_sub, b_mul, b_fdiv, b_mod, b_pow, b_addT, b_addL, b_mulT, b_mulL, deq_ii, deq_bb, c_eq, c_ne, c_lt, c_le, c_gt, c_ge, c_isN, c_isnN, c_isB, c_isnB, i_bl, i_non, i_int, i_str, i_tup, i_lst, non_non, non_int, non_tup, non_bl, t_non, t_bl, t_int, t_tup, t_lst, ixD_tup, ixD_lst, slD_tup, slD_lst, f_lenT, f_lenL, f_tupT, f_tupL, f_lstT, f_lstL, f_int, f_abs, f_max, f_min, f_all, f_any, f_sum, f_sorted, y_int, y_bl, y_non, y_str, y_tup, y_lst, y_obj, k_ii, k_ib, k_it, k_il, k_is, k_tt, k_tl, k_ti, k_tb, k_ll, k_lt, k_bi, k_bb, k_bt, k_bl, k_nt, k_ss, k_st, k_cc, ks_nil, ks_cons, as_int, pg_cells, pg_at, pg_digits, pg_count, pg_fold, ps_at, ps_digits, ps_count, ps_fold, q_tup, q_lst, z_tt, z_ll, ea_obj, er_bl, if_true, if_false, Bool.false_eq_true, Nat.reduceAdd, Nat.reduceSub, Bool.not_true, Bool.not_false, decide_true, decide_false, ir_loreti_item, s_loreti_item, nf, is_between_i, c, loreti_by_i]
theorem item_at_i {m : Nat} (hm : 1 ≤ m ∧ m ≤ 20) {x : Rw} (h : Good m x) (n : Nat) : d_item_at [.int (m : Nat), ob x, .int (n : Nat)] p = .ok (.int (item x.1 x.2 n)) p := by
  have nf : d_need_figure [.int (m : Nat)] p = .ok .non p := need_figure_i (by omega)
  unfold d_item_at
  simp -implicitDefEqProofs only [evFn, evSs, evS, evE, evT, evEs, evAnd, evOr, evAndT, evOrT, evO, evI, evOwn, R.bind_ok, R.bind_err, R.of_some, cat_ok, cat_err, f_repr, onInt_i, mem1, mem2, mem2b, se_d, se_u, se_o, sb_d, sb_u, sb_o, see, seeB, List.map_cons, List.map_nil, List.cons_append, List.nil_append, List.length_cons, List.length_nil, List.replicate_succ, List.replicate_zero, List.getElem?_cons_zero, List.getElem?_cons_succ, List.set_cons_zero, List.set_cons_succ, Option.join_some, Option.map_some, Option.map_none, Option.bind_some, setSl, tgSl, b_add, b_sub, b_mul, b_fdiv, b_mod, b_pow, b_addT, b_addL, b_mulT, b_mulL, deq_ii, deq_bb, c_eq, c_ne, c_lt, c_le, c_gt, c_ge, c_isN, c_isnN, c_isB, c_isnB, i_bl, i_non, i_int, i_str, i_tup, i_lst, non_non, non_int, non_tup, non_bl, t_non, t_bl, t_int, t_tup, t_lst, ixD_tup, ixD_lst, slD_tup, slD_lst, f_lenT, f_lenL, f_tupT, f_tupL, f_lstT, f_lstL, f_int, f_abs, f_max, f_min, f_all, f_any, f_sum, f_sorted, y_int, y_bl, y_non, y_str, y_tup, y_lst, y_obj, k_ii, k_ib, k_it, k_il, k_is, k_tt, k_tl, k_ti, k_tb, k_ll, k_lt, k_bi, k_bb, k_bt, k_bl, k_nt, k_ss, k_st, k_cc, ks_nil, ks_cons, as_int, pg_cells, pg_at, pg_digits, pg_count, pg_fold, ps_at, ps_digits, ps_count, ps_fold, q_tup, q_lst, z_tt, z_ll, ea_obj, er_bl, if_true, if_false, Bool.false_eq_true, Nat.reduceAdd, Nat.reduceSub, Bool.not_true, Bool.not_false, decide_true, decide_false, ir_item_at, s_item_at, nf, need_row_i h, need_index_i (show (0 : Int) ≤ (n : Int) by omega), item_by_i h.1]
end
end Lk91

set_option Elab.async false
set_option linter.all false
set_option maxRecDepth 100000
set_option maxHeartbeats 2000000
namespace Lk91
open PySem PySem.Spec PyProof.Rows L2 Mi RowP
theorem draw' {p : PenS} (hp : PInv p) {many : Int} (h1 : 1 ≤ many) (h2 : many < 10000000000000) : ∃ v p', d__law_draw [.pen, .int many] p = .ok (.int v) p' ∧ PInv p' ∧ 0 ≤ v ∧ v < many := draw hp h1 (log_small (by omega))
theorem pick {p : PenS} (hp : PInv p) {xs : List D} (h1 : xs ≠ []) (h2 : xs.length < 1000) : ∃ v p', v ∈ xs ∧ d__law_pick [.pen, .lst xs] p = .ok v p' ∧ PInv p' := by
  have hl : 0 < xs.length := List.length_pos_iff.mpr h1
  obtain ⟨k, p', e, hp', k1, k2⟩ := draw' hp (many := (xs.length : Int)) (by omega) (by omega)
  have ix : idx (.lst xs) (.int k) = some (xs[k.toNat]'(by omega)) := by
    rw [ixD_lst, atI_nn k1 k2, List.getElem?_eq_getElem (by omega)]
  refine ⟨_, p', List.getElem_mem (h := show k.toNat < xs.length by omega), ?_, hp'⟩
  unfold d__law_pick
  simp -implicitDefEqProofs only [evFn, evSs, evS, evE, evT, evEs, evAnd, evOr, evAndT, evOrT, evO, evI, evOwn, R.bind_ok, R.bind_err, R.of_some, cat_ok, cat_err, f_repr, onInt_i, mem1, mem2, mem2b, se_d, se_u, se_o, sb_d, sb_u, sb_o, see, seeB, List.map_cons, List.map_nil, List.cons_append, List.nil_append, List.length_cons, List.length_nil, List.replicate_succ, List.replicate_zero, List.getElem?_cons_zero, List.getElem?_cons_succ, List.set_cons_zero, List.set_cons_succ, Option.join_some, Option.map_some, Option.map_none, Option.bind_some, setSl, tgSl, b_add, b_sub, b_mul, b_fdiv, b_mod, b_pow, b_addT, b_addL, b_mulT, b_mulL, deq_ii, deq_bb, c_eq, c_ne, c_lt, c_le, c_gt, c_ge, c_isN, c_isnN, c_isB, c_isnB, i_bl, i_non, i_int, i_str, i_tup, i_lst, non_non, non_int, non_tup, non_bl, t_non, t_bl, t_int, t_tup, t_lst, ixD_tup, ixD_lst, slD_tup, slD_lst, f_lenT, f_lenL, f_tupT, f_tupL, f_lstT, f_lstL, f_int, f_abs, f_max, f_min, f_all, f_any, f_sum, f_sorted, y_int, y_bl, y_non, y_str, y_tup, y_lst, y_obj, k_ii, k_ib, k_it, k_il, k_is, k_tt, k_tl, k_ti, k_tb, k_ll, k_lt, k_bi, k_bb, k_bt, k_bl, k_nt, k_ss, k_st, k_cc, ks_nil, ks_cons, as_int, pg_cells, pg_at, pg_digits, pg_count, pg_fold, ps_at, ps_digits, ps_count, ps_fold, q_tup, q_lst, z_tt, z_ll, ea_obj, er_bl, if_true, if_false, Bool.false_eq_true, Nat.reduceAdd, Nat.reduceSub, Bool.not_true, Bool.not_false, decide_true, decide_false, ir__law_pick, s__law_pick, e, ix]
/-- a number of that many figures -/
theorem wide {p : PenS} (hp : PInv p) {k : Nat} (hk : k ≤ 60) : ∃ (v : Nat) (p' : PenS), d__law_wide [.pen, .int (k : Nat)] p = .ok (.int (v : Nat)) p' ∧ PInv p' ∧ v < 10 ^ k := by
  have hr1 : rngOf 0 (Int.fdiv ((k : Int) + 5) 6) = some (rng 0 (((k + 5) / 6 : Nat) : Int)) := by
    rw [show Int.fdiv ((k : Int) + 5) 6 = (((k + 5) / 6 : Nat) : Int) by rw [Int.fdiv_eq_ediv_of_nonneg _ (by omega)]; omega]
    exact rngOf_ok (by omega) (by omega)
  have hr2 : rngOf 0 (k : Int) = some (rng 0 (k : Int)) := rngOf_ok (by omega) (by omega)
  have m6 : ∀ x : Int, mulOk x 1000000 := fun x => mulOk_r (by decide)
  have m10 : ∀ x : Int, mulOk x 10 := fun x => mulOk_r (by decide)
  have d6 : ∀ x : Int, divOk x 6 := fun x => div_ok ⟨by omega, by omega⟩
  obtain ⟨ρ1, p1, f1, ⟨z1, v1, rfl, v1p⟩, hp1⟩ := loop_inv (f := fun d ρ p => (R.of (tgSl ρ (.nm 2) d) p).bind fun ρ p => evSs S__law_wide (forB (headS (dropSs 1 ir__law_wide))) ρ p) (ds := rng 0 (((k + 5) / 6 : Nat) : Int))
    (Inv := fun ρ p => (∃ (z : Sl) (v : Int), ρ = [.d .pen, .d (.int (k : Nat)), z, .d (.int v), .d (.int 1)] ∧ 0 ≤ v) ∧ PInv p) (ρ := [.d .pen, .d (.int (k : Nat)), .u, .d (.int 0), .d (.int 1)]) (p := p)
    (fun d hd ρ p hi => by
      obtain ⟨⟨z, v, rfl, hv⟩, hp⟩ := hi
      obtain ⟨x, p', e, hp', x0, x1⟩ := draw' hp (many := 1000000) (by omega) (by omega)
      refine ⟨_, p', ?_, ⟨.d d, v * 1000000 + x, rfl, by omega⟩, hp'⟩
      simp -implicitDefEqProofs only [evFn, evSs, evS, evE, evT, evEs, evAnd, evOr, evAndT, evOrT, evO, evI, evOwn, R.bind_ok, R.bind_err, R.of_some, cat_ok, cat_err, f_repr, onInt_i, mem1, mem2, mem2b, se_d, se_u, se_o, sb_d, sb_u, sb_o, see, seeB, List.map_cons, List.map_nil, List.cons_append, List.nil_append, List.length_cons, List.length_nil, List.replicate_succ, List.replicate_zero, List.getElem?_cons_zero, List.getElem?_cons_succ, List.set_cons_zero, List.set_cons_succ, Option.join_some, Option.map_some, Option.map_none, Option.bind_some, setSl, tgSl, b_add, b_sub, b_mul, b_fdiv, b_mod, b_pow, b_addT, b_addL, b_mulT, b_mulL, deq_ii, deq_bb, c_eq, c_ne, c_lt, c_le, c_gt, c_ge, c_isN, c_isnN, c_isB, c_isnB, i_bl, i_non, i_int, i_str, i_tup, i_lst, non_non, non_int, non_tup, non_bl, t_non, t_bl, t_int, t_tup, t_lst, ixD_tup, ixD_lst, slD_tup, slD_lst, f_lenT, f_lenL, f_tupT, f_tupL, f_lstT, f_lstL, f_int, f_abs, f_max, f_min, f_all, f_any, f_sum, f_sorted, y_int, y_bl, y_non, y_str, y_tup, y_lst, y_obj, k_ii, k_ib, k_it, k_il, k_is, k_tt, k_tl, k_ti, k_tb, k_ll, k_lt, k_bi, k_bb, k_bt, k_bl, k_nt, k_ss, k_st, k_cc, ks_nil, ks_cons, as_int, pg_cells, pg_at, pg_digits, pg_count, pg_fold, ps_at, ps_digits, ps_count, ps_fold, q_tup, q_lst, z_tt, z_ll, ea_obj, er_bl, if_true, if_false, Bool.false_eq_true, Nat.reduceAdd, Nat.reduceSub, Bool.not_true, Bool.not_false, decide_true, decide_false, forB, headS, dropSs, ir__law_wide, s__law_wide, cp6, e6, m6, e]) ⟨⟨.u, 0, rfl, by omega⟩, hp⟩
  obtain ⟨ρ2, p2, f2, ⟨z2, rfl⟩, rfl⟩ := loop_idx (f := fun d ρ p => (R.of (tgSl ρ (.nm 2) d) p).bind fun ρ p => evSs S__law_wide (forB (headS (dropSs 2 ir__law_wide))) ρ p) (ds := rng 0 (k : Int))
    (I := fun i ρ p => (∃ z, ρ = [.d .pen, .d (.int (k : Nat)), z, .d (.int v1), .d (.int ((10 ^ i : Nat) : Int))]) ∧ p = p1) (i := 0) (ρ := [.d .pen, .d (.int (k : Nat)), z1, .d (.int v1), .d (.int 1)]) (p := p1)
    (fun d hd i ρ p hi => by
      obtain ⟨⟨z, rfl⟩, rfl⟩ := hi
      refine ⟨_, p, ?_, ⟨.d d, rfl⟩, rfl⟩
      simp -implicitDefEqProofs only [evFn, evSs, evS, evE, evT, evEs, evAnd, evOr, evAndT, evOrT, evO, evI, evOwn, R.bind_ok, R.bind_err, R.of_some, cat_ok, cat_err, f_repr, onInt_i, mem1, mem2, mem2b, se_d, se_u, se_o, sb_d, sb_u, sb_o, see, seeB, List.map_cons, List.map_nil, List.cons_append, List.nil_append, List.length_cons, List.length_nil, List.replicate_succ, List.replicate_zero, List.getElem?_cons_zero, List.getElem?_cons_succ, List.set_cons_zero, List.set_cons_succ, Option.join_some, Option.map_some, Option.map_none, Option.bind_some, setSl, tgSl, b_add, b_sub, b_mul, b_fdiv, b_mod, b_pow, b_addT, b_addL, b_mulT, b_mulL, deq_ii, deq_bb, c_eq, c_ne, c_lt, c_le, c_gt, c_ge, c_isN, c_isnN, c_isB, c_isnB, i_bl, i_non, i_int, i_str, i_tup, i_lst, non_non, non_int, non_tup, non_bl, t_non, t_bl, t_int, t_tup, t_lst, ixD_tup, ixD_lst, slD_tup, slD_lst, f_lenT, f_lenL, f_tupT, f_tupL, f_lstT, f_lstL, f_int, f_abs, f_max, f_min, f_all, f_any, f_sum, f_sorted, y_int, y_bl, y_non, y_str, y_tup, y_lst, y_obj, k_ii, k_ib, k_it, k_il, k_is, k_tt, k_tl, k_ti, k_tb, k_ll, k_lt, k_bi, k_bb, k_bt, k_bl, k_nt, k_ss, k_st, k_cc, ks_nil, ks_cons, as_int, pg_cells, pg_at, pg_digits, pg_count, pg_fold, ps_at, ps_digits, ps_count, ps_fold, q_tup, q_lst, z_tt, z_ll, ea_obj, er_bl, if_true, if_false, Bool.false_eq_true, Nat.reduceAdd, Nat.reduceSub, Bool.not_true, Bool.not_false, decide_true, decide_false, forB, headS, dropSs, ir__law_wide, s__law_wide, m10]
      rw [Nat.pow_succ, Int.natCast_mul]; rfl) ⟨⟨z1, rfl⟩, rfl⟩
  rw [rng0_length, Nat.zero_add] at f2
  have tp : 0 < 10 ^ k := Nat.pow_pos (by decide)
  have em : Int.fmod v1 ((10 ^ k : Nat) : Int) = ((v1.toNat % 10 ^ k : Nat) : Int) := by
    rw [Int.fmod_eq_emod_of_nonneg _ (by omega), Int.natCast_emod, Int.toNat_of_nonneg v1p]
  refine ⟨v1.toNat % 10 ^ k, p2, evFn_rt (ρ' := [.d .pen, .d (.int (k : Nat)), z2, .d (.int v1), .d (.int ((10 ^ k : Nat) : Int))]) ?_, hp1, Nat.mod_lt _ tp⟩
  refine evSs_nx (ρ1 := [.d .pen, .d (.int (k : Nat)), .u, .d (.int 0), .d (.int 1)]) (p1 := p) (by simp -implicitDefEqProofs only [evFn, evSs, evS, evE, evT, evEs, evAnd, evOr, evAndT, evOrT, evO, evI, evOwn, R.bind_ok, R.bind_err, R.of_some, cat_ok, cat_err, f_repr, onInt_i, mem1, mem2, mem2b, se_d, se_u, se_o, sb_d, sb_u, sb_o, see, seeB, List.map_cons, List.map_nil, List.cons_append, List.nil_append, List.length_cons, List.length_nil, List.replicate_succ, List.replicate_zero, List.getElem?_cons_zero, List.getElem?_cons_succ, List.set_cons_zero, List.set_cons_succ, Option.join_some, Option.map_some, Option.map_none, Option.bind_some, setSl, tgSl, b_add, b_sub, b_mul, b_fdiv, b_mod, b_pow, b_addT, b_addL, b_mulT, b_mulL, deq_ii, deq_bb, c_eq, c_ne, c_lt, c_le, c_gt, c_ge, c_isN, c_isnN, c_isB, c_isnB, i_bl, i_non, i_int, i_str, i_tup, i_lst, non_non, non_int, non_tup, non_bl, t_non, t_bl, t_int, t_tup, t_lst, ixD_tup, ixD_lst, slD_tup, slD_lst, f_lenT, f_lenL, f_tupT, f_tupL, f_lstT, f_lstL, f_int, f_abs, f_max, f_min, f_all, f_any, f_sum, f_sorted, y_int, y_bl, y_non, y_str, y_tup, y_lst, y_obj, k_ii, k_ib, k_it, k_il, k_is, k_tt, k_tl, k_ti, k_tb, k_ll, k_lt, k_bi, k_bb, k_bt, k_bl, k_nt, k_ss, k_st, k_cc, ks_nil, ks_cons, as_int, pg_cells, pg_at, pg_digits, pg_count, pg_fold, ps_at, ps_digits, ps_count, ps_fold, q_tup, q_lst, z_tt, z_ll, ea_obj, er_bl, if_true, if_false, Bool.false_eq_true, Nat.reduceAdd, Nat.reduceSub, Bool.not_true, Bool.not_false, decide_true, decide_false, sz2]) ?_
  refine evSs_nx (ρ1 := [.d .pen, .d (.int (k : Nat)), z1, .d (.int v1), .d (.int 1)]) (p1 := p2) ?_ ?_
  · rw [evS_for (ds := rng 0 (((k + 5) / 6 : Nat) : Int)) (p1 := p) (by simp -implicitDefEqProofs only [evFn, evSs, evS, evE, evT, evEs, evAnd, evOr, evAndT, evOrT, evO, evI, evOwn, R.bind_ok, R.bind_err, R.of_some, cat_ok, cat_err, f_repr, onInt_i, mem1, mem2, mem2b, se_d, se_u, se_o, sb_d, sb_u, sb_o, see, seeB, List.map_cons, List.map_nil, List.cons_append, List.nil_append, List.length_cons, List.length_nil, List.replicate_succ, List.replicate_zero, List.getElem?_cons_zero, List.getElem?_cons_succ, List.set_cons_zero, List.set_cons_succ, Option.join_some, Option.map_some, Option.map_none, Option.bind_some, setSl, tgSl, b_add, b_sub, b_mul, b_fdiv, b_mod, b_pow, b_addT, b_addL, b_mulT, b_mulL, deq_ii, deq_bb, c_eq, c_ne, c_lt, c_le, c_gt, c_ge, c_isN, c_isnN, c_isB, c_isnB, i_bl, i_non, i_int, i_str, i_tup, i_lst, non_non, non_int, non_tup, non_bl, t_non, t_bl, t_int, t_tup, t_lst, ixD_tup, ixD_lst, slD_tup, slD_lst, f_lenT, f_lenL, f_tupT, f_tupL, f_lstT, f_lstL, f_int, f_abs, f_max, f_min, f_all, f_any, f_sum, f_sorted, y_int, y_bl, y_non, y_str, y_tup, y_lst, y_obj, k_ii, k_ib, k_it, k_il, k_is, k_tt, k_tl, k_ti, k_tb, k_ll, k_lt, k_bi, k_bb, k_bt, k_bl, k_nt, k_ss, k_st, k_cc, ks_nil, ks_cons, as_int, pg_cells, pg_at, pg_digits, pg_count, pg_fold, ps_at, ps_digits, ps_count, ps_fold, q_tup, q_lst, z_tt, z_ll, ea_obj, er_bl, if_true, if_false, Bool.false_eq_true, Nat.reduceAdd, Nat.reduceSub, Bool.not_true, Bool.not_false, decide_true, decide_false, as_int, hr1, d6])]
    exact f1
  refine evSs_nx (ρ1 := [.d .pen, .d (.int (k : Nat)), z2, .d (.int v1), .d (.int ((10 ^ k : Nat) : Int))]) (p1 := p2) ?_ ?_
  · rw [evS_for (ds := rng 0 (k : Int)) (p1 := p2) (by simp -implicitDefEqProofs only [evFn, evSs, evS, evE, evT, evEs, evAnd, evOr, evAndT, evOrT, evO, evI, evOwn, R.bind_ok, R.bind_err, R.of_some, cat_ok, cat_err, f_repr, onInt_i, mem1, mem2, mem2b, se_d, se_u, se_o, sb_d, sb_u, sb_o, see, seeB, List.map_cons, List.map_nil, List.cons_append, List.nil_append, List.length_cons, List.length_nil, List.replicate_succ, List.replicate_zero, List.getElem?_cons_zero, List.getElem?_cons_succ, List.set_cons_zero, List.set_cons_succ, Option.join_some, Option.map_some, Option.map_none, Option.bind_some, setSl, tgSl, b_add, b_sub, b_mul, b_fdiv, b_mod, b_pow, b_addT, b_addL, b_mulT, b_mulL, deq_ii, deq_bb, c_eq, c_ne, c_lt, c_le, c_gt, c_ge, c_isN, c_isnN, c_isB, c_isnB, i_bl, i_non, i_int, i_str, i_tup, i_lst, non_non, non_int, non_tup, non_bl, t_non, t_bl, t_int, t_tup, t_lst, ixD_tup, ixD_lst, slD_tup, slD_lst, f_lenT, f_lenL, f_tupT, f_tupL, f_lstT, f_lstL, f_int, f_abs, f_max, f_min, f_all, f_any, f_sum, f_sorted, y_int, y_bl, y_non, y_str, y_tup, y_lst, y_obj, k_ii, k_ib, k_it, k_il, k_is, k_tt, k_tl, k_ti, k_tb, k_ll, k_lt, k_bi, k_bb, k_bt, k_bl, k_nt, k_ss, k_st, k_cc, ks_nil, ks_cons, as_int, pg_cells, pg_at, pg_digits, pg_count, pg_fold, ps_at, ps_digits, ps_count, ps_fold, q_tup, q_lst, z_tt, z_ll, ea_obj, er_bl, if_true, if_false, Bool.false_eq_true, Nat.reduceAdd, Nat.reduceSub, Bool.not_true, Bool.not_false, decide_true, decide_false, as_int, hr2])]
    exact f2
  · have nz : ¬ (((10 ^ k : Nat) : Int) = 0) := by omega
    generalize 10 ^ k = K at *
    simp -implicitDefEqProofs only [evFn, evSs, evS, evE, evT, evEs, evAnd, evOr, evAndT, evOrT, evO, evI, evOwn, R.bind_ok, R.bind_err, R.of_some, cat_ok, cat_err, f_repr, onInt_i, mem1, mem2, mem2b, se_d, se_u, se_o, sb_d, sb_u, sb_o, see, seeB, List.map_cons, List.map_nil, List.cons_append, List.nil_append, List.length_cons, List.length_nil, List.replicate_succ, List.replicate_zero, List.getElem?_cons_zero, List.getElem?_cons_succ, List.set_cons_zero, List.set_cons_succ, Option.join_some, Option.map_some, Option.map_none, Option.bind_some, setSl, tgSl, b_add, b_sub, b_mul, b_fdiv, b_mod, b_pow, b_addT, b_addL, b_mulT, b_mulL, deq_ii, deq_bb, c_eq, c_ne, c_lt, c_le, c_gt, c_ge, c_isN, c_isnN, c_isB, c_isnB, i_bl, i_non, i_int, i_str, i_tup, i_lst, non_non, non_int, non_tup, non_bl, t_non, t_bl, t_int, t_tup, t_lst, ixD_tup, ixD_lst, slD_tup, slD_lst, f_lenT, f_lenL, f_tupT, f_tupL, f_lstT, f_lstL, f_int, f_abs, f_max, f_min, f_all, f_any, f_sum, f_sorted, y_int, y_bl, y_non, y_str, y_tup, y_lst, y_obj, k_ii, k_ib, k_it, k_il, k_is, k_tt, k_tl, k_ti, k_tb, k_ll, k_lt, k_bi, k_bb, k_bt, k_bl, k_nt, k_ss, k_st, k_cc, ks_nil, ks_cons, as_int, pg_cells, pg_at, pg_digits, pg_count, pg_fold, ps_at, ps_digits, ps_count, ps_fold, q_tup, q_lst, z_tt, z_ll, ea_obj, er_bl, if_true, if_false, Bool.false_eq_true, Nat.reduceAdd, Nat.reduceSub, Bool.not_true, Bool.not_false, decide_true, decide_false, em, nz, ne_eq, not_false_eq_true]
theorem is1_int {p : PenS} (a b : Int) : d__law_is_1 [.int a, .int b] p = .ok (.bl (decide (a = b))) p := by
  unfold d__law_is_1; simp -implicitDefEqProofs only [evFn, evSs, evS, evE, evT, evEs, evAnd, evOr, evAndT, evOrT, evO, evI, evOwn, R.bind_ok, R.bind_err, R.of_some, cat_ok, cat_err, f_repr, onInt_i, mem1, mem2, mem2b, se_d, se_u, se_o, sb_d, sb_u, sb_o, see, seeB, List.map_cons, List.map_nil, List.cons_append, List.nil_append, List.length_cons, List.length_nil, List.replicate_succ, List.replicate_zero, List.getElem?_cons_zero, List.getElem?_cons_succ, List.set_cons_zero, List.set_cons_succ, Option.join_some, Option.map_some, Option.map_none, Option.bind_some, setSl, tgSl, b_add, b_sub, b_mul, b_fdiv, b_mod, b_pow, b_addT, b_addL, b_mulT, b_mulL, deq_ii, deq_bb, c_eq, c_ne, c_lt, c_le, c_gt, c_ge, c_isN, c_isnN, c_isB, c_isnB, i_bl, i_non, i_int, i_str, i_tup, i_lst, non_non, non_int, non_tup, non_bl, t_non, t_bl, t_int, t_tup, t_lst, ixD_tup, ixD_lst, slD_tup, slD_lst, f_lenT, f_lenL, f_tupT, f_tupL, f_lstT, f_lstL, f_int, f_abs, f_max, f_min, f_all, f_any, f_sum, f_sorted, y_int, y_bl, y_non, y_str, y_tup, y_lst, y_obj, k_ii, k_ib, k_it, k_il, k_is, k_tt, k_tl, k_ti, k_tb, k_ll, k_lt, k_bi, k_bb, k_bt, k_bl, k_nt, k_ss, k_st, k_cc, ks_nil, ks_cons, as_int, pg_cells, pg_at, pg_digits, pg_count, pg_fold, ps_at, ps_digits, ps_count, ps_fold, q_tup, q_lst, z_tt, z_ll, ea_obj, er_bl, if_true, if_false, Bool.false_eq_true, Nat.reduceAdd, Nat.reduceSub, Bool.not_true, Bool.not_false, decide_true, decide_false, ir__law_is_1, show kit (.b "int") (.b "str") = some false by decide +kernel]
theorem is2_pair {p : PenS} (a b : Int) : d__law_is_2 [.tup [.int a, .int b], .tup [.int a, .int b]] p = .ok (.bl true) p := by
  have r2 : rngOf 0 ((0 + 1 + 1 : Nat) : Int) = some [.int 0, .int 1] := by rw [rngOf_ok (by omega) (by omega)]; rfl
  have l2 : [D.int 0, .int 1].length ≤ sizeLine := sz2
  unfold d__law_is_2
  simp -implicitDefEqProofs only [evFn, evSs, evS, evE, evT, evEs, evAnd, evOr, evAndT, evOrT, evO, evI, evOwn, R.bind_ok, R.bind_err, R.of_some, cat_ok, cat_err, f_repr, onInt_i, mem1, mem2, mem2b, se_d, se_u, se_o, sb_d, sb_u, sb_o, see, seeB, List.map_cons, List.map_nil, List.cons_append, List.nil_append, List.length_cons, List.length_nil, List.replicate_succ, List.replicate_zero, List.getElem?_cons_zero, List.getElem?_cons_succ, List.set_cons_zero, List.set_cons_succ, Option.join_some, Option.map_some, Option.map_none, Option.bind_some, setSl, tgSl, b_add, b_sub, b_mul, b_fdiv, b_mod, b_pow, b_addT, b_addL, b_mulT, b_mulL, deq_ii, deq_bb, c_eq, c_ne, c_lt, c_le, c_gt, c_ge, c_isN, c_isnN, c_isB, c_isnB, i_bl, i_non, i_int, i_str, i_tup, i_lst, non_non, non_int, non_tup, non_bl, t_non, t_bl, t_int, t_tup, t_lst, ixD_tup, ixD_lst, slD_tup, slD_lst, f_lenT, f_lenL, f_tupT, f_tupL, f_lstT, f_lstL, f_int, f_abs, f_max, f_min, f_all, f_any, f_sum, f_sorted, y_int, y_bl, y_non, y_str, y_tup, y_lst, y_obj, k_ii, k_ib, k_it, k_il, k_is, k_tt, k_tl, k_ti, k_tb, k_ll, k_lt, k_bi, k_bb, k_bt, k_bl, k_nt, k_ss, k_st, k_cc, ks_nil, ks_cons, as_int, pg_cells, pg_at, pg_digits, pg_count, pg_fold, ps_at, ps_digits, ps_count, ps_fold, q_tup, q_lst, z_tt, z_ll, ea_obj, er_bl, if_true, if_false, Bool.false_eq_true, Nat.reduceAdd, Nat.reduceSub, Bool.not_true, Bool.not_false, decide_true, decide_false, ir__law_is_2, s__law_is_2, as_int, r2, sz2, wipeD, asgTg]
  rw [bind_assoc', filt_none]
  · simp -implicitDefEqProofs only [evFn, evSs, evS, evE, evT, evEs, evAnd, evOr, evAndT, evOrT, evO, evI, evOwn, R.bind_ok, R.bind_err, R.of_some, cat_ok, cat_err, f_repr, onInt_i, mem1, mem2, mem2b, se_d, se_u, se_o, sb_d, sb_u, sb_o, see, seeB, List.map_cons, List.map_nil, List.cons_append, List.nil_append, List.length_cons, List.length_nil, List.replicate_succ, List.replicate_zero, List.getElem?_cons_zero, List.getElem?_cons_succ, List.set_cons_zero, List.set_cons_succ, Option.join_some, Option.map_some, Option.map_none, Option.bind_some, setSl, tgSl, b_add, b_sub, b_mul, b_fdiv, b_mod, b_pow, b_addT, b_addL, b_mulT, b_mulL, deq_ii, deq_bb, c_eq, c_ne, c_lt, c_le, c_gt, c_ge, c_isN, c_isnN, c_isB, c_isnB, i_bl, i_non, i_int, i_str, i_tup, i_lst, non_non, non_int, non_tup, non_bl, t_non, t_bl, t_int, t_tup, t_lst, ixD_tup, ixD_lst, slD_tup, slD_lst, f_lenT, f_lenL, f_tupT, f_tupL, f_lstT, f_lstL, f_int, f_abs, f_max, f_min, f_all, f_any, f_sum, f_sorted, y_int, y_bl, y_non, y_str, y_tup, y_lst, y_obj, k_ii, k_ib, k_it, k_il, k_is, k_tt, k_tl, k_ti, k_tb, k_ll, k_lt, k_bi, k_bb, k_bt, k_bl, k_nt, k_ss, k_st, k_cc, ks_nil, ks_cons, as_int, pg_cells, pg_at, pg_digits, pg_count, pg_fold, ps_at, ps_digits, ps_count, ps_fold, q_tup, q_lst, z_tt, z_ll, ea_obj, er_bl, if_true, if_false, Bool.false_eq_true, Nat.reduceAdd, Nat.reduceSub, Bool.not_true, Bool.not_false, decide_true, decide_false, nil_lst, sz0]
  · intro d hd
    simp only [List.mem_cons, List.not_mem_nil, or_false] at hd
    rcases hd with rfl | rfl
    · simp -implicitDefEqProofs only [evFn, evSs, evS, evE, evT, evEs, evAnd, evOr, evAndT, evOrT, evO, evI, evOwn, R.bind_ok, R.bind_err, R.of_some, cat_ok, cat_err, f_repr, onInt_i, mem1, mem2, mem2b, se_d, se_u, se_o, sb_d, sb_u, sb_o, see, seeB, List.map_cons, List.map_nil, List.cons_append, List.nil_append, List.length_cons, List.length_nil, List.replicate_succ, List.replicate_zero, List.getElem?_cons_zero, List.getElem?_cons_succ, List.set_cons_zero, List.set_cons_succ, Option.join_some, Option.map_some, Option.map_none, Option.bind_some, setSl, tgSl, b_add, b_sub, b_mul, b_fdiv, b_mod, b_pow, b_addT, b_addL, b_mulT, b_mulL, deq_ii, deq_bb, c_eq, c_ne, c_lt, c_le, c_gt, c_ge, c_isN, c_isnN, c_isB, c_isnB, i_bl, i_non, i_int, i_str, i_tup, i_lst, non_non, non_int, non_tup, non_bl, t_non, t_bl, t_int, t_tup, t_lst, ixD_tup, ixD_lst, slD_tup, slD_lst, f_lenT, f_lenL, f_tupT, f_tupL, f_lstT, f_lstL, f_int, f_abs, f_max, f_min, f_all, f_any, f_sum, f_sorted, y_int, y_bl, y_non, y_str, y_tup, y_lst, y_obj, k_ii, k_ib, k_it, k_il, k_is, k_tt, k_tl, k_ti, k_tb, k_ll, k_lt, k_bi, k_bb, k_bt, k_bl, k_nt, k_ss, k_st, k_cc, ks_nil, ks_cons, as_int, pg_cells, pg_at, pg_digits, pg_count, pg_fold, ps_at, ps_digits, ps_count, ps_fold, q_tup, q_lst, z_tt, z_ll, ea_obj, er_bl, if_true, if_false, Bool.false_eq_true, Nat.reduceAdd, Nat.reduceSub, Bool.not_true, Bool.not_false, decide_true, decide_false, show idx (.tup [.int a, .int b]) (.int 0) = some (.int a) from rfl, is1_int, eq_self]
    · simp -implicitDefEqProofs only [evFn, evSs, evS, evE, evT, evEs, evAnd, evOr, evAndT, evOrT, evO, evI, evOwn, R.bind_ok, R.bind_err, R.of_some, cat_ok, cat_err, f_repr, onInt_i, mem1, mem2, mem2b, se_d, se_u, se_o, sb_d, sb_u, sb_o, see, seeB, List.map_cons, List.map_nil, List.cons_append, List.nil_append, List.length_cons, List.length_nil, List.replicate_succ, List.replicate_zero, List.getElem?_cons_zero, List.getElem?_cons_succ, List.set_cons_zero, List.set_cons_succ, Option.join_some, Option.map_some, Option.map_none, Option.bind_some, setSl, tgSl, b_add, b_sub, b_mul, b_fdiv, b_mod, b_pow, b_addT, b_addL, b_mulT, b_mulL, deq_ii, deq_bb, c_eq, c_ne, c_lt, c_le, c_gt, c_ge, c_isN, c_isnN, c_isB, c_isnB, i_bl, i_non, i_int, i_str, i_tup, i_lst, non_non, non_int, non_tup, non_bl, t_non, t_bl, t_int, t_tup, t_lst, ixD_tup, ixD_lst, slD_tup, slD_lst, f_lenT, f_lenL, f_tupT, f_tupL, f_lstT, f_lstL, f_int, f_abs, f_max, f_min, f_all, f_any, f_sum, f_sorted, y_int, y_bl, y_non, y_str, y_tup, y_lst, y_obj, k_ii, k_ib, k_it, k_il, k_is, k_tt, k_tl, k_ti, k_tb, k_ll, k_lt, k_bi, k_bb, k_bt, k_bl, k_nt, k_ss, k_st, k_cc, ks_nil, ks_cons, as_int, pg_cells, pg_at, pg_digits, pg_count, pg_fold, ps_at, ps_digits, ps_count, ps_fold, q_tup, q_lst, z_tt, z_ll, ea_obj, er_bl, if_true, if_false, Bool.false_eq_true, Nat.reduceAdd, Nat.reduceSub, Bool.not_true, Bool.not_false, decide_true, decide_false, show idx (.tup [.int a, .int b]) (.int 1) = some (.int b) from rfl, is1_int, eq_self]
end Lk91

set_option Elab.async false
set_option linter.all false
set_option maxRecDepth 100000
set_option maxHeartbeats 2000000
namespace Lk91
open PySem PySem.Spec PyProof.Rows L2 Mi RowP
theorem t_sum (n : Nat) : ((List.range (2 * n)).map t).sum = (n : Int) := by
  induction n with
  | zero => rfl
  | succ n ih =>
    rw [show 2 * (n + 1) = 2 * n + 1 + 1 by omega, List.range_succ, List.range_succ]
    simp only [List.map_append, List.map_cons, List.map_nil, List.sum_append, List.sum_cons, List.sum_nil, ih, t_even, t_odd]
    omega
theorem t_halves (k : Nat) : (((List.range (2 * 2 ^ k)).map t).drop (2 ^ k)) = (((List.range (2 * 2 ^ k)).map t).take (2 ^ k)).map (1 - ·) := by
  apply List.ext_getElem
  · simp; omega
  · intro i h1 h2
    simp only [List.length_drop, List.length_map, List.length_range] at h1
    simp only [List.getElem_drop, List.getElem_map, List.getElem_take, List.getElem_range]
    exact t_pow k i (by omega)
theorem t_four (q : Nat) : ((List.range 4).map fun n => t (4 * q + n)) = [t q, 1 - t q, 1 - t q, t q] := by
  have a : t (4 * q + 0) = t q := by rw [show 4 * q + 0 = 2 * (2 * q) by omega, t_even, t_even]
  have b : t (4 * q + 1) = 1 - t q := by rw [show 4 * q + 1 = 2 * (2 * q) + 1 by omega, t_odd, t_even]
  have c : t (4 * q + 2) = 1 - t q := by rw [show 4 * q + 2 = 2 * (2 * q + 1) by omega, t_even, t_odd]
  have d : t (4 * q + 3) = t q := by rw [show 4 * q + 3 = 2 * (2 * q + 1) + 1 by omega, t_odd, t_odd]; omega
  show [t (4 * q + 0), t (4 * q + 1), t (4 * q + 2), t (4 * q + 3)] = _
  rw [a, b, c, d]
theorem t_three (n : Nat) : ¬ (t n = t (n + 1) ∧ t n = t (n + 2)) := by
  rintro ⟨h1, h2⟩
  by_cases c : n % 2 = 0
  · have a := t_even (n / 2)
    have b := t_odd (n / 2)
    rw [show 2 * (n / 2) = n by omega] at a b
    have := t01 n; omega
  · have a := t_even ((n + 1) / 2)
    have b := t_odd ((n + 1) / 2)
    rw [show 2 * ((n + 1) / 2) = n + 1 by omega] at a b
    have := t01 (n + 1)
    rw [show n + 1 + 1 = n + 2 by omega] at b
    omega
theorem dlen3 (n : Nat) : dlenD (.lst [.tup [.int (t n), .bl true], .tup [.int (t (n + 1)), .bl true], .tup [.int (t (n + 2)), .bl true]]) = some (.int 2) := by
  have h := t_three n
  rcases t01 n with a | a <;> rcases t01 (n + 1) with b | b <;> rcases t01 (n + 2) with c | c <;> rw [a, b, c] <;> first | (exfalso; rw [a, b, c] at h; exact h ⟨rfl, rfl⟩) | rfl
theorem morse_right {p : PenS} (hp : PInv p) : ∃ p', d__law_morse_right [.pen] p = .ok (.bl true) p' ∧ PInv p' := by
  obtain ⟨v1, p1, e1, hp1, a1, a2⟩ := draw' hp (many := 1000) (by omega) (by omega)
  obtain ⟨v2, p2, ew2, hp2, b2⟩ := wide hp1 (k := 30) (by omega)
  obtain ⟨v3, p3, ew3, hp3, b3⟩ := wide hp2 (k := 40) (by omega)
  obtain ⟨d, p4, hd, e4, hp4⟩ := pick hp3 (xs := [.int v1, .int (v2 : Nat), .int (v3 : Nat)]) (by simp) (by simp)
  have hat : ∃ at_ : Nat, d = .int (at_ : Nat) ∧ at_ ≤ 10 ^ 40 := by
    simp only [List.mem_cons, List.not_mem_nil, or_false] at hd
    rcases hd with rfl | rfl | rfl
    · exact ⟨v1.toNat, by rw [Int.toNat_of_nonneg a1], by omega⟩
    · exact ⟨v2, rfl, Nat.le_trans (Nat.le_of_lt b2) (Nat.pow_le_pow_right (by decide) (by decide))⟩
    · exact ⟨v3, rfl, by omega⟩
  obtain ⟨a, rfl, ha⟩ := hat
  obtain ⟨k', p5, e5, hp5, k1, k2⟩ := draw' hp4 (many := 9) (by omega) (by omega)
  obtain ⟨k, rfl⟩ : ∃ n : Nat, k' = (n : Int) := ⟨k'.toNat, by omega⟩
  obtain ⟨q', p6, e6', hp6, q1, q2⟩ := draw' hp5 (many := 1000000000000) (by omega) (by omega)
  obtain ⟨q, rfl⟩ : ∃ n : Nat, q' = (n : Int) := ⟨q'.toNat, by omega⟩
  obtain ⟨f', p7, e7, hp7, f1, f2⟩ := draw' hp6 (many := 1000000000) (by omega) (by omega)
  obtain ⟨f, rfl⟩ : ∃ n : Nat, f' = (n : Int) := ⟨f'.toNat, by omega⟩
  have hkp : 2 ^ k ≤ 256 := by
    have : 2 ^ k ≤ 2 ^ 8 := Nat.pow_le_pow_right (by decide) (by omega)
    omega
  have kp : 1 ≤ 2 ^ k := Nat.pos_of_ne_zero (by simp)
  have m6 : ∀ x : Int, mulOk x 2 := fun x => mulOk_r (by decide)
  have m4 : ∀ x : Int, mulOk x 4 := fun x => mulOk_r (by decide)
  have m2 : ∀ x : Int, mulOk 2 x := fun x => mulOk_l (by decide)
  have d3 : ∀ x : Int, divOk x 3 := fun x => div_ok ⟨by omega, by omega⟩
  have mo : ∀ (n : Nat) p, n ≤ 10 ^ 40 → d_morse_item [.int (n : Nat)] p = .ok (.int (t n)) p := fun n p h => morse_item_i n h
  have ew2' : d__law_wide [.pen, .int 30] p1 = .ok (.int (v2 : Nat)) p2 := ew2
  have ew3' : d__law_wide [.pen, .int 40] p2 = .ok (.int (v3 : Nat)) p3 := ew3
  have big : ∀ p, d_morse_item [.int 10000000000000000000000000000000000000000] p = .ok (.int (t (10 ^ 40))) p := fun p => by
    have := mo (10 ^ 40) p (Nat.le_refl _)
    rw [show ((10 ^ 40 : Nat) : Int) = 10000000000000000000000000000000000000000 by decide] at this
    exact this
  have bigl : ∀ p, d__law_morse [.int 10000000000000000000000000000000000000000] p = .ok (.int (t (10 ^ 40))) p := fun p => by
    have := law_morse_i (p := p) (10 ^ 40)
    rw [show ((10 ^ 40 : Nat) : Int) = 10000000000000000000000000000000000000000 by decide] at this
    exact this
  have hf3 : Int.fdiv (a : Int) 3 = ((a / 3 : Nat) : Int) := by rw [Int.fdiv_eq_ediv_of_nonneg _ (by omega)]; omega
  have h1 : ∀ p, d_morse_item [.int (2 * ((a / 3 : Nat) : Int))] p = .ok (.int (t (a / 3))) p := fun p => by
    have := mo (2 * (a / 3)) p (by omega)
    rw [t_even] at this
    rw [show (2 * ((a / 3 : Nat) : Int)) = ((2 * (a / 3) : Nat) : Int) by omega]
    exact this
  have h2 : ∀ p, d_morse_item [.int (2 * ((a / 3 : Nat) : Int) + 1)] p = .ok (.int (1 - t (a / 3))) p := fun p => by
    have := mo (2 * (a / 3) + 1) p (by omega)
    rw [t_odd] at this
    rw [show (2 * ((a / 3 : Nat) : Int) + 1) = ((2 * (a / 3) + 1 : Nat) : Int) by omega]
    exact this
  have h3 : ∀ p, d_morse_item [.int ((a / 3 : Nat) : Int)] p = .ok (.int (t (a / 3))) p := fun p => mo (a / 3) p (by omega)
  have rk : rngOf 0 (k : Int) = some (rng 0 (k : Int)) := rngOf_ok (by omega) (by omega)
  have rp : rngOf 0 (2 * ((2 ^ k : Nat) : Int)) = some (rng 0 ((2 * 2 ^ k : Nat) : Int)) := by
    rw [show (2 * ((2 ^ k : Nat) : Int)) = ((2 * 2 ^ k : Nat) : Int) by omega]
    exact rngOf_ok (by omega) (by omega)
  have lp : (rng 0 ((2 * 2 ^ k : Nat) : Int)).length ≤ sizeLine := by rw [rng0_length]; exact len_line (by omega)
  have l4 : (rng 0 ((4 : Nat) : Int)).length ≤ sizeLine := by rw [rng0_length]; exact len_line (by omega)
  have l3 : (rng 0 ((3 : Nat) : Int)).length ≤ sizeLine := by rw [rng0_length]; exact len_line (by omega)
  have r4 : rngOf 0 4 = some (rng 0 ((4 : Nat) : Int)) := rngOf_ok (by omega) (by omega)
  have r3 : rngOf 0 3 = some (rng 0 ((3 : Nat) : Int)) := rngOf_ok (by omega) (by omega)
  -- the powers
  obtain ⟨ρ8, p8, f8, ⟨z8, rfl⟩, rfl⟩ := loop_idx (f := fun d ρ p => (R.of (tgSl ρ (.nm 3) d) p).bind fun ρ p => evSs S__law_morse_right (forB (headS (dropSs 5 ir__law_morse_right))) ρ p) (ds := rng 0 (k : Int))
    (I := fun i ρ p => (∃ z : Sl, ρ = [.d .pen, .d (.int (a : Nat)), .d (.int ((a / 3 : Nat) : Int)), z, .u, .u, .u, .u, .d (.int ((2 ^ i : Nat) : Int)), .d (.int (k : Nat)), .u, .u]) ∧ p = p5) (i := 0) (ρ := [.d .pen, .d (.int (a : Nat)), .d (.int ((a / 3 : Nat) : Int)), .u, .u, .u, .u, .u, .d (.int 1), .d (.int (k : Nat)), .u, .u]) (p := p5)
    (fun d hd i ρ p hi => by
      obtain ⟨⟨z, rfl⟩, rfl⟩ := hi
      refine ⟨_, p, ?_, ⟨.d d, rfl⟩, rfl⟩
      simp -implicitDefEqProofs only [evFn, evSs, evS, evE, evT, evEs, evAnd, evOr, evAndT, evOrT, evO, evI, evOwn, R.bind_ok, R.bind_err, R.of_some, cat_ok, cat_err, f_repr, onInt_i, mem1, mem2, mem2b, se_d, se_u, se_o, sb_d, sb_u, sb_o, see, seeB, List.map_cons, List.map_nil, List.cons_append, List.nil_append, List.length_cons, List.length_nil, List.replicate_succ, List.replicate_zero, List.getElem?_cons_zero, List.getElem?_cons_succ, List.set_cons_zero, List.set_cons_succ, Option.join_some, Option.map_some, Option.map_none, Option.bind_some, setSl, tgSl, b_add, b_sub, b_mul, b_fdiv, b_mod, b_pow, b_addT, b_addL, b_mulT, b_mulL, deq_ii, deq_bb, c_eq, c_ne, c_lt, c_le, c_gt, c_ge, c_isN, c_isnN, c_isB, c_isnB, i_bl, i_non, i_int, i_str, i_tup, i_lst, non_non, non_int, non_tup, non_bl, t_non, t_bl, t_int, t_tup, t_lst, ixD_tup, ixD_lst, slD_tup, slD_lst, f_lenT, f_lenL, f_tupT, f_tupL, f_lstT, f_lstL, f_int, f_abs, f_max, f_min, f_all, f_any, f_sum, f_sorted, y_int, y_bl, y_non, y_str, y_tup, y_lst, y_obj, k_ii, k_ib, k_it, k_il, k_is, k_tt, k_tl, k_ti, k_tb, k_ll, k_lt, k_bi, k_bb, k_bt, k_bl, k_nt, k_ss, k_st, k_cc, ks_nil, ks_cons, as_int, pg_cells, pg_at, pg_digits, pg_count, pg_fold, ps_at, ps_digits, ps_count, ps_fold, q_tup, q_lst, z_tt, z_ll, ea_obj, er_bl, if_true, if_false, Bool.false_eq_true, Nat.reduceAdd, Nat.reduceSub, Bool.not_true, Bool.not_false, decide_true, decide_false, forB, headS, dropSs, ir__law_morse_right, s__law_morse_right, m6]
      rw [Nat.pow_succ, Int.natCast_mul]; rfl) ⟨⟨.u, rfl⟩, rfl⟩
  rw [rng0_length, Nat.zero_add] at f8
  have th := t_halves k
  have ts : ∀ n, k = n + 1 → (((List.range (2 * 2 ^ k)).map t).take (2 ^ k)).sum * 2 = ((2 ^ k : Nat) : Int) := fun n hn => by
    rw [← List.map_take, List.take_range, Nat.min_eq_left (by omega), hn, Nat.pow_succ, Nat.mul_comm, t_sum]; omega
  have tp : ∀ x : Int, decide (x = x) = true := fun x => decide_eq_true rfl
  refine ⟨p7, evFn_rt (ρ' := [.d .pen, .d (.int (a : Nat)), .d (.int ((a / 3 : Nat) : Int)), z8, .d (lW ((List.range (2 * 2 ^ k)).map t)), .d (.int ((q : Int) * 4)), .d (lW [t q, 1 - t q, 1 - t q, t q]), .d (.int (f : Nat)), .d (.int ((2 ^ k : Nat) : Int)), .d (.int (k : Nat)), .u, .u]) ?_, hp7⟩
  refine evSs_nx (ρ1 := [.d .pen, .d (.int (a : Nat)), .u, .u, .u, .u, .u, .u, .u, .u, .u, .u]) (p1 := p4) (by
    simp -implicitDefEqProofs only [evFn, evSs, evS, evE, evT, evEs, evAnd, evOr, evAndT, evOrT, evO, evI, evOwn, R.bind_ok, R.bind_err, R.of_some, cat_ok, cat_err, f_repr, onInt_i, mem1, mem2, mem2b, se_d, se_u, se_o, sb_d, sb_u, sb_o, see, seeB, List.map_cons, List.map_nil, List.cons_append, List.nil_append, List.length_cons, List.length_nil, List.replicate_succ, List.replicate_zero, List.getElem?_cons_zero, List.getElem?_cons_succ, List.set_cons_zero, List.set_cons_succ, Option.join_some, Option.map_some, Option.map_none, Option.bind_some, setSl, tgSl, b_add, b_sub, b_mul, b_fdiv, b_mod, b_pow, b_addT, b_addL, b_mulT, b_mulL, deq_ii, deq_bb, c_eq, c_ne, c_lt, c_le, c_gt, c_ge, c_isN, c_isnN, c_isB, c_isnB, i_bl, i_non, i_int, i_str, i_tup, i_lst, non_non, non_int, non_tup, non_bl, t_non, t_bl, t_int, t_tup, t_lst, ixD_tup, ixD_lst, slD_tup, slD_lst, f_lenT, f_lenL, f_tupT, f_tupL, f_lstT, f_lstL, f_int, f_abs, f_max, f_min, f_all, f_any, f_sum, f_sorted, y_int, y_bl, y_non, y_str, y_tup, y_lst, y_obj, k_ii, k_ib, k_it, k_il, k_is, k_tt, k_tl, k_ti, k_tb, k_ll, k_lt, k_bi, k_bb, k_bt, k_bl, k_nt, k_ss, k_st, k_cc, ks_nil, ks_cons, as_int, pg_cells, pg_at, pg_digits, pg_count, pg_fold, ps_at, ps_digits, ps_count, ps_fold, q_tup, q_lst, z_tt, z_ll, ea_obj, er_bl, if_true, if_false, Bool.false_eq_true, Nat.reduceAdd, Nat.reduceSub, Bool.not_true, Bool.not_false, decide_true, decide_false, s__law_morse_right, e1, ew2', ew3', sz3, e4]) ?_
  refine evSs_nx (ρ1 := [.d .pen, .d (.int (a : Nat)), .u, .u, .u, .u, .u, .u, .u, .u, .u, .u]) (p1 := p4) (by
    simp -implicitDefEqProofs only [evFn, evSs, evS, evE, evT, evEs, evAnd, evOr, evAndT, evOrT, evO, evI, evOwn, R.bind_ok, R.bind_err, R.of_some, cat_ok, cat_err, f_repr, onInt_i, mem1, mem2, mem2b, se_d, se_u, se_o, sb_d, sb_u, sb_o, see, seeB, List.map_cons, List.map_nil, List.cons_append, List.nil_append, List.length_cons, List.length_nil, List.replicate_succ, List.replicate_zero, List.getElem?_cons_zero, List.getElem?_cons_succ, List.set_cons_zero, List.set_cons_succ, Option.join_some, Option.map_some, Option.map_none, Option.bind_some, setSl, tgSl, b_add, b_sub, b_mul, b_fdiv, b_mod, b_pow, b_addT, b_addL, b_mulT, b_mulL, deq_ii, deq_bb, c_eq, c_ne, c_lt, c_le, c_gt, c_ge, c_isN, c_isnN, c_isB, c_isnB, i_bl, i_non, i_int, i_str, i_tup, i_lst, non_non, non_int, non_tup, non_bl, t_non, t_bl, t_int, t_tup, t_lst, ixD_tup, ixD_lst, slD_tup, slD_lst, f_lenT, f_lenL, f_tupT, f_tupL, f_lstT, f_lstL, f_int, f_abs, f_max, f_min, f_all, f_any, f_sum, f_sorted, y_int, y_bl, y_non, y_str, y_tup, y_lst, y_obj, k_ii, k_ib, k_it, k_il, k_is, k_tt, k_tl, k_ti, k_tb, k_ll, k_lt, k_bi, k_bb, k_bt, k_bl, k_nt, k_ss, k_st, k_cc, ks_nil, ks_cons, as_int, pg_cells, pg_at, pg_digits, pg_count, pg_fold, ps_at, ps_digits, ps_count, ps_fold, q_tup, q_lst, z_tt, z_ll, ea_obj, er_bl, if_true, if_false, Bool.false_eq_true, Nat.reduceAdd, Nat.reduceSub, Bool.not_true, Bool.not_false, decide_true, decide_false, s__law_morse_right, mo a _ ha, law_morse_i a, cp40, e40, big, bigl, sz2, is2_pair]) ?_
  refine evSs_nx (ρ1 := [.d .pen, .d (.int (a : Nat)), .d (.int ((a / 3 : Nat) : Int)), .u, .u, .u, .u, .u, .u, .u, .u, .u]) (p1 := p4) (by
    simp -implicitDefEqProofs only [evFn, evSs, evS, evE, evT, evEs, evAnd, evOr, evAndT, evOrT, evO, evI, evOwn, R.bind_ok, R.bind_err, R.of_some, cat_ok, cat_err, f_repr, onInt_i, mem1, mem2, mem2b, se_d, se_u, se_o, sb_d, sb_u, sb_o, see, seeB, List.map_cons, List.map_nil, List.cons_append, List.nil_append, List.length_cons, List.length_nil, List.replicate_succ, List.replicate_zero, List.getElem?_cons_zero, List.getElem?_cons_succ, List.set_cons_zero, List.set_cons_succ, Option.join_some, Option.map_some, Option.map_none, Option.bind_some, setSl, tgSl, b_add, b_sub, b_mul, b_fdiv, b_mod, b_pow, b_addT, b_addL, b_mulT, b_mulL, deq_ii, deq_bb, c_eq, c_ne, c_lt, c_le, c_gt, c_ge, c_isN, c_isnN, c_isB, c_isnB, i_bl, i_non, i_int, i_str, i_tup, i_lst, non_non, non_int, non_tup, non_bl, t_non, t_bl, t_int, t_tup, t_lst, ixD_tup, ixD_lst, slD_tup, slD_lst, f_lenT, f_lenL, f_tupT, f_tupL, f_lstT, f_lstL, f_int, f_abs, f_max, f_min, f_all, f_any, f_sum, f_sorted, y_int, y_bl, y_non, y_str, y_tup, y_lst, y_obj, k_ii, k_ib, k_it, k_il, k_is, k_tt, k_tl, k_ti, k_tb, k_ll, k_lt, k_bi, k_bb, k_bt, k_bl, k_nt, k_ss, k_st, k_cc, ks_nil, ks_cons, as_int, pg_cells, pg_at, pg_digits, pg_count, pg_fold, ps_at, ps_digits, ps_count, ps_fold, q_tup, q_lst, z_tt, z_ll, ea_obj, er_bl, if_true, if_false, Bool.false_eq_true, Nat.reduceAdd, Nat.reduceSub, Bool.not_true, Bool.not_false, decide_true, decide_false, d3, hf3]) ?_
  refine evSs_nx (ρ1 := [.d .pen, .d (.int (a : Nat)), .d (.int ((a / 3 : Nat) : Int)), .u, .u, .u, .u, .u, .u, .u, .u, .u]) (p1 := p4) (by
    simp -implicitDefEqProofs only [evFn, evSs, evS, evE, evT, evEs, evAnd, evOr, evAndT, evOrT, evO, evI, evOwn, R.bind_ok, R.bind_err, R.of_some, cat_ok, cat_err, f_repr, onInt_i, mem1, mem2, mem2b, se_d, se_u, se_o, sb_d, sb_u, sb_o, see, seeB, List.map_cons, List.map_nil, List.cons_append, List.nil_append, List.length_cons, List.length_nil, List.replicate_succ, List.replicate_zero, List.getElem?_cons_zero, List.getElem?_cons_succ, List.set_cons_zero, List.set_cons_succ, Option.join_some, Option.map_some, Option.map_none, Option.bind_some, setSl, tgSl, b_add, b_sub, b_mul, b_fdiv, b_mod, b_pow, b_addT, b_addL, b_mulT, b_mulL, deq_ii, deq_bb, c_eq, c_ne, c_lt, c_le, c_gt, c_ge, c_isN, c_isnN, c_isB, c_isnB, i_bl, i_non, i_int, i_str, i_tup, i_lst, non_non, non_int, non_tup, non_bl, t_non, t_bl, t_int, t_tup, t_lst, ixD_tup, ixD_lst, slD_tup, slD_lst, f_lenT, f_lenL, f_tupT, f_tupL, f_lstT, f_lstL, f_int, f_abs, f_max, f_min, f_all, f_any, f_sum, f_sorted, y_int, y_bl, y_non, y_str, y_tup, y_lst, y_obj, k_ii, k_ib, k_it, k_il, k_is, k_tt, k_tl, k_ti, k_tb, k_ll, k_lt, k_bi, k_bb, k_bt, k_bl, k_nt, k_ss, k_st, k_cc, ks_nil, ks_cons, as_int, pg_cells, pg_at, pg_digits, pg_count, pg_fold, ps_at, ps_digits, ps_count, ps_fold, q_tup, q_lst, z_tt, z_ll, ea_obj, er_bl, if_true, if_false, Bool.false_eq_true, Nat.reduceAdd, Nat.reduceSub, Bool.not_true, Bool.not_false, decide_true, decide_false, s__law_morse_right, m2, h1, h2, h3, tp]) ?_
  refine evSs_nx (ρ1 := [.d .pen, .d (.int (a : Nat)), .d (.int ((a / 3 : Nat) : Int)), .u, .u, .u, .u, .u, .d (.int 1), .d (.int (k : Nat)), .u, .u]) (p1 := p8) (by
    simp -implicitDefEqProofs only [evFn, evSs, evS, evE, evT, evEs, evAnd, evOr, evAndT, evOrT, evO, evI, evOwn, R.bind_ok, R.bind_err, R.of_some, cat_ok, cat_err, f_repr, onInt_i, mem1, mem2, mem2b, se_d, se_u, se_o, sb_d, sb_u, sb_o, see, seeB, List.map_cons, List.map_nil, List.cons_append, List.nil_append, List.length_cons, List.length_nil, List.replicate_succ, List.replicate_zero, List.getElem?_cons_zero, List.getElem?_cons_succ, List.set_cons_zero, List.set_cons_succ, Option.join_some, Option.map_some, Option.map_none, Option.bind_some, setSl, tgSl, b_add, b_sub, b_mul, b_fdiv, b_mod, b_pow, b_addT, b_addL, b_mulT, b_mulL, deq_ii, deq_bb, c_eq, c_ne, c_lt, c_le, c_gt, c_ge, c_isN, c_isnN, c_isB, c_isnB, i_bl, i_non, i_int, i_str, i_tup, i_lst, non_non, non_int, non_tup, non_bl, t_non, t_bl, t_int, t_tup, t_lst, ixD_tup, ixD_lst, slD_tup, slD_lst, f_lenT, f_lenL, f_tupT, f_tupL, f_lstT, f_lstL, f_int, f_abs, f_max, f_min, f_all, f_any, f_sum, f_sorted, y_int, y_bl, y_non, y_str, y_tup, y_lst, y_obj, k_ii, k_ib, k_it, k_il, k_is, k_tt, k_tl, k_ti, k_tb, k_ll, k_lt, k_bi, k_bb, k_bt, k_bl, k_nt, k_ss, k_st, k_cc, ks_nil, ks_cons, as_int, pg_cells, pg_at, pg_digits, pg_count, pg_fold, ps_at, ps_digits, ps_count, ps_fold, q_tup, q_lst, z_tt, z_ll, ea_obj, er_bl, if_true, if_false, Bool.false_eq_true, Nat.reduceAdd, Nat.reduceSub, Bool.not_true, Bool.not_false, decide_true, decide_false, s__law_morse_right, e5]) ?_
  refine evSs_nx (ρ1 := [.d .pen, .d (.int (a : Nat)), .d (.int ((a / 3 : Nat) : Int)), z8, .u, .u, .u, .u, .d (.int ((2 ^ k : Nat) : Int)), .d (.int (k : Nat)), .u, .u]) (p1 := p8) ?_ ?_
  · rw [evS_for (ds := rng 0 (k : Int)) (p1 := p8) (by simp -implicitDefEqProofs only [evFn, evSs, evS, evE, evT, evEs, evAnd, evOr, evAndT, evOrT, evO, evI, evOwn, R.bind_ok, R.bind_err, R.of_some, cat_ok, cat_err, f_repr, onInt_i, mem1, mem2, mem2b, se_d, se_u, se_o, sb_d, sb_u, sb_o, see, seeB, List.map_cons, List.map_nil, List.cons_append, List.nil_append, List.length_cons, List.length_nil, List.replicate_succ, List.replicate_zero, List.getElem?_cons_zero, List.getElem?_cons_succ, List.set_cons_zero, List.set_cons_succ, Option.join_some, Option.map_some, Option.map_none, Option.bind_some, setSl, tgSl, b_add, b_sub, b_mul, b_fdiv, b_mod, b_pow, b_addT, b_addL, b_mulT, b_mulL, deq_ii, deq_bb, c_eq, c_ne, c_lt, c_le, c_gt, c_ge, c_isN, c_isnN, c_isB, c_isnB, i_bl, i_non, i_int, i_str, i_tup, i_lst, non_non, non_int, non_tup, non_bl, t_non, t_bl, t_int, t_tup, t_lst, ixD_tup, ixD_lst, slD_tup, slD_lst, f_lenT, f_lenL, f_tupT, f_tupL, f_lstT, f_lstL, f_int, f_abs, f_max, f_min, f_all, f_any, f_sum, f_sorted, y_int, y_bl, y_non, y_str, y_tup, y_lst, y_obj, k_ii, k_ib, k_it, k_il, k_is, k_tt, k_tl, k_ti, k_tb, k_ll, k_lt, k_bi, k_bb, k_bt, k_bl, k_nt, k_ss, k_st, k_cc, ks_nil, ks_cons, as_int, pg_cells, pg_at, pg_digits, pg_count, pg_fold, ps_at, ps_digits, ps_count, ps_fold, q_tup, q_lst, z_tt, z_ll, ea_obj, er_bl, if_true, if_false, Bool.false_eq_true, Nat.reduceAdd, Nat.reduceSub, Bool.not_true, Bool.not_false, decide_true, decide_false, as_int, rk])]
    exact f8
  generalize hK : 2 ^ k = K at *
  refine evSs_nx (ρ1 := [.d .pen, .d (.int (a : Nat)), .d (.int ((a / 3 : Nat) : Int)), z8, .d (lW ((List.range (2 * K)).map t)), .u, .u, .u, .d (.int (K : Int)), .d (.int (k : Nat)), .u, .u]) (p1 := p8) (by
    simp -implicitDefEqProofs only [evFn, evSs, evS, evE, evT, evEs, evAnd, evOr, evAndT, evOrT, evO, evI, evOwn, R.bind_ok, R.bind_err, R.of_some, cat_ok, cat_err, f_repr, onInt_i, mem1, mem2, mem2b, se_d, se_u, se_o, sb_d, sb_u, sb_o, see, seeB, List.map_cons, List.map_nil, List.cons_append, List.nil_append, List.length_cons, List.length_nil, List.replicate_succ, List.replicate_zero, List.getElem?_cons_zero, List.getElem?_cons_succ, List.set_cons_zero, List.set_cons_succ, Option.join_some, Option.map_some, Option.map_none, Option.bind_some, setSl, tgSl, b_add, b_sub, b_mul, b_fdiv, b_mod, b_pow, b_addT, b_addL, b_mulT, b_mulL, deq_ii, deq_bb, c_eq, c_ne, c_lt, c_le, c_gt, c_ge, c_isN, c_isnN, c_isB, c_isnB, i_bl, i_non, i_int, i_str, i_tup, i_lst, non_non, non_int, non_tup, non_bl, t_non, t_bl, t_int, t_tup, t_lst, ixD_tup, ixD_lst, slD_tup, slD_lst, f_lenT, f_lenL, f_tupT, f_tupL, f_lstT, f_lstL, f_int, f_abs, f_max, f_min, f_all, f_any, f_sum, f_sorted, y_int, y_bl, y_non, y_str, y_tup, y_lst, y_obj, k_ii, k_ib, k_it, k_il, k_is, k_tt, k_tl, k_ti, k_tb, k_ll, k_lt, k_bi, k_bb, k_bt, k_bl, k_nt, k_ss, k_st, k_cc, ks_nil, ks_cons, as_int, pg_cells, pg_at, pg_digits, pg_count, pg_fold, ps_at, ps_digits, ps_count, ps_fold, q_tup, q_lst, z_tt, z_ll, ea_obj, er_bl, if_true, if_false, Bool.false_eq_true, Nat.reduceAdd, Nat.reduceSub, Bool.not_true, Bool.not_false, decide_true, decide_false, s__law_morse_right, as_int, rp, lp, m2, wipeD, asgTg]
    rw [bind_assoc', map_rng (h := t)]
    · simp -implicitDefEqProofs only [evFn, evSs, evS, evE, evT, evEs, evAnd, evOr, evAndT, evOrT, evO, evI, evOwn, R.bind_ok, R.bind_err, R.of_some, cat_ok, cat_err, f_repr, onInt_i, mem1, mem2, mem2b, se_d, se_u, se_o, sb_d, sb_u, sb_o, see, seeB, List.map_cons, List.map_nil, List.cons_append, List.nil_append, List.length_cons, List.length_nil, List.replicate_succ, List.replicate_zero, List.getElem?_cons_zero, List.getElem?_cons_succ, List.set_cons_zero, List.set_cons_succ, Option.join_some, Option.map_some, Option.map_none, Option.bind_some, setSl, tgSl, b_add, b_sub, b_mul, b_fdiv, b_mod, b_pow, b_addT, b_addL, b_mulT, b_mulL, deq_ii, deq_bb, c_eq, c_ne, c_lt, c_le, c_gt, c_ge, c_isN, c_isnN, c_isB, c_isnB, i_bl, i_non, i_int, i_str, i_tup, i_lst, non_non, non_int, non_tup, non_bl, t_non, t_bl, t_int, t_tup, t_lst, ixD_tup, ixD_lst, slD_tup, slD_lst, f_lenT, f_lenL, f_tupT, f_tupL, f_lstT, f_lstL, f_int, f_abs, f_max, f_min, f_all, f_any, f_sum, f_sorted, y_int, y_bl, y_non, y_str, y_tup, y_lst, y_obj, k_ii, k_ib, k_it, k_il, k_is, k_tt, k_tl, k_ti, k_tb, k_ll, k_lt, k_bi, k_bb, k_bt, k_bl, k_nt, k_ss, k_st, k_cc, ks_nil, ks_cons, as_int, pg_cells, pg_at, pg_digits, pg_count, pg_fold, ps_at, ps_digits, ps_count, ps_fold, q_tup, q_lst, z_tt, z_ll, ea_obj, er_bl, if_true, if_false, Bool.false_eq_true, Nat.reduceAdd, Nat.reduceSub, Bool.not_true, Bool.not_false, decide_true, decide_false, fold_lW]
    · intro i hi
      simp -implicitDefEqProofs only [evFn, evSs, evS, evE, evT, evEs, evAnd, evOr, evAndT, evOrT, evO, evI, evOwn, R.bind_ok, R.bind_err, R.of_some, cat_ok, cat_err, f_repr, onInt_i, mem1, mem2, mem2b, se_d, se_u, se_o, sb_d, sb_u, sb_o, see, seeB, List.map_cons, List.map_nil, List.cons_append, List.nil_append, List.length_cons, List.length_nil, List.replicate_succ, List.replicate_zero, List.getElem?_cons_zero, List.getElem?_cons_succ, List.set_cons_zero, List.set_cons_succ, Option.join_some, Option.map_some, Option.map_none, Option.bind_some, setSl, tgSl, b_add, b_sub, b_mul, b_fdiv, b_mod, b_pow, b_addT, b_addL, b_mulT, b_mulL, deq_ii, deq_bb, c_eq, c_ne, c_lt, c_le, c_gt, c_ge, c_isN, c_isnN, c_isB, c_isnB, i_bl, i_non, i_int, i_str, i_tup, i_lst, non_non, non_int, non_tup, non_bl, t_non, t_bl, t_int, t_tup, t_lst, ixD_tup, ixD_lst, slD_tup, slD_lst, f_lenT, f_lenL, f_tupT, f_tupL, f_lstT, f_lstL, f_int, f_abs, f_max, f_min, f_all, f_any, f_sum, f_sorted, y_int, y_bl, y_non, y_str, y_tup, y_lst, y_obj, k_ii, k_ib, k_it, k_il, k_is, k_tt, k_tl, k_ti, k_tb, k_ll, k_lt, k_bi, k_bb, k_bt, k_bl, k_nt, k_ss, k_st, k_cc, ks_nil, ks_cons, as_int, pg_cells, pg_at, pg_digits, pg_count, pg_fold, ps_at, ps_digits, ps_count, ps_fold, q_tup, q_lst, z_tt, z_ll, ea_obj, er_bl, if_true, if_false, Bool.false_eq_true, Nat.reduceAdd, Nat.reduceSub, Bool.not_true, Bool.not_false, decide_true, decide_false, mo i _ (by omega)]) ?_
  have hL : ((List.range (2 * K)).map t).length = 2 * K := by simp
  refine evSs_nx (ρ1 := [.d .pen, .d (.int (a : Nat)), .d (.int ((a / 3 : Nat) : Int)), z8, .d (lW ((List.range (2 * K)).map t)), .u, .u, .u, .d (.int (K : Int)), .d (.int (k : Nat)), .u, .u]) (p1 := p8) (by
    generalize (List.range (2 * K)).map t = X at *
    have lx : ((X.take K).map D.int).length ≤ sizeLine := by rw [List.length_map]; exact len_line (by rw [List.length_take]; omega)
    simp -implicitDefEqProofs only [evFn, evSs, evS, evE, evT, evEs, evAnd, evOr, evAndT, evOrT, evO, evI, evOwn, R.bind_ok, R.bind_err, R.of_some, cat_ok, cat_err, f_repr, onInt_i, mem1, mem2, mem2b, se_d, se_u, se_o, sb_d, sb_u, sb_o, see, seeB, List.map_cons, List.map_nil, List.cons_append, List.nil_append, List.length_cons, List.length_nil, List.replicate_succ, List.replicate_zero, List.getElem?_cons_zero, List.getElem?_cons_succ, List.set_cons_zero, List.set_cons_succ, Option.join_some, Option.map_some, Option.map_none, Option.bind_some, setSl, tgSl, b_add, b_sub, b_mul, b_fdiv, b_mod, b_pow, b_addT, b_addL, b_mulT, b_mulL, deq_ii, deq_bb, c_eq, c_ne, c_lt, c_le, c_gt, c_ge, c_isN, c_isnN, c_isB, c_isnB, i_bl, i_non, i_int, i_str, i_tup, i_lst, non_non, non_int, non_tup, non_bl, t_non, t_bl, t_int, t_tup, t_lst, ixD_tup, ixD_lst, slD_tup, slD_lst, f_lenT, f_lenL, f_tupT, f_tupL, f_lstT, f_lstL, f_int, f_abs, f_max, f_min, f_all, f_any, f_sum, f_sorted, y_int, y_bl, y_non, y_str, y_tup, y_lst, y_obj, k_ii, k_ib, k_it, k_il, k_is, k_tt, k_tl, k_ti, k_tb, k_ll, k_lt, k_bi, k_bb, k_bt, k_bl, k_nt, k_ss, k_st, k_cc, ks_nil, ks_cons, as_int, pg_cells, pg_at, pg_digits, pg_count, pg_fold, ps_at, ps_digits, ps_count, ps_fold, q_tup, q_lst, z_tt, z_ll, ea_obj, er_bl, if_true, if_false, Bool.false_eq_true, Nat.reduceAdd, Nat.reduceSub, Bool.not_true, Bool.not_false, decide_true, decide_false, s__law_morse_right, as_int, sl_a, sl_b, seq_lW, lx, wipeD, asgTg]
    simp only [bind_assoc']
    rw [map_ints (h := fun v => 1 - v)]
    · by_cases h1 : 1 < K
      · have h1' : (1 : Int) < (K : Int) := by omega
        have := ts (k - 1) (by
          cases k with
          | zero => simp at hK; omega
          | succ n => omega)
        simp -implicitDefEqProofs only [evFn, evSs, evS, evE, evT, evEs, evAnd, evOr, evAndT, evOrT, evO, evI, evOwn, R.bind_ok, R.bind_err, R.of_some, cat_ok, cat_err, f_repr, onInt_i, mem1, mem2, mem2b, se_d, se_u, se_o, sb_d, sb_u, sb_o, see, seeB, List.map_cons, List.map_nil, List.cons_append, List.nil_append, List.length_cons, List.length_nil, List.replicate_succ, List.replicate_zero, List.getElem?_cons_zero, List.getElem?_cons_succ, List.set_cons_zero, List.set_cons_succ, Option.join_some, Option.map_some, Option.map_none, Option.bind_some, setSl, tgSl, b_add, b_sub, b_mul, b_fdiv, b_mod, b_pow, b_addT, b_addL, b_mulT, b_mulL, deq_ii, deq_bb, c_eq, c_ne, c_lt, c_le, c_gt, c_ge, c_isN, c_isnN, c_isB, c_isnB, i_bl, i_non, i_int, i_str, i_tup, i_lst, non_non, non_int, non_tup, non_bl, t_non, t_bl, t_int, t_tup, t_lst, ixD_tup, ixD_lst, slD_tup, slD_lst, f_lenT, f_lenL, f_tupT, f_tupL, f_lstT, f_lstL, f_int, f_abs, f_max, f_min, f_all, f_any, f_sum, f_sorted, y_int, y_bl, y_non, y_str, y_tup, y_lst, y_obj, k_ii, k_ib, k_it, k_il, k_is, k_tt, k_tl, k_ti, k_tb, k_ll, k_lt, k_bi, k_bb, k_bt, k_bl, k_nt, k_ss, k_st, k_cc, ks_nil, ks_cons, as_int, pg_cells, pg_at, pg_digits, pg_count, pg_fold, ps_at, ps_digits, ps_count, ps_fold, q_tup, q_lst, z_tt, z_ll, ea_obj, er_bl, if_true, if_false, Bool.false_eq_true, Nat.reduceAdd, Nat.reduceSub, Bool.not_true, Bool.not_false, decide_true, decide_false, fold_lW, deq_lI, th, h1', sum_lW, m6, this, tp]
      · have h1' : ¬ ((1 : Int) < (K : Int)) := by omega
        simp -implicitDefEqProofs only [evFn, evSs, evS, evE, evT, evEs, evAnd, evOr, evAndT, evOrT, evO, evI, evOwn, R.bind_ok, R.bind_err, R.of_some, cat_ok, cat_err, f_repr, onInt_i, mem1, mem2, mem2b, se_d, se_u, se_o, sb_d, sb_u, sb_o, see, seeB, List.map_cons, List.map_nil, List.cons_append, List.nil_append, List.length_cons, List.length_nil, List.replicate_succ, List.replicate_zero, List.getElem?_cons_zero, List.getElem?_cons_succ, List.set_cons_zero, List.set_cons_succ, Option.join_some, Option.map_some, Option.map_none, Option.bind_some, setSl, tgSl, b_add, b_sub, b_mul, b_fdiv, b_mod, b_pow, b_addT, b_addL, b_mulT, b_mulL, deq_ii, deq_bb, c_eq, c_ne, c_lt, c_le, c_gt, c_ge, c_isN, c_isnN, c_isB, c_isnB, i_bl, i_non, i_int, i_str, i_tup, i_lst, non_non, non_int, non_tup, non_bl, t_non, t_bl, t_int, t_tup, t_lst, ixD_tup, ixD_lst, slD_tup, slD_lst, f_lenT, f_lenL, f_tupT, f_tupL, f_lstT, f_lstL, f_int, f_abs, f_max, f_min, f_all, f_any, f_sum, f_sorted, y_int, y_bl, y_non, y_str, y_tup, y_lst, y_obj, k_ii, k_ib, k_it, k_il, k_is, k_tt, k_tl, k_ti, k_tb, k_ll, k_lt, k_bi, k_bb, k_bt, k_bl, k_nt, k_ss, k_st, k_cc, ks_nil, ks_cons, as_int, pg_cells, pg_at, pg_digits, pg_count, pg_fold, ps_at, ps_digits, ps_count, ps_fold, q_tup, q_lst, z_tt, z_ll, ea_obj, er_bl, if_true, if_false, Bool.false_eq_true, Nat.reduceAdd, Nat.reduceSub, Bool.not_true, Bool.not_false, decide_true, decide_false, fold_lW, deq_lI, th, h1', tp]
    · intro v hv
      simp -implicitDefEqProofs only [evFn, evSs, evS, evE, evT, evEs, evAnd, evOr, evAndT, evOrT, evO, evI, evOwn, R.bind_ok, R.bind_err, R.of_some, cat_ok, cat_err, f_repr, onInt_i, mem1, mem2, mem2b, se_d, se_u, se_o, sb_d, sb_u, sb_o, see, seeB, List.map_cons, List.map_nil, List.cons_append, List.nil_append, List.length_cons, List.length_nil, List.replicate_succ, List.replicate_zero, List.getElem?_cons_zero, List.getElem?_cons_succ, List.set_cons_zero, List.set_cons_succ, Option.join_some, Option.map_some, Option.map_none, Option.bind_some, setSl, tgSl, b_add, b_sub, b_mul, b_fdiv, b_mod, b_pow, b_addT, b_addL, b_mulT, b_mulL, deq_ii, deq_bb, c_eq, c_ne, c_lt, c_le, c_gt, c_ge, c_isN, c_isnN, c_isB, c_isnB, i_bl, i_non, i_int, i_str, i_tup, i_lst, non_non, non_int, non_tup, non_bl, t_non, t_bl, t_int, t_tup, t_lst, ixD_tup, ixD_lst, slD_tup, slD_lst, f_lenT, f_lenL, f_tupT, f_tupL, f_lstT, f_lstL, f_int, f_abs, f_max, f_min, f_all, f_any, f_sum, f_sorted, y_int, y_bl, y_non, y_str, y_tup, y_lst, y_obj, k_ii, k_ib, k_it, k_il, k_is, k_tt, k_tl, k_ti, k_tb, k_ll, k_lt, k_bi, k_bb, k_bt, k_bl, k_nt, k_ss, k_st, k_cc, ks_nil, ks_cons, as_int, pg_cells, pg_at, pg_digits, pg_count, pg_fold, ps_at, ps_digits, ps_count, ps_fold, q_tup, q_lst, z_tt, z_ll, ea_obj, er_bl, if_true, if_false, Bool.false_eq_true, Nat.reduceAdd, Nat.reduceSub, Bool.not_true, Bool.not_false, decide_true, decide_false]) ?_
  refine evSs_nx (ρ1 := [.d .pen, .d (.int (a : Nat)), .d (.int ((a / 3 : Nat) : Int)), z8, .d (lW ((List.range (2 * K)).map t)), .d (.int ((q : Int) * 4)), .u, .u, .d (.int (K : Int)), .d (.int (k : Nat)), .u, .u]) (p1 := p6) (by
    simp -implicitDefEqProofs only [evFn, evSs, evS, evE, evT, evEs, evAnd, evOr, evAndT, evOrT, evO, evI, evOwn, R.bind_ok, R.bind_err, R.of_some, cat_ok, cat_err, f_repr, onInt_i, mem1, mem2, mem2b, se_d, se_u, se_o, sb_d, sb_u, sb_o, see, seeB, List.map_cons, List.map_nil, List.cons_append, List.nil_append, List.length_cons, List.length_nil, List.replicate_succ, List.replicate_zero, List.getElem?_cons_zero, List.getElem?_cons_succ, List.set_cons_zero, List.set_cons_succ, Option.join_some, Option.map_some, Option.map_none, Option.bind_some, setSl, tgSl, b_add, b_sub, b_mul, b_fdiv, b_mod, b_pow, b_addT, b_addL, b_mulT, b_mulL, deq_ii, deq_bb, c_eq, c_ne, c_lt, c_le, c_gt, c_ge, c_isN, c_isnN, c_isB, c_isnB, i_bl, i_non, i_int, i_str, i_tup, i_lst, non_non, non_int, non_tup, non_bl, t_non, t_bl, t_int, t_tup, t_lst, ixD_tup, ixD_lst, slD_tup, slD_lst, f_lenT, f_lenL, f_tupT, f_tupL, f_lstT, f_lstL, f_int, f_abs, f_max, f_min, f_all, f_any, f_sum, f_sorted, y_int, y_bl, y_non, y_str, y_tup, y_lst, y_obj, k_ii, k_ib, k_it, k_il, k_is, k_tt, k_tl, k_ti, k_tb, k_ll, k_lt, k_bi, k_bb, k_bt, k_bl, k_nt, k_ss, k_st, k_cc, ks_nil, ks_cons, as_int, pg_cells, pg_at, pg_digits, pg_count, pg_fold, ps_at, ps_digits, ps_count, ps_fold, q_tup, q_lst, z_tt, z_ll, ea_obj, er_bl, if_true, if_false, Bool.false_eq_true, Nat.reduceAdd, Nat.reduceSub, Bool.not_true, Bool.not_false, decide_true, decide_false, s__law_morse_right, cp12, e12, e6', m4]) ?_
  have tf := t_four q
  refine evSs_nx (ρ1 := [.d .pen, .d (.int (a : Nat)), .d (.int ((a / 3 : Nat) : Int)), z8, .d (lW ((List.range (2 * K)).map t)), .d (.int ((q : Int) * 4)), .d (lW [t q, 1 - t q, 1 - t q, t q]), .u, .d (.int (K : Int)), .d (.int (k : Nat)), .u, .u]) (p1 := p6) (by
    simp -implicitDefEqProofs only [evFn, evSs, evS, evE, evT, evEs, evAnd, evOr, evAndT, evOrT, evO, evI, evOwn, R.bind_ok, R.bind_err, R.of_some, cat_ok, cat_err, f_repr, onInt_i, mem1, mem2, mem2b, se_d, se_u, se_o, sb_d, sb_u, sb_o, see, seeB, List.map_cons, List.map_nil, List.cons_append, List.nil_append, List.length_cons, List.length_nil, List.replicate_succ, List.replicate_zero, List.getElem?_cons_zero, List.getElem?_cons_succ, List.set_cons_zero, List.set_cons_succ, Option.join_some, Option.map_some, Option.map_none, Option.bind_some, setSl, tgSl, b_add, b_sub, b_mul, b_fdiv, b_mod, b_pow, b_addT, b_addL, b_mulT, b_mulL, deq_ii, deq_bb, c_eq, c_ne, c_lt, c_le, c_gt, c_ge, c_isN, c_isnN, c_isB, c_isnB, i_bl, i_non, i_int, i_str, i_tup, i_lst, non_non, non_int, non_tup, non_bl, t_non, t_bl, t_int, t_tup, t_lst, ixD_tup, ixD_lst, slD_tup, slD_lst, f_lenT, f_lenL, f_tupT, f_tupL, f_lstT, f_lstL, f_int, f_abs, f_max, f_min, f_all, f_any, f_sum, f_sorted, y_int, y_bl, y_non, y_str, y_tup, y_lst, y_obj, k_ii, k_ib, k_it, k_il, k_is, k_tt, k_tl, k_ti, k_tb, k_ll, k_lt, k_bi, k_bb, k_bt, k_bl, k_nt, k_ss, k_st, k_cc, ks_nil, ks_cons, as_int, pg_cells, pg_at, pg_digits, pg_count, pg_fold, ps_at, ps_digits, ps_count, ps_fold, q_tup, q_lst, z_tt, z_ll, ea_obj, er_bl, if_true, if_false, Bool.false_eq_true, Nat.reduceAdd, Nat.reduceSub, Bool.not_true, Bool.not_false, decide_true, decide_false, s__law_morse_right, as_int, r4, l4, wipeD, asgTg]
    rw [bind_assoc', map_rng (h := fun n => t (4 * q + n)), tf]
    · simp -implicitDefEqProofs only [evFn, evSs, evS, evE, evT, evEs, evAnd, evOr, evAndT, evOrT, evO, evI, evOwn, R.bind_ok, R.bind_err, R.of_some, cat_ok, cat_err, f_repr, onInt_i, mem1, mem2, mem2b, se_d, se_u, se_o, sb_d, sb_u, sb_o, see, seeB, List.map_cons, List.map_nil, List.cons_append, List.nil_append, List.length_cons, List.length_nil, List.replicate_succ, List.replicate_zero, List.getElem?_cons_zero, List.getElem?_cons_succ, List.set_cons_zero, List.set_cons_succ, Option.join_some, Option.map_some, Option.map_none, Option.bind_some, setSl, tgSl, b_add, b_sub, b_mul, b_fdiv, b_mod, b_pow, b_addT, b_addL, b_mulT, b_mulL, deq_ii, deq_bb, c_eq, c_ne, c_lt, c_le, c_gt, c_ge, c_isN, c_isnN, c_isB, c_isnB, i_bl, i_non, i_int, i_str, i_tup, i_lst, non_non, non_int, non_tup, non_bl, t_non, t_bl, t_int, t_tup, t_lst, ixD_tup, ixD_lst, slD_tup, slD_lst, f_lenT, f_lenL, f_tupT, f_tupL, f_lstT, f_lstL, f_int, f_abs, f_max, f_min, f_all, f_any, f_sum, f_sorted, y_int, y_bl, y_non, y_str, y_tup, y_lst, y_obj, k_ii, k_ib, k_it, k_il, k_is, k_tt, k_tl, k_ti, k_tb, k_ll, k_lt, k_bi, k_bb, k_bt, k_bl, k_nt, k_ss, k_st, k_cc, ks_nil, ks_cons, as_int, pg_cells, pg_at, pg_digits, pg_count, pg_fold, ps_at, ps_digits, ps_count, ps_fold, q_tup, q_lst, z_tt, z_ll, ea_obj, er_bl, if_true, if_false, Bool.false_eq_true, Nat.reduceAdd, Nat.reduceSub, Bool.not_true, Bool.not_false, decide_true, decide_false, fold_lW]; rfl
    · intro i hi
      have := mo (4 * q + i) p6 (by omega)
      rw [show ((4 * q + i : Nat) : Int) = (q : Int) * 4 + (i : Int) by omega] at this
      simp -implicitDefEqProofs only [evFn, evSs, evS, evE, evT, evEs, evAnd, evOr, evAndT, evOrT, evO, evI, evOwn, R.bind_ok, R.bind_err, R.of_some, cat_ok, cat_err, f_repr, onInt_i, mem1, mem2, mem2b, se_d, se_u, se_o, sb_d, sb_u, sb_o, see, seeB, List.map_cons, List.map_nil, List.cons_append, List.nil_append, List.length_cons, List.length_nil, List.replicate_succ, List.replicate_zero, List.getElem?_cons_zero, List.getElem?_cons_succ, List.set_cons_zero, List.set_cons_succ, Option.join_some, Option.map_some, Option.map_none, Option.bind_some, setSl, tgSl, b_add, b_sub, b_mul, b_fdiv, b_mod, b_pow, b_addT, b_addL, b_mulT, b_mulL, deq_ii, deq_bb, c_eq, c_ne, c_lt, c_le, c_gt, c_ge, c_isN, c_isnN, c_isB, c_isnB, i_bl, i_non, i_int, i_str, i_tup, i_lst, non_non, non_int, non_tup, non_bl, t_non, t_bl, t_int, t_tup, t_lst, ixD_tup, ixD_lst, slD_tup, slD_lst, f_lenT, f_lenL, f_tupT, f_tupL, f_lstT, f_lstL, f_int, f_abs, f_max, f_min, f_all, f_any, f_sum, f_sorted, y_int, y_bl, y_non, y_str, y_tup, y_lst, y_obj, k_ii, k_ib, k_it, k_il, k_is, k_tt, k_tl, k_ti, k_tb, k_ll, k_lt, k_bi, k_bb, k_bt, k_bl, k_nt, k_ss, k_st, k_cc, ks_nil, ks_cons, as_int, pg_cells, pg_at, pg_digits, pg_count, pg_fold, ps_at, ps_digits, ps_count, ps_fold, q_tup, q_lst, z_tt, z_ll, ea_obj, er_bl, if_true, if_false, Bool.false_eq_true, Nat.reduceAdd, Nat.reduceSub, Bool.not_true, Bool.not_false, decide_true, decide_false, this]) ?_
  refine evSs_nx (ρ1 := [.d .pen, .d (.int (a : Nat)), .d (.int ((a / 3 : Nat) : Int)), z8, .d (lW ((List.range (2 * K)).map t)), .d (.int ((q : Int) * 4)), .d (lW [t q, 1 - t q, 1 - t q, t q]), .u, .d (.int (K : Int)), .d (.int (k : Nat)), .u, .u]) (p1 := p6) (by
    have c1 : decide ([t q, 1 - t q, 1 - t q, t q].sum = 2) = true := decide_eq_true (by simp only [List.sum_cons, List.sum_nil]; omega)
    have c2 : decide (t q = 1 - t q) = false := decide_eq_false (by have := t01 q; omega)
    have c3 : decide (1 - t q = t q) = false := decide_eq_false (by have := t01 q; omega)
    have i0 : idx (lW [t q, 1 - t q, 1 - t q, t q]) (.int 0) = some (.int (t q)) := rfl
    have i1 : idx (lW [t q, 1 - t q, 1 - t q, t q]) (.int 1) = some (.int (1 - t q)) := rfl
    have i2 : idx (lW [t q, 1 - t q, 1 - t q, t q]) (.int 2) = some (.int (1 - t q)) := rfl
    have i3 : idx (lW [t q, 1 - t q, 1 - t q, t q]) (.int 3) = some (.int (t q)) := rfl
    simp -implicitDefEqProofs only [evFn, evSs, evS, evE, evT, evEs, evAnd, evOr, evAndT, evOrT, evO, evI, evOwn, R.bind_ok, R.bind_err, R.of_some, cat_ok, cat_err, f_repr, onInt_i, mem1, mem2, mem2b, se_d, se_u, se_o, sb_d, sb_u, sb_o, see, seeB, List.map_cons, List.map_nil, List.cons_append, List.nil_append, List.length_cons, List.length_nil, List.replicate_succ, List.replicate_zero, List.getElem?_cons_zero, List.getElem?_cons_succ, List.set_cons_zero, List.set_cons_succ, Option.join_some, Option.map_some, Option.map_none, Option.bind_some, setSl, tgSl, b_add, b_sub, b_mul, b_fdiv, b_mod, b_pow, b_addT, b_addL, b_mulT, b_mulL, deq_ii, deq_bb, c_eq, c_ne, c_lt, c_le, c_gt, c_ge, c_isN, c_isnN, c_isB, c_isnB, i_bl, i_non, i_int, i_str, i_tup, i_lst, non_non, non_int, non_tup, non_bl, t_non, t_bl, t_int, t_tup, t_lst, ixD_tup, ixD_lst, slD_tup, slD_lst, f_lenT, f_lenL, f_tupT, f_tupL, f_lstT, f_lstL, f_int, f_abs, f_max, f_min, f_all, f_any, f_sum, f_sorted, y_int, y_bl, y_non, y_str, y_tup, y_lst, y_obj, k_ii, k_ib, k_it, k_il, k_is, k_tt, k_tl, k_ti, k_tb, k_ll, k_lt, k_bi, k_bb, k_bt, k_bl, k_nt, k_ss, k_st, k_cc, ks_nil, ks_cons, as_int, pg_cells, pg_at, pg_digits, pg_count, pg_fold, ps_at, ps_digits, ps_count, ps_fold, q_tup, q_lst, z_tt, z_ll, ea_obj, er_bl, if_true, if_false, Bool.false_eq_true, Nat.reduceAdd, Nat.reduceSub, Bool.not_true, Bool.not_false, decide_true, decide_false, sum_lW, c1, c2, c3, i0, i1, i2, i3]) ?_
  refine evSs_nx (ρ1 := [.d .pen, .d (.int (a : Nat)), .d (.int ((a / 3 : Nat) : Int)), z8, .d (lW ((List.range (2 * K)).map t)), .d (.int ((q : Int) * 4)), .d (lW [t q, 1 - t q, 1 - t q, t q]), .d (.int (f : Nat)), .d (.int (K : Int)), .d (.int (k : Nat)), .u, .u]) (p1 := p7) (by
    simp -implicitDefEqProofs only [evFn, evSs, evS, evE, evT, evEs, evAnd, evOr, evAndT, evOrT, evO, evI, evOwn, R.bind_ok, R.bind_err, R.of_some, cat_ok, cat_err, f_repr, onInt_i, mem1, mem2, mem2b, se_d, se_u, se_o, sb_d, sb_u, sb_o, see, seeB, List.map_cons, List.map_nil, List.cons_append, List.nil_append, List.length_cons, List.length_nil, List.replicate_succ, List.replicate_zero, List.getElem?_cons_zero, List.getElem?_cons_succ, List.set_cons_zero, List.set_cons_succ, Option.join_some, Option.map_some, Option.map_none, Option.bind_some, setSl, tgSl, b_add, b_sub, b_mul, b_fdiv, b_mod, b_pow, b_addT, b_addL, b_mulT, b_mulL, deq_ii, deq_bb, c_eq, c_ne, c_lt, c_le, c_gt, c_ge, c_isN, c_isnN, c_isB, c_isnB, i_bl, i_non, i_int, i_str, i_tup, i_lst, non_non, non_int, non_tup, non_bl, t_non, t_bl, t_int, t_tup, t_lst, ixD_tup, ixD_lst, slD_tup, slD_lst, f_lenT, f_lenL, f_tupT, f_tupL, f_lstT, f_lstL, f_int, f_abs, f_max, f_min, f_all, f_any, f_sum, f_sorted, y_int, y_bl, y_non, y_str, y_tup, y_lst, y_obj, k_ii, k_ib, k_it, k_il, k_is, k_tt, k_tl, k_ti, k_tb, k_ll, k_lt, k_bi, k_bb, k_bt, k_bl, k_nt, k_ss, k_st, k_cc, ks_nil, ks_cons, as_int, pg_cells, pg_at, pg_digits, pg_count, pg_fold, ps_at, ps_digits, ps_count, ps_fold, q_tup, q_lst, z_tt, z_ll, ea_obj, er_bl, if_true, if_false, Bool.false_eq_true, Nat.reduceAdd, Nat.reduceSub, Bool.not_true, Bool.not_false, decide_true, decide_false, s__law_morse_right, cp9, e9, e7]) ?_
  have d3 := dlen3 f
  simp -implicitDefEqProofs only [evFn, evSs, evS, evE, evT, evEs, evAnd, evOr, evAndT, evOrT, evO, evI, evOwn, R.bind_ok, R.bind_err, R.of_some, cat_ok, cat_err, f_repr, onInt_i, mem1, mem2, mem2b, se_d, se_u, se_o, sb_d, sb_u, sb_o, see, seeB, List.map_cons, List.map_nil, List.cons_append, List.nil_append, List.length_cons, List.length_nil, List.replicate_succ, List.replicate_zero, List.getElem?_cons_zero, List.getElem?_cons_succ, List.set_cons_zero, List.set_cons_succ, Option.join_some, Option.map_some, Option.map_none, Option.bind_some, setSl, tgSl, b_add, b_sub, b_mul, b_fdiv, b_mod, b_pow, b_addT, b_addL, b_mulT, b_mulL, deq_ii, deq_bb, c_eq, c_ne, c_lt, c_le, c_gt, c_ge, c_isN, c_isnN, c_isB, c_isnB, i_bl, i_non, i_int, i_str, i_tup, i_lst, non_non, non_int, non_tup, non_bl, t_non, t_bl, t_int, t_tup, t_lst, ixD_tup, ixD_lst, slD_tup, slD_lst, f_lenT, f_lenL, f_tupT, f_tupL, f_lstT, f_lstL, f_int, f_abs, f_max, f_min, f_all, f_any, f_sum, f_sorted, y_int, y_bl, y_non, y_str, y_tup, y_lst, y_obj, k_ii, k_ib, k_it, k_il, k_is, k_tt, k_tl, k_ti, k_tb, k_ll, k_lt, k_bi, k_bb, k_bt, k_bl, k_nt, k_ss, k_st, k_cc, ks_nil, ks_cons, as_int, pg_cells, pg_at, pg_digits, pg_count, pg_fold, ps_at, ps_digits, ps_count, ps_fold, q_tup, q_lst, z_tt, z_ll, ea_obj, er_bl, if_true, if_false, Bool.false_eq_true, Nat.reduceAdd, Nat.reduceSub, Bool.not_true, Bool.not_false, decide_true, decide_false, s__law_morse_right, as_int, r3, l3, wipeD, asgTg]
  simp only [bind_assoc']
  rw [compF (g := onInt fun i => .tup [.int (t (f + i.toNat)), .bl true])]
  · rw [show (rng 0 ((3 : Nat) : Int)).filterMap (onInt fun i => .tup [.int (t (f + i.toNat)), .bl true]) = [.tup [.int (t f), .bl true], .tup [.int (t (f + 1)), .bl true], .tup [.int (t (f + 2)), .bl true]] from rfl]
    simp -implicitDefEqProofs only [evFn, evSs, evS, evE, evT, evEs, evAnd, evOr, evAndT, evOrT, evO, evI, evOwn, R.bind_ok, R.bind_err, R.of_some, cat_ok, cat_err, f_repr, onInt_i, mem1, mem2, mem2b, se_d, se_u, se_o, sb_d, sb_u, sb_o, see, seeB, List.map_cons, List.map_nil, List.cons_append, List.nil_append, List.length_cons, List.length_nil, List.replicate_succ, List.replicate_zero, List.getElem?_cons_zero, List.getElem?_cons_succ, List.set_cons_zero, List.set_cons_succ, Option.join_some, Option.map_some, Option.map_none, Option.bind_some, setSl, tgSl, b_add, b_sub, b_mul, b_fdiv, b_mod, b_pow, b_addT, b_addL, b_mulT, b_mulL, deq_ii, deq_bb, c_eq, c_ne, c_lt, c_le, c_gt, c_ge, c_isN, c_isnN, c_isB, c_isnB, i_bl, i_non, i_int, i_str, i_tup, i_lst, non_non, non_int, non_tup, non_bl, t_non, t_bl, t_int, t_tup, t_lst, ixD_tup, ixD_lst, slD_tup, slD_lst, f_lenT, f_lenL, f_tupT, f_tupL, f_lstT, f_lstL, f_int, f_abs, f_max, f_min, f_all, f_any, f_sum, f_sorted, y_int, y_bl, y_non, y_str, y_tup, y_lst, y_obj, k_ii, k_ib, k_it, k_il, k_is, k_tt, k_tl, k_ti, k_tb, k_ll, k_lt, k_bi, k_bb, k_bt, k_bl, k_nt, k_ss, k_st, k_cc, ks_nil, ks_cons, as_int, pg_cells, pg_at, pg_digits, pg_count, pg_fold, ps_at, ps_digits, ps_count, ps_fold, q_tup, q_lst, z_tt, z_ll, ea_obj, er_bl, if_true, if_false, Bool.false_eq_true, Nat.reduceAdd, Nat.reduceSub, Bool.not_true, Bool.not_false, decide_true, decide_false, d3, tp]
  · intro d hd
    obtain ⟨i, hi, rfl⟩ := mem_rng0 hd
    have := mo (f + i) p7 (by omega)
    rw [show ((f + i : Nat) : Int) = (f : Int) + (i : Int) by omega] at this
    simp -implicitDefEqProofs only [evFn, evSs, evS, evE, evT, evEs, evAnd, evOr, evAndT, evOrT, evO, evI, evOwn, R.bind_ok, R.bind_err, R.of_some, cat_ok, cat_err, f_repr, onInt_i, mem1, mem2, mem2b, se_d, se_u, se_o, sb_d, sb_u, sb_o, see, seeB, List.map_cons, List.map_nil, List.cons_append, List.nil_append, List.length_cons, List.length_nil, List.replicate_succ, List.replicate_zero, List.getElem?_cons_zero, List.getElem?_cons_succ, List.set_cons_zero, List.set_cons_succ, Option.join_some, Option.map_some, Option.map_none, Option.bind_some, setSl, tgSl, b_add, b_sub, b_mul, b_fdiv, b_mod, b_pow, b_addT, b_addL, b_mulT, b_mulL, deq_ii, deq_bb, c_eq, c_ne, c_lt, c_le, c_gt, c_ge, c_isN, c_isnN, c_isB, c_isnB, i_bl, i_non, i_int, i_str, i_tup, i_lst, non_non, non_int, non_tup, non_bl, t_non, t_bl, t_int, t_tup, t_lst, ixD_tup, ixD_lst, slD_tup, slD_lst, f_lenT, f_lenL, f_tupT, f_tupL, f_lstT, f_lstL, f_int, f_abs, f_max, f_min, f_all, f_any, f_sum, f_sorted, y_int, y_bl, y_non, y_str, y_tup, y_lst, y_obj, k_ii, k_ib, k_it, k_il, k_is, k_tt, k_tl, k_ti, k_tb, k_ll, k_lt, k_bi, k_bb, k_bt, k_bl, k_nt, k_ss, k_st, k_cc, ks_nil, ks_cons, as_int, pg_cells, pg_at, pg_digits, pg_count, pg_fold, ps_at, ps_digits, ps_count, ps_fold, q_tup, q_lst, z_tt, z_ll, ea_obj, er_bl, if_true, if_false, Bool.false_eq_true, Nat.reduceAdd, Nat.reduceSub, Bool.not_true, Bool.not_false, decide_true, decide_false, this, sz2, Int.toNat_natCast]
end Lk91

set_option Elab.async false
set_option linter.all false
set_option maxRecDepth 100000
set_option maxHeartbeats 2000000
namespace Lk91
open PySem PySem.Spec PyProof.Rows L2 Mi RowP
theorem sh_pr (x : Rw) : SeqAt.shaped (pr x).py = true := by
  unfold pr tW SeqAt.shaped
  simp only [D.py, pyAll, py_ints, PyData.canLay0, PyData.canLayAll0, lay_ints, PyData.depth, PyData.depthAll, depth_ints]
  decide
theorem deq_pr (x y : Rw) : deq (pr x) (pr y) = some (decide (x = y)) := by
  unfold deq
  rw [if_pos (by rw [sh_pr, sh_pr]; rfl)]
  unfold pr tW
  simp only [D.py, pyAll, py_ints, PyData.eqv, PyData.eqvAll, eqv_ints, Bool.and_true]
  obtain ⟨a, b⟩ := x
  obtain ⟨c, d⟩ := y
  simp only [Prod.mk.injEq, Bool.decide_and]
theorem row_eq_i {p : PenS} (x y : Rw) : d_Row___eq__ [ob x, ob y] p = .ok (.bl (decide (x = y))) p := by
  have e : deq (.tup [tW x.1, tW x.2]) (.tup [tW y.1, tW y.2]) = some (decide (x = y)) := deq_pr x y
  unfold d_Row___eq__ ob
  simp -implicitDefEqProofs only [evFn, evSs, evS, evE, evT, evEs, evAnd, evOr, evAndT, evOrT, evO, evI, evOwn, R.bind_ok, R.bind_err, R.of_some, cat_ok, cat_err, f_repr, onInt_i, mem1, mem2, mem2b, se_d, se_u, se_o, sb_d, sb_u, sb_o, see, seeB, List.map_cons, List.map_nil, List.cons_append, List.nil_append, List.length_cons, List.length_nil, List.replicate_succ, List.replicate_zero, List.getElem?_cons_zero, List.getElem?_cons_succ, List.set_cons_zero, List.set_cons_succ, Option.join_some, Option.map_some, Option.map_none, Option.bind_some, setSl, tgSl, b_add, b_sub, b_mul, b_fdiv, b_mod, b_pow, b_addT, b_addL, b_mulT, b_mulL, deq_ii, deq_bb, c_eq, c_ne, c_lt, c_le, c_gt, c_ge, c_isN, c_isnN, c_isB, c_isnB, i_bl, i_non, i_int, i_str, i_tup, i_lst, non_non, non_int, non_tup, non_bl, t_non, t_bl, t_int, t_tup, t_lst, ixD_tup, ixD_lst, slD_tup, slD_lst, f_lenT, f_lenL, f_tupT, f_tupL, f_lstT, f_lstL, f_int, f_abs, f_max, f_min, f_all, f_any, f_sum, f_sorted, y_int, y_bl, y_non, y_str, y_tup, y_lst, y_obj, k_ii, k_ib, k_it, k_il, k_is, k_tt, k_tl, k_ti, k_tb, k_ll, k_lt, k_bi, k_bb, k_bt, k_bl, k_nt, k_ss, k_st, k_cc, ks_nil, ks_cons, as_int, pg_cells, pg_at, pg_digits, pg_count, pg_fold, ps_at, ps_digits, ps_count, ps_fold, q_tup, q_lst, z_tt, z_ll, ea_obj, er_bl, if_true, if_false, Bool.false_eq_true, Nat.reduceAdd, Nat.reduceSub, Bool.not_true, Bool.not_false, decide_true, decide_false, ir_Row___eq__, s_Row___eq__, lk_a, lk_r, sz2, e]
/-! ### what stays good -/
theorem lor_in {m : Nat} (hm : 1 ≤ m) (i : Nat) : 0 ≤ lor m i ∧ lor m i ≤ (m : Int) := by
  unfold lor
  have := t01 (i + 1)
  have := t01 i
  split <;> omega
theorem lor_block {m k : Nat} (hk : 1 ≤ k) (j : Nat) (h : j + 1 < 2 ^ k) : lor m (2 ^ k + j) = (m : Int) - lor m j := by
  unfold lor
  rw [show 2 ^ k + j + 1 = 2 ^ k + (j + 1) by omega, t_pow k (j + 1) h, t_pow k j (by omega)]
  split <;> omega
theorem lor_end {m k : Nat} : lor m (2 * 2 ^ k - 1) = (m : Int) - lor m (2 ^ k - 1) + 1 := by
  have kp : 1 ≤ 2 ^ k := Nat.pos_of_ne_zero (by simp)
  have a : t (2 ^ k) = 1 := by
    have := t_pow k 0 (by omega)
    rw [Nat.add_zero, t0] at this; omega
  have b : t (2 * 2 ^ k) = 1 := by rw [t_even, a]
  have c : t (2 * 2 ^ k - 1) = 1 - t (2 ^ k - 1) := by
    rw [show 2 * 2 ^ k - 1 = 2 ^ k + (2 ^ k - 1) by omega]; exact t_pow k _ (by omega)
  unfold lor
  rw [show 2 * 2 ^ k - 1 + 1 = 2 * 2 ^ k by omega, show 2 ^ k - 1 + 1 = 2 ^ k by omega, a, b, c]
  split <;> omega
theorem blocks {m k : Nat} (hk : 1 ≤ k) (hk5 : k ≤ 5) : ((((List.range 64).map (lor m)).drop (2 ^ k)).take (2 * 2 ^ k - 1 - 2 ^ k)) = (((List.range 64).map (lor m)).take (2 ^ k - 1)).map ((m : Int) - ·) := by
  have kp : 2 ^ k ≤ 32 := by
    have : 2 ^ k ≤ 2 ^ 5 := Nat.pow_le_pow_right (by decide) hk5
    omega
  apply List.ext_getElem
  · simp; omega
  · intro i h1 h2
    simp only [List.length_take, List.length_drop, List.length_map, List.length_range] at h1
    simp only [List.getElem_drop, List.getElem_map, List.getElem_take, List.getElem_range]
    exact lor_block hk i (by omega)
/-- where the two rows part -/
theorem unl_head {m : Nat} (hm : 1 ≤ m) : ∃ u r, (List.range 64).filter (fun i => decide (lor m i ≠ item (gold m).1 (gold m).2 i)) = u :: r ∧ u < 64 ∧ item (gold m).1 (gold m).2 u ≤ lor m u := by
  have t1 : t 1 = 1 := by rw [show (1 : Nat) = 2 * 0 + 1 from rfl, t_odd, t0]; rfl
  have t2 : t 2 = 1 := by rw [show (2 : Nat) = 2 * 1 from rfl, t_even, t1]
  have r64 : List.range 64 = 0 :: 1 :: (List.range 64).drop 2 := by decide +kernel
  by_cases h : m % 2 = 0
  · have g : item (gold m).1 (gold m).2 0 = ((m / 2 : Nat) : Int) := by unfold gold; rw [if_pos h]; rfl
    have l : lor m 0 = ((m / 2 : Nat) : Int) + 1 := by unfold lor; rw [if_pos h, t1, t0]; omega
    refine ⟨0, _, by rw [r64, List.filter_cons_of_pos (by rw [g, l]; exact decide_eq_true (by omega))], by omega, by rw [g, l]; omega⟩
  · have g0 : item (gold m).1 (gold m).2 0 = ((m / 2 : Nat) : Int) + 1 := by unfold gold; rw [if_neg h]; rfl
    have g1 : item (gold m).1 (gold m).2 1 = ((m / 2 : Nat) : Int) := by unfold gold; rw [if_neg h]; rfl
    have l0 : lor m 0 = ((m / 2 : Nat) : Int) + 1 := by unfold lor; rw [if_neg h, t1]; omega
    have l1 : lor m 1 = ((m / 2 : Nat) : Int) + 1 := by unfold lor; rw [if_neg h, t2]; omega
    refine ⟨1, _, by rw [r64, List.filter_cons_of_neg (by rw [g0, l0]; simp), List.filter_cons_of_pos (by rw [g1, l1]; exact decide_eq_true (by omega))], by omega, by rw [g1, l1]; omega⟩
theorem loreti_right {p : PenS} (hp : PInv p) : ∃ p', d__law_loreti_right [.pen] p = .ok (.bl true) p' ∧ PInv p' := by
  obtain ⟨m', p1, e1, hp1, a1, a2⟩ := draw' hp (many := 20) (by omega) (by omega)
  obtain ⟨m, rfl⟩ : ∃ m : Nat, m' = (m : Int) - 1 := ⟨(m' + 1).toNat, by omega⟩
  have hm : 1 ≤ m ∧ m ≤ 20 := ⟨by omega, by omega⟩
  obtain ⟨b', p2, e2, hp2, b1, b2⟩ := draw' hp1 (many := 5) (by omega) (by omega)
  obtain ⟨b, rfl⟩ : ∃ n : Nat, b' = (n : Int) - 1 := ⟨(b' + 1).toNat, by omega⟩
  obtain ⟨x', p3, e3, hp3, x1, x2⟩ := draw' hp2 (many := 1000000000) (by omega) (by omega)
  obtain ⟨y', p4, e4, hp4, y1, y2⟩ := draw' hp3 (many := 99) (by omega) (by omega)
  obtain ⟨d, p5, hd, e5, hp5⟩ := pick hp4 (xs := [.int x', .int (1000000000 - y')]) (by simp) (by simp)
  have hat : ∃ i : Nat, d = .int (i : Nat) ∧ i ≤ 1000000000 := by
    simp only [List.mem_cons, List.not_mem_nil, or_false] at hd
    rcases hd with rfl | rfl
    · exact ⟨x'.toNat, by rw [Int.toNat_of_nonneg x1], by omega⟩
    · exact ⟨(1000000000 - y').toNat, by rw [Int.toNat_of_nonneg (by omega)], by omega⟩
  obtain ⟨i, rfl, hi⟩ := hat
  have g := gold_good hm
  have m2 : ∀ x : Int, mulOk x 2 := fun x => mulOk_r (by decide)
  have m2' : ∀ x : Int, mulOk 2 x := fun x => mulOk_l (by decide)
  have dm : ∀ p, d_golden_row [.int (m : Nat)] p = .ok (ob (gold m)) p := fun p => golden_row_i hm
  have it1 : ∀ (j : Nat) p, (if decide (Int.fmod (m : Int) 2 = 0) = true then d__law_morse [.int (j : Nat)] p else R.ok (D.int 0) p) = .ok (.int (if m % 2 = 0 then t j else 0)) p := fun j p => by
    rw [show Int.fmod (m : Int) 2 = ((m % 2 : Nat) : Int) from fm m 2 (by decide), even_i]
    by_cases h : m % 2 = 0
    · simp only [h, decide_true, if_true, law_morse_i]
    · simp only [h, decide_false, if_false, Bool.false_eq_true]
  have it2 : ∀ p, (if decide (Int.fmod (m : Int) 2 = 0) = true then R.ok (D.tup [.int ((m / 2 : Nat) : Int)]) p else R.ok (D.tup [.int (((m / 2 : Nat) : Int) + 1), .int ((m / 2 : Nat) : Int)]) p) = .ok (tW (gold m).2) p := fun p => by
    rw [show Int.fmod (m : Int) 2 = ((m % 2 : Nat) : Int) from fm m 2 (by decide), even_i]
    unfold gold
    by_cases h : m % 2 = 0
    · simp only [h, decide_true, if_true]; rfl
    · simp only [h, decide_false, if_false, Bool.false_eq_true]; rfl
  have mo1 : ∀ (j : Nat) p, d__law_morse [.int ((j : Int) + 1)] p = .ok (.int (t (j + 1))) p := fun j p => law_morse_i (j + 1)
  have ri : ∀ p, i_Row [.tup [], tW (gold m).2] p = .ok [tW (gold m).1, tW (gold m).2] p := fun p => by
    have : (gold m).1 = [] := rfl
    have z := row_ini (p := p) (x := gold m) (by have := g.2.2.2; omega) (by have := g.2.2.2; omega)
    rw [this] at z ⊢
    exact z
  have eo : ∀ x : Rw, D.obj 0 [tW x.1, tW x.2] = ob x := fun _ => rfl
  have ea : ∀ x y : Rw, eqArgs 0 (ob x) (ob y) = some [ob x, ob y] := fun _ _ => rfl
  have r64 : rngOf 0 64 = some (rng 0 ((64 : Nat) : Int)) := rngOf_ok (by omega) (by omega)
  have l64 : (rng 0 ((64 : Nat) : Int)).length ≤ sizeLine := by rw [rng0_length]; exact len_line (by omega)
  have lI : ((List.range 64).map (lor m)).length = 64 := by simp
  have lx : (((List.range 64).map (lor m)).map D.int).length ≤ sizeLine := by rw [List.length_map, lI]; exact len_line (by omega)
  have ixI : ∀ j : Nat, j < 64 → idx (lW ((List.range 64).map (lor m))) (.int (j : Nat)) = some (.int (lor m j)) := fun j hj => by
    rw [ix_lW _ (by rw [lI]; exact hj), gDm _ (by rw [lI]; exact hj), List.getElem_map, List.getElem_range]
  have ia : ∀ (j : Nat) p, d_item_at [.int (m : Nat), ob (gold m), .int (j : Nat)] p = .ok (.int (item (gold m).1 (gold m).2 j)) p := fun j p => item_at_i hm g j
  have tp : ∀ x : Int, decide (x = x) = true := fun x => decide_eq_true rfl
  obtain ⟨u, rr, hu, u64, ule⟩ := unl_head hm.1
  have bok := blocks (m := m) (k := b) (by omega) (by omega)
  have bend := lor_end (m := m) (k := b)
  have kp : 2 ^ b ≤ 32 := by
    have : 2 ^ b ≤ 2 ^ 5 := Nat.pow_le_pow_right (by decide) (by omega)
    omega
  have kp1 : 1 ≤ 2 ^ b := Nat.pos_of_ne_zero (by simp)
  have rb : rngOf 0 (1 + ((b : Int) - 1)) = some (rng 0 (b : Int)) := by
    rw [show 1 + ((b : Int) - 1) = (b : Int) by omega]; exact rngOf_ok (by omega) (by omega)
  generalize hX : (List.range 64).map (lor m) = X at *
  obtain ⟨ρ8, p8, f8, ⟨z8, rfl⟩, rfl⟩ := loop_idx (f := fun d ρ p => (R.of (tgSl ρ (.nm 5) d) p).bind fun ρ p => evSs S__law_loreti_right (forB (headS (dropSs 8 ir__law_loreti_right))) ρ p) (ds := rng 0 (b : Int))
    (I := fun i ρ p => (∃ z : Sl, ρ = [.d .pen, .d (.int (m : Nat)), .d (lW X), .d (.lst ((u :: rr).map fun (i : Nat) => D.int (i : Nat))), .d (.int ((2 ^ i : Nat) : Int)), z, .u, .d (.int ((m / 2 : Nat) : Int)), .d (ob (gold m)), .u]) ∧ p = p2) (i := 0) (ρ := [.d .pen, .d (.int (m : Nat)), .d (lW X), .d (.lst ((u :: rr).map fun (i : Nat) => D.int (i : Nat))), .d (.int 1), .u, .u, .d (.int ((m / 2 : Nat) : Int)), .d (ob (gold m)), .u]) (p := p2)
    (fun d hd i ρ p hi => by
      obtain ⟨⟨z, rfl⟩, rfl⟩ := hi
      refine ⟨_, p, ?_, ⟨.d d, rfl⟩, rfl⟩
      simp -implicitDefEqProofs only [evFn, evSs, evS, evE, evT, evEs, evAnd, evOr, evAndT, evOrT, evO, evI, evOwn, R.bind_ok, R.bind_err, R.of_some, cat_ok, cat_err, f_repr, onInt_i, mem1, mem2, mem2b, se_d, se_u, se_o, sb_d, sb_u, sb_o, see, seeB, List.map_cons, List.map_nil, List.cons_append, List.nil_append, List.length_cons, List.length_nil, List.replicate_succ, List.replicate_zero, List.getElem?_cons_zero, List.getElem?_cons_succ, List.set_cons_zero, List.set_cons_succ, Option.join_some, Option.map_some, Option.map_none, Option.bind_some, setSl, tgSl, b_add, b_sub, b_mul, b_fdiv, b_mod, b_pow, b_addT, b_addL, b_mulT, b_mulL, deq_ii, deq_bb, c_eq, c_ne, c_lt, c_le, c_gt, c_ge, c_isN, c_isnN, c_isB, c_isnB, i_bl, i_non, i_int, i_str, i_tup, i_lst, non_non, non_int, non_tup, non_bl, t_non, t_bl, t_int, t_tup, t_lst, ixD_tup, ixD_lst, slD_tup, slD_lst, f_lenT, f_lenL, f_tupT, f_tupL, f_lstT, f_lstL, f_int, f_abs, f_max, f_min, f_all, f_any, f_sum, f_sorted, y_int, y_bl, y_non, y_str, y_tup, y_lst, y_obj, k_ii, k_ib, k_it, k_il, k_is, k_tt, k_tl, k_ti, k_tb, k_ll, k_lt, k_bi, k_bb, k_bt, k_bl, k_nt, k_ss, k_st, k_cc, ks_nil, ks_cons, as_int, pg_cells, pg_at, pg_digits, pg_count, pg_fold, ps_at, ps_digits, ps_count, ps_fold, q_tup, q_lst, z_tt, z_ll, ea_obj, er_bl, if_true, if_false, Bool.false_eq_true, Nat.reduceAdd, Nat.reduceSub, Bool.not_true, Bool.not_false, decide_true, decide_false, forB, headS, dropSs, ir__law_loreti_right, s__law_loreti_right, m2]
      rw [Nat.pow_succ, Int.natCast_mul]; rfl) ⟨⟨.u, rfl⟩, rfl⟩
  rw [rng0_length, Nat.zero_add] at f8
  refine ⟨p5, evFn_rt (ρ' := [.d .pen, .d (.int (m : Nat)), .d (lW X), .d (.lst ((u :: rr).map fun (i : Nat) => D.int (i : Nat))), .d (.int ((2 ^ b : Nat) : Int)), z8, .d (.int (i : Nat)), .d (.int ((m / 2 : Nat) : Int)), .d (ob (gold m)), .u]) ?_, hp5⟩
  refine evSs_nx (ρ1 := [.d .pen, .d (.int (m : Nat)), .u, .u, .u, .u, .u, .u, .u, .u]) (p1 := p1) (by
    simp -implicitDefEqProofs only [evFn, evSs, evS, evE, evT, evEs, evAnd, evOr, evAndT, evOrT, evO, evI, evOwn, R.bind_ok, R.bind_err, R.of_some, cat_ok, cat_err, f_repr, onInt_i, mem1, mem2, mem2b, se_d, se_u, se_o, sb_d, sb_u, sb_o, see, seeB, List.map_cons, List.map_nil, List.cons_append, List.nil_append, List.length_cons, List.length_nil, List.replicate_succ, List.replicate_zero, List.getElem?_cons_zero, List.getElem?_cons_succ, List.set_cons_zero, List.set_cons_succ, Option.join_some, Option.map_some, Option.map_none, Option.bind_some, setSl, tgSl, b_add, b_sub, b_mul, b_fdiv, b_mod, b_pow, b_addT, b_addL, b_mulT, b_mulL, deq_ii, deq_bb, c_eq, c_ne, c_lt, c_le, c_gt, c_ge, c_isN, c_isnN, c_isB, c_isnB, i_bl, i_non, i_int, i_str, i_tup, i_lst, non_non, non_int, non_tup, non_bl, t_non, t_bl, t_int, t_tup, t_lst, ixD_tup, ixD_lst, slD_tup, slD_lst, f_lenT, f_lenL, f_tupT, f_tupL, f_lstT, f_lstL, f_int, f_abs, f_max, f_min, f_all, f_any, f_sum, f_sorted, y_int, y_bl, y_non, y_str, y_tup, y_lst, y_obj, k_ii, k_ib, k_it, k_il, k_is, k_tt, k_tl, k_ti, k_tb, k_ll, k_lt, k_bi, k_bb, k_bt, k_bl, k_nt, k_ss, k_st, k_cc, ks_nil, ks_cons, as_int, pg_cells, pg_at, pg_digits, pg_count, pg_fold, ps_at, ps_digits, ps_count, ps_fold, q_tup, q_lst, z_tt, z_ll, ea_obj, er_bl, if_true, if_false, Bool.false_eq_true, Nat.reduceAdd, Nat.reduceSub, Bool.not_true, Bool.not_false, decide_true, decide_false, s__law_loreti_right, e1, show (1 : Int) + ((m : Int) - 1) = (m : Int) by omega]) ?_
  refine evSs_nx (ρ1 := [.d .pen, .d (.int (m : Nat)), .u, .u, .u, .u, .u, .d (.int ((m / 2 : Nat) : Int)), .d (ob (gold m)), .u]) (p1 := p1) (by
    simp -implicitDefEqProofs only [evFn, evSs, evS, evE, evT, evEs, evAnd, evOr, evAndT, evOrT, evO, evI, evOwn, R.bind_ok, R.bind_err, R.of_some, cat_ok, cat_err, f_repr, onInt_i, mem1, mem2, mem2b, se_d, se_u, se_o, sb_d, sb_u, sb_o, see, seeB, List.map_cons, List.map_nil, List.cons_append, List.nil_append, List.length_cons, List.length_nil, List.replicate_succ, List.replicate_zero, List.getElem?_cons_zero, List.getElem?_cons_succ, List.set_cons_zero, List.set_cons_succ, Option.join_some, Option.map_some, Option.map_none, Option.bind_some, setSl, tgSl, b_add, b_sub, b_mul, b_fdiv, b_mod, b_pow, b_addT, b_addL, b_mulT, b_mulL, deq_ii, deq_bb, c_eq, c_ne, c_lt, c_le, c_gt, c_ge, c_isN, c_isnN, c_isB, c_isnB, i_bl, i_non, i_int, i_str, i_tup, i_lst, non_non, non_int, non_tup, non_bl, t_non, t_bl, t_int, t_tup, t_lst, ixD_tup, ixD_lst, slD_tup, slD_lst, f_lenT, f_lenL, f_tupT, f_tupL, f_lstT, f_lstL, f_int, f_abs, f_max, f_min, f_all, f_any, f_sum, f_sorted, y_int, y_bl, y_non, y_str, y_tup, y_lst, y_obj, k_ii, k_ib, k_it, k_il, k_is, k_tt, k_tl, k_ti, k_tb, k_ll, k_lt, k_bi, k_bb, k_bt, k_bl, k_nt, k_ss, k_st, k_cc, ks_nil, ks_cons, as_int, pg_cells, pg_at, pg_digits, pg_count, pg_fold, ps_at, ps_digits, ps_count, ps_fold, q_tup, q_lst, z_tt, z_ll, ea_obj, er_bl, if_true, if_false, Bool.false_eq_true, Nat.reduceAdd, Nat.reduceSub, Bool.not_true, Bool.not_false, decide_true, decide_false, s__law_loreti_right, fd2, d2ok, dm, sz2]) ?_
  refine evSs_nx (ρ1 := [.d .pen, .d (.int (m : Nat)), .u, .u, .u, .u, .u, .d (.int ((m / 2 : Nat) : Int)), .d (ob (gold m)), .u]) (p1 := p1) (by
    simp -implicitDefEqProofs only [evFn, evSs, evS, evE, evT, evEs, evAnd, evOr, evAndT, evOrT, evO, evI, evOwn, R.bind_ok, R.bind_err, R.of_some, cat_ok, cat_err, f_repr, onInt_i, mem1, mem2, mem2b, se_d, se_u, se_o, sb_d, sb_u, sb_o, see, seeB, List.map_cons, List.map_nil, List.cons_append, List.nil_append, List.length_cons, List.length_nil, List.replicate_succ, List.replicate_zero, List.getElem?_cons_zero, List.getElem?_cons_succ, List.set_cons_zero, List.set_cons_succ, Option.join_some, Option.map_some, Option.map_none, Option.bind_some, setSl, tgSl, b_add, b_sub, b_mul, b_fdiv, b_mod, b_pow, b_addT, b_addL, b_mulT, b_mulL, deq_ii, deq_bb, c_eq, c_ne, c_lt, c_le, c_gt, c_ge, c_isN, c_isnN, c_isB, c_isnB, i_bl, i_non, i_int, i_str, i_tup, i_lst, non_non, non_int, non_tup, non_bl, t_non, t_bl, t_int, t_tup, t_lst, ixD_tup, ixD_lst, slD_tup, slD_lst, f_lenT, f_lenL, f_tupT, f_tupL, f_lstT, f_lstL, f_int, f_abs, f_max, f_min, f_all, f_any, f_sum, f_sorted, y_int, y_bl, y_non, y_str, y_tup, y_lst, y_obj, k_ii, k_ib, k_it, k_il, k_is, k_tt, k_tl, k_ti, k_tb, k_ll, k_lt, k_bi, k_bb, k_bt, k_bl, k_nt, k_ss, k_st, k_cc, ks_nil, ks_cons, as_int, pg_cells, pg_at, pg_digits, pg_count, pg_fold, ps_at, ps_digits, ps_count, ps_fold, q_tup, q_lst, z_tt, z_ll, ea_obj, er_bl, if_true, if_false, Bool.false_eq_true, Nat.reduceAdd, Nat.reduceSub, Bool.not_true, Bool.not_false, decide_true, decide_false, s__law_loreti_right, sz0, sz1, sz2, it2, ri, eo, ea, row_eq_i, ne_eq, n2z, not_false_eq_true]) ?_
  refine evSs_nx (ρ1 := [.d .pen, .d (.int (m : Nat)), .d (lW X), .u, .u, .u, .u, .d (.int ((m / 2 : Nat) : Int)), .d (ob (gold m)), .u]) (p1 := p1) (by
    simp -implicitDefEqProofs only [evFn, evSs, evS, evE, evT, evEs, evAnd, evOr, evAndT, evOrT, evO, evI, evOwn, R.bind_ok, R.bind_err, R.of_some, cat_ok, cat_err, f_repr, onInt_i, mem1, mem2, mem2b, se_d, se_u, se_o, sb_d, sb_u, sb_o, see, seeB, List.map_cons, List.map_nil, List.cons_append, List.nil_append, List.length_cons, List.length_nil, List.replicate_succ, List.replicate_zero, List.getElem?_cons_zero, List.getElem?_cons_succ, List.set_cons_zero, List.set_cons_succ, Option.join_some, Option.map_some, Option.map_none, Option.bind_some, setSl, tgSl, b_add, b_sub, b_mul, b_fdiv, b_mod, b_pow, b_addT, b_addL, b_mulT, b_mulL, deq_ii, deq_bb, c_eq, c_ne, c_lt, c_le, c_gt, c_ge, c_isN, c_isnN, c_isB, c_isnB, i_bl, i_non, i_int, i_str, i_tup, i_lst, non_non, non_int, non_tup, non_bl, t_non, t_bl, t_int, t_tup, t_lst, ixD_tup, ixD_lst, slD_tup, slD_lst, f_lenT, f_lenL, f_tupT, f_tupL, f_lstT, f_lstL, f_int, f_abs, f_max, f_min, f_all, f_any, f_sum, f_sorted, y_int, y_bl, y_non, y_str, y_tup, y_lst, y_obj, k_ii, k_ib, k_it, k_il, k_is, k_tt, k_tl, k_ti, k_tb, k_ll, k_lt, k_bi, k_bb, k_bt, k_bl, k_nt, k_ss, k_st, k_cc, ks_nil, ks_cons, as_int, pg_cells, pg_at, pg_digits, pg_count, pg_fold, ps_at, ps_digits, ps_count, ps_fold, q_tup, q_lst, z_tt, z_ll, ea_obj, er_bl, if_true, if_false, Bool.false_eq_true, Nat.reduceAdd, Nat.reduceSub, Bool.not_true, Bool.not_false, decide_true, decide_false, s__law_loreti_right, as_int, r64, l64, wipeD, asgTg]
    rw [bind_assoc', map_rng (h := lor m)]
    · simp -implicitDefEqProofs only [evFn, evSs, evS, evE, evT, evEs, evAnd, evOr, evAndT, evOrT, evO, evI, evOwn, R.bind_ok, R.bind_err, R.of_some, cat_ok, cat_err, f_repr, onInt_i, mem1, mem2, mem2b, se_d, se_u, se_o, sb_d, sb_u, sb_o, see, seeB, List.map_cons, List.map_nil, List.cons_append, List.nil_append, List.length_cons, List.length_nil, List.replicate_succ, List.replicate_zero, List.getElem?_cons_zero, List.getElem?_cons_succ, List.set_cons_zero, List.set_cons_succ, Option.join_some, Option.map_some, Option.map_none, Option.bind_some, setSl, tgSl, b_add, b_sub, b_mul, b_fdiv, b_mod, b_pow, b_addT, b_addL, b_mulT, b_mulL, deq_ii, deq_bb, c_eq, c_ne, c_lt, c_le, c_gt, c_ge, c_isN, c_isnN, c_isB, c_isnB, i_bl, i_non, i_int, i_str, i_tup, i_lst, non_non, non_int, non_tup, non_bl, t_non, t_bl, t_int, t_tup, t_lst, ixD_tup, ixD_lst, slD_tup, slD_lst, f_lenT, f_lenL, f_tupT, f_tupL, f_lstT, f_lstL, f_int, f_abs, f_max, f_min, f_all, f_any, f_sum, f_sorted, y_int, y_bl, y_non, y_str, y_tup, y_lst, y_obj, k_ii, k_ib, k_it, k_il, k_is, k_tt, k_tl, k_ti, k_tb, k_ll, k_lt, k_bi, k_bb, k_bt, k_bl, k_nt, k_ss, k_st, k_cc, ks_nil, ks_cons, as_int, pg_cells, pg_at, pg_digits, pg_count, pg_fold, ps_at, ps_digits, ps_count, ps_fold, q_tup, q_lst, z_tt, z_ll, ea_obj, er_bl, if_true, if_false, Bool.false_eq_true, Nat.reduceAdd, Nat.reduceSub, Bool.not_true, Bool.not_false, decide_true, decide_false, fold_lW, hX]
    · intro i hi
      simp -implicitDefEqProofs only [evFn, evSs, evS, evE, evT, evEs, evAnd, evOr, evAndT, evOrT, evO, evI, evOwn, R.bind_ok, R.bind_err, R.of_some, cat_ok, cat_err, f_repr, onInt_i, mem1, mem2, mem2b, se_d, se_u, se_o, sb_d, sb_u, sb_o, see, seeB, List.map_cons, List.map_nil, List.cons_append, List.nil_append, List.length_cons, List.length_nil, List.replicate_succ, List.replicate_zero, List.getElem?_cons_zero, List.getElem?_cons_succ, List.set_cons_zero, List.set_cons_succ, Option.join_some, Option.map_some, Option.map_none, Option.bind_some, setSl, tgSl, b_add, b_sub, b_mul, b_fdiv, b_mod, b_pow, b_addT, b_addL, b_mulT, b_mulL, deq_ii, deq_bb, c_eq, c_ne, c_lt, c_le, c_gt, c_ge, c_isN, c_isnN, c_isB, c_isnB, i_bl, i_non, i_int, i_str, i_tup, i_lst, non_non, non_int, non_tup, non_bl, t_non, t_bl, t_int, t_tup, t_lst, ixD_tup, ixD_lst, slD_tup, slD_lst, f_lenT, f_lenL, f_tupT, f_tupL, f_lstT, f_lstL, f_int, f_abs, f_max, f_min, f_all, f_any, f_sum, f_sorted, y_int, y_bl, y_non, y_str, y_tup, y_lst, y_obj, k_ii, k_ib, k_it, k_il, k_is, k_tt, k_tl, k_ti, k_tb, k_ll, k_lt, k_bi, k_bb, k_bt, k_bl, k_nt, k_ss, k_st, k_cc, ks_nil, ks_cons, as_int, pg_cells, pg_at, pg_digits, pg_count, pg_fold, ps_at, ps_digits, ps_count, ps_fold, q_tup, q_lst, z_tt, z_ll, ea_obj, er_bl, if_true, if_false, Bool.false_eq_true, Nat.reduceAdd, Nat.reduceSub, Bool.not_true, Bool.not_false, decide_true, decide_false, loreti_item_i hm (show i ≤ 1000000000 by omega)]) ?_
  have lorE : ∀ j : Nat, ((m / 2 : Nat) : Int) + t (j + 1) - (if m % 2 = 0 then t j else 0) = lor m j := fun _ => rfl
  refine evSs_nx (ρ1 := [.d .pen, .d (.int (m : Nat)), .d (lW X), .u, .u, .u, .u, .d (.int ((m / 2 : Nat) : Int)), .d (ob (gold m)), .u]) (p1 := p1) (by
    simp -implicitDefEqProofs only [evFn, evSs, evS, evE, evT, evEs, evAnd, evOr, evAndT, evOrT, evO, evI, evOwn, R.bind_ok, R.bind_err, R.of_some, cat_ok, cat_err, f_repr, onInt_i, mem1, mem2, mem2b, se_d, se_u, se_o, sb_d, sb_u, sb_o, see, seeB, List.map_cons, List.map_nil, List.cons_append, List.nil_append, List.length_cons, List.length_nil, List.replicate_succ, List.replicate_zero, List.getElem?_cons_zero, List.getElem?_cons_succ, List.set_cons_zero, List.set_cons_succ, Option.join_some, Option.map_some, Option.map_none, Option.bind_some, setSl, tgSl, b_add, b_sub, b_mul, b_fdiv, b_mod, b_pow, b_addT, b_addL, b_mulT, b_mulL, deq_ii, deq_bb, c_eq, c_ne, c_lt, c_le, c_gt, c_ge, c_isN, c_isnN, c_isB, c_isnB, i_bl, i_non, i_int, i_str, i_tup, i_lst, non_non, non_int, non_tup, non_bl, t_non, t_bl, t_int, t_tup, t_lst, ixD_tup, ixD_lst, slD_tup, slD_lst, f_lenT, f_lenL, f_tupT, f_tupL, f_lstT, f_lstL, f_int, f_abs, f_max, f_min, f_all, f_any, f_sum, f_sorted, y_int, y_bl, y_non, y_str, y_tup, y_lst, y_obj, k_ii, k_ib, k_it, k_il, k_is, k_tt, k_tl, k_ti, k_tb, k_ll, k_lt, k_bi, k_bb, k_bt, k_bl, k_nt, k_ss, k_st, k_cc, ks_nil, ks_cons, as_int, pg_cells, pg_at, pg_digits, pg_count, pg_fold, ps_at, ps_digits, ps_count, ps_fold, q_tup, q_lst, z_tt, z_ll, ea_obj, er_bl, if_true, if_false, Bool.false_eq_true, Nat.reduceAdd, Nat.reduceSub, Bool.not_true, Bool.not_false, decide_true, decide_false, s__law_loreti_right, as_int, r64, l64, wipeD, asgTg]
    simp only [bind_assoc']
    rw [filt_none]
    · simp -implicitDefEqProofs only [evFn, evSs, evS, evE, evT, evEs, evAnd, evOr, evAndT, evOrT, evO, evI, evOwn, R.bind_ok, R.bind_err, R.of_some, cat_ok, cat_err, f_repr, onInt_i, mem1, mem2, mem2b, se_d, se_u, se_o, sb_d, sb_u, sb_o, see, seeB, List.map_cons, List.map_nil, List.cons_append, List.nil_append, List.length_cons, List.length_nil, List.replicate_succ, List.replicate_zero, List.getElem?_cons_zero, List.getElem?_cons_succ, List.set_cons_zero, List.set_cons_succ, Option.join_some, Option.map_some, Option.map_none, Option.bind_some, setSl, tgSl, b_add, b_sub, b_mul, b_fdiv, b_mod, b_pow, b_addT, b_addL, b_mulT, b_mulL, deq_ii, deq_bb, c_eq, c_ne, c_lt, c_le, c_gt, c_ge, c_isN, c_isnN, c_isB, c_isnB, i_bl, i_non, i_int, i_str, i_tup, i_lst, non_non, non_int, non_tup, non_bl, t_non, t_bl, t_int, t_tup, t_lst, ixD_tup, ixD_lst, slD_tup, slD_lst, f_lenT, f_lenL, f_tupT, f_tupL, f_lstT, f_lstL, f_int, f_abs, f_max, f_min, f_all, f_any, f_sum, f_sorted, y_int, y_bl, y_non, y_str, y_tup, y_lst, y_obj, k_ii, k_ib, k_it, k_il, k_is, k_tt, k_tl, k_ti, k_tb, k_ll, k_lt, k_bi, k_bb, k_bt, k_bl, k_nt, k_ss, k_st, k_cc, ks_nil, ks_cons, as_int, pg_cells, pg_at, pg_digits, pg_count, pg_fold, ps_at, ps_digits, ps_count, ps_fold, q_tup, q_lst, z_tt, z_ll, ea_obj, er_bl, if_true, if_false, Bool.false_eq_true, Nat.reduceAdd, Nat.reduceSub, Bool.not_true, Bool.not_false, decide_true, decide_false, nil_lst, sz0, seq_lW, lx]
      simp only [bind_assoc']
      rw [filt_none]
      · simp -implicitDefEqProofs only [evFn, evSs, evS, evE, evT, evEs, evAnd, evOr, evAndT, evOrT, evO, evI, evOwn, R.bind_ok, R.bind_err, R.of_some, cat_ok, cat_err, f_repr, onInt_i, mem1, mem2, mem2b, se_d, se_u, se_o, sb_d, sb_u, sb_o, see, seeB, List.map_cons, List.map_nil, List.cons_append, List.nil_append, List.length_cons, List.length_nil, List.replicate_succ, List.replicate_zero, List.getElem?_cons_zero, List.getElem?_cons_succ, List.set_cons_zero, List.set_cons_succ, Option.join_some, Option.map_some, Option.map_none, Option.bind_some, setSl, tgSl, b_add, b_sub, b_mul, b_fdiv, b_mod, b_pow, b_addT, b_addL, b_mulT, b_mulL, deq_ii, deq_bb, c_eq, c_ne, c_lt, c_le, c_gt, c_ge, c_isN, c_isnN, c_isB, c_isnB, i_bl, i_non, i_int, i_str, i_tup, i_lst, non_non, non_int, non_tup, non_bl, t_non, t_bl, t_int, t_tup, t_lst, ixD_tup, ixD_lst, slD_tup, slD_lst, f_lenT, f_lenL, f_tupT, f_tupL, f_lstT, f_lstL, f_int, f_abs, f_max, f_min, f_all, f_any, f_sum, f_sorted, y_int, y_bl, y_non, y_str, y_tup, y_lst, y_obj, k_ii, k_ib, k_it, k_il, k_is, k_tt, k_tl, k_ti, k_tb, k_ll, k_lt, k_bi, k_bb, k_bt, k_bl, k_nt, k_ss, k_st, k_cc, ks_nil, ks_cons, as_int, pg_cells, pg_at, pg_digits, pg_count, pg_fold, ps_at, ps_digits, ps_count, ps_fold, q_tup, q_lst, z_tt, z_ll, ea_obj, er_bl, if_true, if_false, Bool.false_eq_true, Nat.reduceAdd, Nat.reduceSub, Bool.not_true, Bool.not_false, decide_true, decide_false, nil_lst, sz0]
      · intro d hd
        obtain ⟨v, hv, rfl⟩ := List.mem_map.mp hd
        rw [← hX] at hv
        obtain ⟨j, _, rfl⟩ := List.mem_map.mp hv
        have q := lor_in hm.1 j
        simp -implicitDefEqProofs only [evFn, evSs, evS, evE, evT, evEs, evAnd, evOr, evAndT, evOrT, evO, evI, evOwn, R.bind_ok, R.bind_err, R.of_some, cat_ok, cat_err, f_repr, onInt_i, mem1, mem2, mem2b, se_d, se_u, se_o, sb_d, sb_u, sb_o, see, seeB, List.map_cons, List.map_nil, List.cons_append, List.nil_append, List.length_cons, List.length_nil, List.replicate_succ, List.replicate_zero, List.getElem?_cons_zero, List.getElem?_cons_succ, List.set_cons_zero, List.set_cons_succ, Option.join_some, Option.map_some, Option.map_none, Option.bind_some, setSl, tgSl, b_add, b_sub, b_mul, b_fdiv, b_mod, b_pow, b_addT, b_addL, b_mulT, b_mulL, deq_ii, deq_bb, c_eq, c_ne, c_lt, c_le, c_gt, c_ge, c_isN, c_isnN, c_isB, c_isnB, i_bl, i_non, i_int, i_str, i_tup, i_lst, non_non, non_int, non_tup, non_bl, t_non, t_bl, t_int, t_tup, t_lst, ixD_tup, ixD_lst, slD_tup, slD_lst, f_lenT, f_lenL, f_tupT, f_tupL, f_lstT, f_lstL, f_int, f_abs, f_max, f_min, f_all, f_any, f_sum, f_sorted, y_int, y_bl, y_non, y_str, y_tup, y_lst, y_obj, k_ii, k_ib, k_it, k_il, k_is, k_tt, k_tl, k_ti, k_tb, k_ll, k_lt, k_bi, k_bb, k_bt, k_bl, k_nt, k_ss, k_st, k_cc, ks_nil, ks_cons, as_int, pg_cells, pg_at, pg_digits, pg_count, pg_fold, ps_at, ps_digits, ps_count, ps_fold, q_tup, q_lst, z_tt, z_ll, ea_obj, er_bl, if_true, if_false, Bool.false_eq_true, Nat.reduceAdd, Nat.reduceSub, Bool.not_true, Bool.not_false, decide_true, decide_false, q]
    · intro d hd
      obtain ⟨j, hj, rfl⟩ := mem_rng0 hd
      simp -implicitDefEqProofs only [evFn, evSs, evS, evE, evT, evEs, evAnd, evOr, evAndT, evOrT, evO, evI, evOwn, R.bind_ok, R.bind_err, R.of_some, cat_ok, cat_err, f_repr, onInt_i, mem1, mem2, mem2b, se_d, se_u, se_o, sb_d, sb_u, sb_o, see, seeB, List.map_cons, List.map_nil, List.cons_append, List.nil_append, List.length_cons, List.length_nil, List.replicate_succ, List.replicate_zero, List.getElem?_cons_zero, List.getElem?_cons_succ, List.set_cons_zero, List.set_cons_succ, Option.join_some, Option.map_some, Option.map_none, Option.bind_some, setSl, tgSl, b_add, b_sub, b_mul, b_fdiv, b_mod, b_pow, b_addT, b_addL, b_mulT, b_mulL, deq_ii, deq_bb, c_eq, c_ne, c_lt, c_le, c_gt, c_ge, c_isN, c_isnN, c_isB, c_isnB, i_bl, i_non, i_int, i_str, i_tup, i_lst, non_non, non_int, non_tup, non_bl, t_non, t_bl, t_int, t_tup, t_lst, ixD_tup, ixD_lst, slD_tup, slD_lst, f_lenT, f_lenL, f_tupT, f_tupL, f_lstT, f_lstL, f_int, f_abs, f_max, f_min, f_all, f_any, f_sum, f_sorted, y_int, y_bl, y_non, y_str, y_tup, y_lst, y_obj, k_ii, k_ib, k_it, k_il, k_is, k_tt, k_tl, k_ti, k_tb, k_ll, k_lt, k_bi, k_bb, k_bt, k_bl, k_nt, k_ss, k_st, k_cc, ks_nil, ks_cons, as_int, pg_cells, pg_at, pg_digits, pg_count, pg_fold, ps_at, ps_digits, ps_count, ps_fold, q_tup, q_lst, z_tt, z_ll, ea_obj, er_bl, if_true, if_false, Bool.false_eq_true, Nat.reduceAdd, Nat.reduceSub, Bool.not_true, Bool.not_false, decide_true, decide_false, ixI j hj, mo1, it1, lorE, tp, ne_eq, n2z, not_false_eq_true]) ?_
  refine evSs_nx (ρ1 := [.d .pen, .d (.int (m : Nat)), .d (lW X), .d (.lst ((u :: rr).map fun (i : Nat) => D.int (i : Nat))), .u, .u, .u, .d (.int ((m / 2 : Nat) : Int)), .d (ob (gold m)), .u]) (p1 := p1) (by
    simp -implicitDefEqProofs only [evFn, evSs, evS, evE, evT, evEs, evAnd, evOr, evAndT, evOrT, evO, evI, evOwn, R.bind_ok, R.bind_err, R.of_some, cat_ok, cat_err, f_repr, onInt_i, mem1, mem2, mem2b, se_d, se_u, se_o, sb_d, sb_u, sb_o, see, seeB, List.map_cons, List.map_nil, List.cons_append, List.nil_append, List.length_cons, List.length_nil, List.replicate_succ, List.replicate_zero, List.getElem?_cons_zero, List.getElem?_cons_succ, List.set_cons_zero, List.set_cons_succ, Option.join_some, Option.map_some, Option.map_none, Option.bind_some, setSl, tgSl, b_add, b_sub, b_mul, b_fdiv, b_mod, b_pow, b_addT, b_addL, b_mulT, b_mulL, deq_ii, deq_bb, c_eq, c_ne, c_lt, c_le, c_gt, c_ge, c_isN, c_isnN, c_isB, c_isnB, i_bl, i_non, i_int, i_str, i_tup, i_lst, non_non, non_int, non_tup, non_bl, t_non, t_bl, t_int, t_tup, t_lst, ixD_tup, ixD_lst, slD_tup, slD_lst, f_lenT, f_lenL, f_tupT, f_tupL, f_lstT, f_lstL, f_int, f_abs, f_max, f_min, f_all, f_any, f_sum, f_sorted, y_int, y_bl, y_non, y_str, y_tup, y_lst, y_obj, k_ii, k_ib, k_it, k_il, k_is, k_tt, k_tl, k_ti, k_tb, k_ll, k_lt, k_bi, k_bb, k_bt, k_bl, k_nt, k_ss, k_st, k_cc, ks_nil, ks_cons, as_int, pg_cells, pg_at, pg_digits, pg_count, pg_fold, ps_at, ps_digits, ps_count, ps_fold, q_tup, q_lst, z_tt, z_ll, ea_obj, er_bl, if_true, if_false, Bool.false_eq_true, Nat.reduceAdd, Nat.reduceSub, Bool.not_true, Bool.not_false, decide_true, decide_false, s__law_loreti_right, as_int, r64, l64, wipeD, asgTg]
    simp only [bind_assoc']
    rw [filt_rng0 (c := fun i => decide (lor m i ≠ item (gold m).1 (gold m).2 i)), hu]
    · simp -implicitDefEqProofs only [evFn, evSs, evS, evE, evT, evEs, evAnd, evOr, evAndT, evOrT, evO, evI, evOwn, R.bind_ok, R.bind_err, R.of_some, cat_ok, cat_err, f_repr, onInt_i, mem1, mem2, mem2b, se_d, se_u, se_o, sb_d, sb_u, sb_o, see, seeB, List.map_cons, List.map_nil, List.cons_append, List.nil_append, List.length_cons, List.length_nil, List.replicate_succ, List.replicate_zero, List.getElem?_cons_zero, List.getElem?_cons_succ, List.set_cons_zero, List.set_cons_succ, Option.join_some, Option.map_some, Option.map_none, Option.bind_some, setSl, tgSl, b_add, b_sub, b_mul, b_fdiv, b_mod, b_pow, b_addT, b_addL, b_mulT, b_mulL, deq_ii, deq_bb, c_eq, c_ne, c_lt, c_le, c_gt, c_ge, c_isN, c_isnN, c_isB, c_isnB, i_bl, i_non, i_int, i_str, i_tup, i_lst, non_non, non_int, non_tup, non_bl, t_non, t_bl, t_int, t_tup, t_lst, ixD_tup, ixD_lst, slD_tup, slD_lst, f_lenT, f_lenL, f_tupT, f_tupL, f_lstT, f_lstL, f_int, f_abs, f_max, f_min, f_all, f_any, f_sum, f_sorted, y_int, y_bl, y_non, y_str, y_tup, y_lst, y_obj, k_ii, k_ib, k_it, k_il, k_is, k_tt, k_tl, k_ti, k_tb, k_ll, k_lt, k_bi, k_bb, k_bt, k_bl, k_nt, k_ss, k_st, k_cc, ks_nil, ks_cons, as_int, pg_cells, pg_at, pg_digits, pg_count, pg_fold, ps_at, ps_digits, ps_count, ps_fold, q_tup, q_lst, z_tt, z_ll, ea_obj, er_bl, if_true, if_false, Bool.false_eq_true, Nat.reduceAdd, Nat.reduceSub, Bool.not_true, Bool.not_false, decide_true, decide_false]
    · intro j hj
      by_cases c : lor m j = item (gold m).1 (gold m).2 j <;> simp -implicitDefEqProofs only [evFn, evSs, evS, evE, evT, evEs, evAnd, evOr, evAndT, evOrT, evO, evI, evOwn, R.bind_ok, R.bind_err, R.of_some, cat_ok, cat_err, f_repr, onInt_i, mem1, mem2, mem2b, se_d, se_u, se_o, sb_d, sb_u, sb_o, see, seeB, List.map_cons, List.map_nil, List.cons_append, List.nil_append, List.length_cons, List.length_nil, List.replicate_succ, List.replicate_zero, List.getElem?_cons_zero, List.getElem?_cons_succ, List.set_cons_zero, List.set_cons_succ, Option.join_some, Option.map_some, Option.map_none, Option.bind_some, setSl, tgSl, b_add, b_sub, b_mul, b_fdiv, b_mod, b_pow, b_addT, b_addL, b_mulT, b_mulL, deq_ii, deq_bb, c_eq, c_ne, c_lt, c_le, c_gt, c_ge, c_isN, c_isnN, c_isB, c_isnB, i_bl, i_non, i_int, i_str, i_tup, i_lst, non_non, non_int, non_tup, non_bl, t_non, t_bl, t_int, t_tup, t_lst, ixD_tup, ixD_lst, slD_tup, slD_lst, f_lenT, f_lenL, f_tupT, f_tupL, f_lstT, f_lstL, f_int, f_abs, f_max, f_min, f_all, f_any, f_sum, f_sorted, y_int, y_bl, y_non, y_str, y_tup, y_lst, y_obj, k_ii, k_ib, k_it, k_il, k_is, k_tt, k_tl, k_ti, k_tb, k_ll, k_lt, k_bi, k_bb, k_bt, k_bl, k_nt, k_ss, k_st, k_cc, ks_nil, ks_cons, as_int, pg_cells, pg_at, pg_digits, pg_count, pg_fold, ps_at, ps_digits, ps_count, ps_fold, q_tup, q_lst, z_tt, z_ll, ea_obj, er_bl, if_true, if_false, Bool.false_eq_true, Nat.reduceAdd, Nat.reduceSub, Bool.not_true, Bool.not_false, decide_true, decide_false, ixI j hj, ia, c, ne_eq, tp, not_true_eq_false, not_false_eq_true]) ?_
  refine evSs_nx (ρ1 := [.d .pen, .d (.int (m : Nat)), .d (lW X), .d (.lst ((u :: rr).map fun (i : Nat) => D.int (i : Nat))), .u, .u, .u, .d (.int ((m / 2 : Nat) : Int)), .d (ob (gold m)), .u]) (p1 := p1) (by
    have u0 : idx (.lst ((u :: rr).map fun (i : Nat) => D.int (i : Nat))) (.int 0) = some (.int (u : Nat)) := by
      rw [ixD_lst, atI_nn (by omega) (by simp only [List.length_map, List.length_cons]; omega)]; rfl
    have ne : deq (.lst ((u :: rr).map fun (i : Nat) => D.int (i : Nat))) (.lst []) = some false := by
      have := deq_lI ((u :: rr).map fun (i : Nat) => (i : Int)) []
      unfold lW at this
      rw [List.map_map] at this
      rw [show ((u :: rr).map fun (i : Nat) => D.int (i : Nat)) = (u :: rr).map (D.int ∘ fun (i : Nat) => (i : Int)) from rfl]
      exact this
    generalize (u :: rr).map (fun (i : Nat) => D.int (i : Nat)) = UU at *
    have nl : ¬ (lor m u < item (gold m).1 (gold m).2 u) := by omega
    simp -implicitDefEqProofs only [evFn, evSs, evS, evE, evT, evEs, evAnd, evOr, evAndT, evOrT, evO, evI, evOwn, R.bind_ok, R.bind_err, R.of_some, cat_ok, cat_err, f_repr, onInt_i, mem1, mem2, mem2b, se_d, se_u, se_o, sb_d, sb_u, sb_o, see, seeB, List.map_cons, List.map_nil, List.cons_append, List.nil_append, List.length_cons, List.length_nil, List.replicate_succ, List.replicate_zero, List.getElem?_cons_zero, List.getElem?_cons_succ, List.set_cons_zero, List.set_cons_succ, Option.join_some, Option.map_some, Option.map_none, Option.bind_some, setSl, tgSl, b_add, b_sub, b_mul, b_fdiv, b_mod, b_pow, b_addT, b_addL, b_mulT, b_mulL, deq_ii, deq_bb, c_eq, c_ne, c_lt, c_le, c_gt, c_ge, c_isN, c_isnN, c_isB, c_isnB, i_bl, i_non, i_int, i_str, i_tup, i_lst, non_non, non_int, non_tup, non_bl, t_non, t_bl, t_int, t_tup, t_lst, ixD_tup, ixD_lst, slD_tup, slD_lst, f_lenT, f_lenL, f_tupT, f_tupL, f_lstT, f_lstL, f_int, f_abs, f_max, f_min, f_all, f_any, f_sum, f_sorted, y_int, y_bl, y_non, y_str, y_tup, y_lst, y_obj, k_ii, k_ib, k_it, k_il, k_is, k_tt, k_tl, k_ti, k_tb, k_ll, k_lt, k_bi, k_bb, k_bt, k_bl, k_nt, k_ss, k_st, k_cc, ks_nil, ks_cons, as_int, pg_cells, pg_at, pg_digits, pg_count, pg_fold, ps_at, ps_digits, ps_count, ps_fold, q_tup, q_lst, z_tt, z_ll, ea_obj, er_bl, if_true, if_false, Bool.false_eq_true, Nat.reduceAdd, Nat.reduceSub, Bool.not_true, Bool.not_false, decide_true, decide_false, s__law_loreti_right, sz0, ne, u0, ixI u u64, ia, nl]) ?_
  refine evSs_nx (ρ1 := [.d .pen, .d (.int (m : Nat)), .d (lW X), .d (.lst ((u :: rr).map fun (i : Nat) => D.int (i : Nat))), .d (.int 1), .u, .u, .d (.int ((m / 2 : Nat) : Int)), .d (ob (gold m)), .u]) (p1 := p1) (by
    simp -implicitDefEqProofs only [evFn, evSs, evS, evE, evT, evEs, evAnd, evOr, evAndT, evOrT, evO, evI, evOwn, R.bind_ok, R.bind_err, R.of_some, cat_ok, cat_err, f_repr, onInt_i, mem1, mem2, mem2b, se_d, se_u, se_o, sb_d, sb_u, sb_o, see, seeB, List.map_cons, List.map_nil, List.cons_append, List.nil_append, List.length_cons, List.length_nil, List.replicate_succ, List.replicate_zero, List.getElem?_cons_zero, List.getElem?_cons_succ, List.set_cons_zero, List.set_cons_succ, Option.join_some, Option.map_some, Option.map_none, Option.bind_some, setSl, tgSl, b_add, b_sub, b_mul, b_fdiv, b_mod, b_pow, b_addT, b_addL, b_mulT, b_mulL, deq_ii, deq_bb, c_eq, c_ne, c_lt, c_le, c_gt, c_ge, c_isN, c_isnN, c_isB, c_isnB, i_bl, i_non, i_int, i_str, i_tup, i_lst, non_non, non_int, non_tup, non_bl, t_non, t_bl, t_int, t_tup, t_lst, ixD_tup, ixD_lst, slD_tup, slD_lst, f_lenT, f_lenL, f_tupT, f_tupL, f_lstT, f_lstL, f_int, f_abs, f_max, f_min, f_all, f_any, f_sum, f_sorted, y_int, y_bl, y_non, y_str, y_tup, y_lst, y_obj, k_ii, k_ib, k_it, k_il, k_is, k_tt, k_tl, k_ti, k_tb, k_ll, k_lt, k_bi, k_bb, k_bt, k_bl, k_nt, k_ss, k_st, k_cc, ks_nil, ks_cons, as_int, pg_cells, pg_at, pg_digits, pg_count, pg_fold, ps_at, ps_digits, ps_count, ps_fold, q_tup, q_lst, z_tt, z_ll, ea_obj, er_bl, if_true, if_false, Bool.false_eq_true, Nat.reduceAdd, Nat.reduceSub, Bool.not_true, Bool.not_false, decide_true, decide_false]) ?_
  refine evSs_nx (ρ1 := [.d .pen, .d (.int (m : Nat)), .d (lW X), .d (.lst ((u :: rr).map fun (i : Nat) => D.int (i : Nat))), .d (.int ((2 ^ b : Nat) : Int)), z8, .u, .d (.int ((m / 2 : Nat) : Int)), .d (ob (gold m)), .u]) (p1 := p8) ?_ ?_
  · rw [evS_for (ds := rng 0 (b : Int)) (p1 := p8) (by simp -implicitDefEqProofs only [evFn, evSs, evS, evE, evT, evEs, evAnd, evOr, evAndT, evOrT, evO, evI, evOwn, R.bind_ok, R.bind_err, R.of_some, cat_ok, cat_err, f_repr, onInt_i, mem1, mem2, mem2b, se_d, se_u, se_o, sb_d, sb_u, sb_o, see, seeB, List.map_cons, List.map_nil, List.cons_append, List.nil_append, List.length_cons, List.length_nil, List.replicate_succ, List.replicate_zero, List.getElem?_cons_zero, List.getElem?_cons_succ, List.set_cons_zero, List.set_cons_succ, Option.join_some, Option.map_some, Option.map_none, Option.bind_some, setSl, tgSl, b_add, b_sub, b_mul, b_fdiv, b_mod, b_pow, b_addT, b_addL, b_mulT, b_mulL, deq_ii, deq_bb, c_eq, c_ne, c_lt, c_le, c_gt, c_ge, c_isN, c_isnN, c_isB, c_isnB, i_bl, i_non, i_int, i_str, i_tup, i_lst, non_non, non_int, non_tup, non_bl, t_non, t_bl, t_int, t_tup, t_lst, ixD_tup, ixD_lst, slD_tup, slD_lst, f_lenT, f_lenL, f_tupT, f_tupL, f_lstT, f_lstL, f_int, f_abs, f_max, f_min, f_all, f_any, f_sum, f_sorted, y_int, y_bl, y_non, y_str, y_tup, y_lst, y_obj, k_ii, k_ib, k_it, k_il, k_is, k_tt, k_tl, k_ti, k_tb, k_ll, k_lt, k_bi, k_bb, k_bt, k_bl, k_nt, k_ss, k_st, k_cc, ks_nil, ks_cons, as_int, pg_cells, pg_at, pg_digits, pg_count, pg_fold, ps_at, ps_digits, ps_count, ps_fold, q_tup, q_lst, z_tt, z_ll, ea_obj, er_bl, if_true, if_false, Bool.false_eq_true, Nat.reduceAdd, Nat.reduceSub, Bool.not_true, Bool.not_false, decide_true, decide_false, s__law_loreti_right, as_int, e2, rb])]
    exact f8
  generalize hU : (u :: rr).map (fun (i : Nat) => D.int (i : Nat)) = UU at *
  have sb1 : ∀ hi : Int, hi = ((2 * 2 ^ b - 1 : Nat) : Int) → slc (lW X) (some ((2 ^ b : Nat) : Int)) (some hi) = some (lW ((X.drop (2 ^ b)).take (2 * 2 ^ b - 1 - 2 ^ b))) := fun hi h => by rw [h, sl_ab]
  have sb2 : ∀ hi : Int, hi = ((2 ^ b - 1 : Nat) : Int) → slc (lW X) none (some hi) = some (lW (X.take (2 ^ b - 1))) := fun hi h => by rw [h, sl_b]
  have sb3 : idx (lW X) (.int (2 * ((2 ^ b : Nat) : Int) - 1)) = some (.int (lor m (2 * 2 ^ b - 1))) := by
    rw [show 2 * ((2 ^ b : Nat) : Int) - 1 = ((2 * 2 ^ b - 1 : Nat) : Int) by omega]; exact ixI _ (by omega)
  have sb4 : idx (lW X) (.int (((2 ^ b : Nat) : Int) - 1)) = some (.int (lor m (2 ^ b - 1))) := by
    rw [show ((2 ^ b : Nat) : Int) - 1 = ((2 ^ b - 1 : Nat) : Int) by omega]; exact ixI _ (by omega)
  generalize hK : 2 ^ b = K at *
  have s1 := sb1 (2 * (K : Int) - 1) (by omega)
  have s2 := sb2 ((K : Int) - 1) (by omega)
  refine evSs_nx (ρ1 := [.d .pen, .d (.int (m : Nat)), .d (lW X), .d (.lst UU), .d (.int (K : Int)), z8, .u, .d (.int ((m / 2 : Nat) : Int)), .d (ob (gold m)), .u]) (p1 := p8) (by
    have lt : ((X.take (K - 1)).map D.int).length ≤ sizeLine := by rw [List.length_map]; exact len_line (by rw [List.length_take]; omega)
    simp -implicitDefEqProofs only [evFn, evSs, evS, evE, evT, evEs, evAnd, evOr, evAndT, evOrT, evO, evI, evOwn, R.bind_ok, R.bind_err, R.of_some, cat_ok, cat_err, f_repr, onInt_i, mem1, mem2, mem2b, se_d, se_u, se_o, sb_d, sb_u, sb_o, see, seeB, List.map_cons, List.map_nil, List.cons_append, List.nil_append, List.length_cons, List.length_nil, List.replicate_succ, List.replicate_zero, List.getElem?_cons_zero, List.getElem?_cons_succ, List.set_cons_zero, List.set_cons_succ, Option.join_some, Option.map_some, Option.map_none, Option.bind_some, setSl, tgSl, b_add, b_sub, b_mul, b_fdiv, b_mod, b_pow, b_addT, b_addL, b_mulT, b_mulL, deq_ii, deq_bb, c_eq, c_ne, c_lt, c_le, c_gt, c_ge, c_isN, c_isnN, c_isB, c_isnB, i_bl, i_non, i_int, i_str, i_tup, i_lst, non_non, non_int, non_tup, non_bl, t_non, t_bl, t_int, t_tup, t_lst, ixD_tup, ixD_lst, slD_tup, slD_lst, f_lenT, f_lenL, f_tupT, f_tupL, f_lstT, f_lstL, f_int, f_abs, f_max, f_min, f_all, f_any, f_sum, f_sorted, y_int, y_bl, y_non, y_str, y_tup, y_lst, y_obj, k_ii, k_ib, k_it, k_il, k_is, k_tt, k_tl, k_ti, k_tb, k_ll, k_lt, k_bi, k_bb, k_bt, k_bl, k_nt, k_ss, k_st, k_cc, ks_nil, ks_cons, as_int, pg_cells, pg_at, pg_digits, pg_count, pg_fold, ps_at, ps_digits, ps_count, ps_fold, q_tup, q_lst, z_tt, z_ll, ea_obj, er_bl, if_true, if_false, Bool.false_eq_true, Nat.reduceAdd, Nat.reduceSub, Bool.not_true, Bool.not_false, decide_true, decide_false, s__law_loreti_right, as_int, m2', s1, s2, seq_lW, lt, wipeD, asgTg]
    simp only [bind_assoc']
    rw [map_ints (h := fun v => (m : Int) - v)]
    · simp -implicitDefEqProofs only [evFn, evSs, evS, evE, evT, evEs, evAnd, evOr, evAndT, evOrT, evO, evI, evOwn, R.bind_ok, R.bind_err, R.of_some, cat_ok, cat_err, f_repr, onInt_i, mem1, mem2, mem2b, se_d, se_u, se_o, sb_d, sb_u, sb_o, see, seeB, List.map_cons, List.map_nil, List.cons_append, List.nil_append, List.length_cons, List.length_nil, List.replicate_succ, List.replicate_zero, List.getElem?_cons_zero, List.getElem?_cons_succ, List.set_cons_zero, List.set_cons_succ, Option.join_some, Option.map_some, Option.map_none, Option.bind_some, setSl, tgSl, b_add, b_sub, b_mul, b_fdiv, b_mod, b_pow, b_addT, b_addL, b_mulT, b_mulL, deq_ii, deq_bb, c_eq, c_ne, c_lt, c_le, c_gt, c_ge, c_isN, c_isnN, c_isB, c_isnB, i_bl, i_non, i_int, i_str, i_tup, i_lst, non_non, non_int, non_tup, non_bl, t_non, t_bl, t_int, t_tup, t_lst, ixD_tup, ixD_lst, slD_tup, slD_lst, f_lenT, f_lenL, f_tupT, f_tupL, f_lstT, f_lstL, f_int, f_abs, f_max, f_min, f_all, f_any, f_sum, f_sorted, y_int, y_bl, y_non, y_str, y_tup, y_lst, y_obj, k_ii, k_ib, k_it, k_il, k_is, k_tt, k_tl, k_ti, k_tb, k_ll, k_lt, k_bi, k_bb, k_bt, k_bl, k_nt, k_ss, k_st, k_cc, ks_nil, ks_cons, as_int, pg_cells, pg_at, pg_digits, pg_count, pg_fold, ps_at, ps_digits, ps_count, ps_fold, q_tup, q_lst, z_tt, z_ll, ea_obj, er_bl, if_true, if_false, Bool.false_eq_true, Nat.reduceAdd, Nat.reduceSub, Bool.not_true, Bool.not_false, decide_true, decide_false, fold_lW, deq_lI, bok, tp]
    · intro v hv
      simp -implicitDefEqProofs only [evFn, evSs, evS, evE, evT, evEs, evAnd, evOr, evAndT, evOrT, evO, evI, evOwn, R.bind_ok, R.bind_err, R.of_some, cat_ok, cat_err, f_repr, onInt_i, mem1, mem2, mem2b, se_d, se_u, se_o, sb_d, sb_u, sb_o, see, seeB, List.map_cons, List.map_nil, List.cons_append, List.nil_append, List.length_cons, List.length_nil, List.replicate_succ, List.replicate_zero, List.getElem?_cons_zero, List.getElem?_cons_succ, List.set_cons_zero, List.set_cons_succ, Option.join_some, Option.map_some, Option.map_none, Option.bind_some, setSl, tgSl, b_add, b_sub, b_mul, b_fdiv, b_mod, b_pow, b_addT, b_addL, b_mulT, b_mulL, deq_ii, deq_bb, c_eq, c_ne, c_lt, c_le, c_gt, c_ge, c_isN, c_isnN, c_isB, c_isnB, i_bl, i_non, i_int, i_str, i_tup, i_lst, non_non, non_int, non_tup, non_bl, t_non, t_bl, t_int, t_tup, t_lst, ixD_tup, ixD_lst, slD_tup, slD_lst, f_lenT, f_lenL, f_tupT, f_tupL, f_lstT, f_lstL, f_int, f_abs, f_max, f_min, f_all, f_any, f_sum, f_sorted, y_int, y_bl, y_non, y_str, y_tup, y_lst, y_obj, k_ii, k_ib, k_it, k_il, k_is, k_tt, k_tl, k_ti, k_tb, k_ll, k_lt, k_bi, k_bb, k_bt, k_bl, k_nt, k_ss, k_st, k_cc, ks_nil, ks_cons, as_int, pg_cells, pg_at, pg_digits, pg_count, pg_fold, ps_at, ps_digits, ps_count, ps_fold, q_tup, q_lst, z_tt, z_ll, ea_obj, er_bl, if_true, if_false, Bool.false_eq_true, Nat.reduceAdd, Nat.reduceSub, Bool.not_true, Bool.not_false, decide_true, decide_false]) ?_
  refine evSs_nx (ρ1 := [.d .pen, .d (.int (m : Nat)), .d (lW X), .d (.lst UU), .d (.int (K : Int)), z8, .u, .d (.int ((m / 2 : Nat) : Int)), .d (ob (gold m)), .u]) (p1 := p8) (by
    simp -implicitDefEqProofs only [evFn, evSs, evS, evE, evT, evEs, evAnd, evOr, evAndT, evOrT, evO, evI, evOwn, R.bind_ok, R.bind_err, R.of_some, cat_ok, cat_err, f_repr, onInt_i, mem1, mem2, mem2b, se_d, se_u, se_o, sb_d, sb_u, sb_o, see, seeB, List.map_cons, List.map_nil, List.cons_append, List.nil_append, List.length_cons, List.length_nil, List.replicate_succ, List.replicate_zero, List.getElem?_cons_zero, List.getElem?_cons_succ, List.set_cons_zero, List.set_cons_succ, Option.join_some, Option.map_some, Option.map_none, Option.bind_some, setSl, tgSl, b_add, b_sub, b_mul, b_fdiv, b_mod, b_pow, b_addT, b_addL, b_mulT, b_mulL, deq_ii, deq_bb, c_eq, c_ne, c_lt, c_le, c_gt, c_ge, c_isN, c_isnN, c_isB, c_isnB, i_bl, i_non, i_int, i_str, i_tup, i_lst, non_non, non_int, non_tup, non_bl, t_non, t_bl, t_int, t_tup, t_lst, ixD_tup, ixD_lst, slD_tup, slD_lst, f_lenT, f_lenL, f_tupT, f_tupL, f_lstT, f_lstL, f_int, f_abs, f_max, f_min, f_all, f_any, f_sum, f_sorted, y_int, y_bl, y_non, y_str, y_tup, y_lst, y_obj, k_ii, k_ib, k_it, k_il, k_is, k_tt, k_tl, k_ti, k_tb, k_ll, k_lt, k_bi, k_bb, k_bt, k_bl, k_nt, k_ss, k_st, k_cc, ks_nil, ks_cons, as_int, pg_cells, pg_at, pg_digits, pg_count, pg_fold, ps_at, ps_digits, ps_count, ps_fold, q_tup, q_lst, z_tt, z_ll, ea_obj, er_bl, if_true, if_false, Bool.false_eq_true, Nat.reduceAdd, Nat.reduceSub, Bool.not_true, Bool.not_false, decide_true, decide_false, s__law_loreti_right, m2', sb3, sb4, bend, tp]) ?_
  refine evSs_nx (ρ1 := [.d .pen, .d (.int (m : Nat)), .d (lW X), .d (.lst UU), .d (.int (K : Int)), z8, .d (.int (i : Nat)), .d (.int ((m / 2 : Nat) : Int)), .d (ob (gold m)), .u]) (p1 := p5) (by
    simp -implicitDefEqProofs only [evFn, evSs, evS, evE, evT, evEs, evAnd, evOr, evAndT, evOrT, evO, evI, evOwn, R.bind_ok, R.bind_err, R.of_some, cat_ok, cat_err, f_repr, onInt_i, mem1, mem2, mem2b, se_d, se_u, se_o, sb_d, sb_u, sb_o, see, seeB, List.map_cons, List.map_nil, List.cons_append, List.nil_append, List.length_cons, List.length_nil, List.replicate_succ, List.replicate_zero, List.getElem?_cons_zero, List.getElem?_cons_succ, List.set_cons_zero, List.set_cons_succ, Option.join_some, Option.map_some, Option.map_none, Option.bind_some, setSl, tgSl, b_add, b_sub, b_mul, b_fdiv, b_mod, b_pow, b_addT, b_addL, b_mulT, b_mulL, deq_ii, deq_bb, c_eq, c_ne, c_lt, c_le, c_gt, c_ge, c_isN, c_isnN, c_isB, c_isnB, i_bl, i_non, i_int, i_str, i_tup, i_lst, non_non, non_int, non_tup, non_bl, t_non, t_bl, t_int, t_tup, t_lst, ixD_tup, ixD_lst, slD_tup, slD_lst, f_lenT, f_lenL, f_tupT, f_tupL, f_lstT, f_lstL, f_int, f_abs, f_max, f_min, f_all, f_any, f_sum, f_sorted, y_int, y_bl, y_non, y_str, y_tup, y_lst, y_obj, k_ii, k_ib, k_it, k_il, k_is, k_tt, k_tl, k_ti, k_tb, k_ll, k_lt, k_bi, k_bb, k_bt, k_bl, k_nt, k_ss, k_st, k_cc, ks_nil, ks_cons, as_int, pg_cells, pg_at, pg_digits, pg_count, pg_fold, ps_at, ps_digits, ps_count, ps_fold, q_tup, q_lst, z_tt, z_ll, ea_obj, er_bl, if_true, if_false, Bool.false_eq_true, Nat.reduceAdd, Nat.reduceSub, Bool.not_true, Bool.not_false, decide_true, decide_false, s__law_loreti_right, cp9, e9, e3, e4, sz2, e5]) ?_
  simp -implicitDefEqProofs only [evFn, evSs, evS, evE, evT, evEs, evAnd, evOr, evAndT, evOrT, evO, evI, evOwn, R.bind_ok, R.bind_err, R.of_some, cat_ok, cat_err, f_repr, onInt_i, mem1, mem2, mem2b, se_d, se_u, se_o, sb_d, sb_u, sb_o, see, seeB, List.map_cons, List.map_nil, List.cons_append, List.nil_append, List.length_cons, List.length_nil, List.replicate_succ, List.replicate_zero, List.getElem?_cons_zero, List.getElem?_cons_succ, List.set_cons_zero, List.set_cons_succ, Option.join_some, Option.map_some, Option.map_none, Option.bind_some, setSl, tgSl, b_add, b_sub, b_mul, b_fdiv, b_mod, b_pow, b_addT, b_addL, b_mulT, b_mulL, deq_ii, deq_bb, c_eq, c_ne, c_lt, c_le, c_gt, c_ge, c_isN, c_isnN, c_isB, c_isnB, i_bl, i_non, i_int, i_str, i_tup, i_lst, non_non, non_int, non_tup, non_bl, t_non, t_bl, t_int, t_tup, t_lst, ixD_tup, ixD_lst, slD_tup, slD_lst, f_lenT, f_lenL, f_tupT, f_tupL, f_lstT, f_lstL, f_int, f_abs, f_max, f_min, f_all, f_any, f_sum, f_sorted, y_int, y_bl, y_non, y_str, y_tup, y_lst, y_obj, k_ii, k_ib, k_it, k_il, k_is, k_tt, k_tl, k_ti, k_tb, k_ll, k_lt, k_bi, k_bb, k_bt, k_bl, k_nt, k_ss, k_st, k_cc, ks_nil, ks_cons, as_int, pg_cells, pg_at, pg_digits, pg_count, pg_fold, ps_at, ps_digits, ps_count, ps_fold, q_tup, q_lst, z_tt, z_ll, ea_obj, er_bl, if_true, if_false, Bool.false_eq_true, Nat.reduceAdd, Nat.reduceSub, Bool.not_true, Bool.not_false, decide_true, decide_false, s__law_loreti_right, loreti_item_i hm hi, mo1, it1, lorE, tp, ne_eq, n2z, not_false_eq_true]
end Lk91

set_option Elab.async false
set_option linter.all false
set_option maxRecDepth 100000
set_option maxHeartbeats 2000000
namespace Lk91
open PySem PySem.Spec PyProof.Rows L2 Mi RowP
/-- what the law is told of an error -/
theorem flt_num (w s : Str) (d : D) (h : reprD d = some (.str s)) : flOf excs ents0 ents1 1000 [.str w, d] = some (.tup [.str "number", .str w, .str s]) := by
  unfold flOf
  rw [if_pos (by decide)]
  have : kOf excs ents0 ents1 0 [.str w, d] = some [.tup [.str "number", .str w, .str s]] := by
    simp only [kOf, excs, T_excs_0, ents0, ents1, kindsD, entD, fldsD, fldD, List.getD_cons_zero, List.zip, List.zipWith, List.lookup, h, Option.bind_some, Option.map_some, Nat.reduceEqDiff, if_true, if_false, reduceIte, Option.map_none, List.append_nil, List.nil_append, beq_self_eq_true, Bool.false_eq_true, show (("number" : Str) == "what") = false from rfl]
  unfold faultD
  rw [show 1000 - 1000 = 0 from rfl, this]
section
variable {p : PenS}
theorem az_one_g {d : D} {w s : Str} (h : ∀ p, d_golden_row [d] p = .err 1000 [.str w, d] p) (hr : reprD d = some (.str s)) : d__law_az_one [.fn 11, d] p = .ok (.tup [.str "number", .str w, .str s]) p := by
  unfold d__law_az_one
  simp -implicitDefEqProofs only [evFn, evSs, evS, evE, evT, evEs, evAnd, evOr, evAndT, evOrT, evO, evI, evOwn, R.bind_ok, R.bind_err, R.of_some, cat_ok, cat_err, f_repr, onInt_i, mem1, mem2, mem2b, se_d, se_u, se_o, sb_d, sb_u, sb_o, see, seeB, List.map_cons, List.map_nil, List.cons_append, List.nil_append, List.length_cons, List.length_nil, List.replicate_succ, List.replicate_zero, List.getElem?_cons_zero, List.getElem?_cons_succ, List.set_cons_zero, List.set_cons_succ, Option.join_some, Option.map_some, Option.map_none, Option.bind_some, setSl, tgSl, b_add, b_sub, b_mul, b_fdiv, b_mod, b_pow, b_addT, b_addL, b_mulT, b_mulL, deq_ii, deq_bb, c_eq, c_ne, c_lt, c_le, c_gt, c_ge, c_isN, c_isnN, c_isB, c_isnB, i_bl, i_non, i_int, i_str, i_tup, i_lst, non_non, non_int, non_tup, non_bl, t_non, t_bl, t_int, t_tup, t_lst, ixD_tup, ixD_lst, slD_tup, slD_lst, f_lenT, f_lenL, f_tupT, f_tupL, f_lstT, f_lstL, f_int, f_abs, f_max, f_min, f_all, f_any, f_sum, f_sorted, y_int, y_bl, y_non, y_str, y_tup, y_lst, y_obj, k_ii, k_ib, k_it, k_il, k_is, k_tt, k_tl, k_ti, k_tb, k_ll, k_lt, k_bi, k_bb, k_bt, k_bl, k_nt, k_ss, k_st, k_cc, ks_nil, ks_cons, as_int, pg_cells, pg_at, pg_digits, pg_count, pg_fold, ps_at, ps_digits, ps_count, ps_fold, q_tup, q_lst, z_tt, z_ll, ea_obj, er_bl, if_true, if_false, Bool.false_eq_true, Nat.reduceAdd, Nat.reduceSub, Bool.not_true, Bool.not_false, decide_true, decide_false, ir__law_az_one, s__law_az_one, h, flt_num w s d hr]
theorem az_one_m {d : D} {w s : Str} (h : ∀ p, d_morse_item [d] p = .err 1000 [.str w, d] p) (hr : reprD d = some (.str s)) : d__law_az_one [.fn 28, d] p = .ok (.tup [.str "number", .str w, .str s]) p := by
  unfold d__law_az_one
  simp -implicitDefEqProofs only [evFn, evSs, evS, evE, evT, evEs, evAnd, evOr, evAndT, evOrT, evO, evI, evOwn, R.bind_ok, R.bind_err, R.of_some, cat_ok, cat_err, f_repr, onInt_i, mem1, mem2, mem2b, se_d, se_u, se_o, sb_d, sb_u, sb_o, see, seeB, List.map_cons, List.map_nil, List.cons_append, List.nil_append, List.length_cons, List.length_nil, List.replicate_succ, List.replicate_zero, List.getElem?_cons_zero, List.getElem?_cons_succ, List.set_cons_zero, List.set_cons_succ, Option.join_some, Option.map_some, Option.map_none, Option.bind_some, setSl, tgSl, b_add, b_sub, b_mul, b_fdiv, b_mod, b_pow, b_addT, b_addL, b_mulT, b_mulL, deq_ii, deq_bb, c_eq, c_ne, c_lt, c_le, c_gt, c_ge, c_isN, c_isnN, c_isB, c_isnB, i_bl, i_non, i_int, i_str, i_tup, i_lst, non_non, non_int, non_tup, non_bl, t_non, t_bl, t_int, t_tup, t_lst, ixD_tup, ixD_lst, slD_tup, slD_lst, f_lenT, f_lenL, f_tupT, f_tupL, f_lstT, f_lstL, f_int, f_abs, f_max, f_min, f_all, f_any, f_sum, f_sorted, y_int, y_bl, y_non, y_str, y_tup, y_lst, y_obj, k_ii, k_ib, k_it, k_il, k_is, k_tt, k_tl, k_ti, k_tb, k_ll, k_lt, k_bi, k_bb, k_bt, k_bl, k_nt, k_ss, k_st, k_cc, ks_nil, ks_cons, as_int, pg_cells, pg_at, pg_digits, pg_count, pg_fold, ps_at, ps_digits, ps_count, ps_fold, q_tup, q_lst, z_tt, z_ll, ea_obj, er_bl, if_true, if_false, Bool.false_eq_true, Nat.reduceAdd, Nat.reduceSub, Bool.not_true, Bool.not_false, decide_true, decide_false, ir__law_az_one, s__law_az_one, h, flt_num w s d hr]
theorem az_two_l {c d e : D} {w s : Str} (h : ∀ p, d_loreti_item [c, d] p = .err 1000 [.str w, e] p) (hr : reprD e = some (.str s)) : d__law_az_two [.fn 20, c, d] p = .ok (.tup [.str "number", .str w, .str s]) p := by
  unfold d__law_az_two
  simp -implicitDefEqProofs only [evFn, evSs, evS, evE, evT, evEs, evAnd, evOr, evAndT, evOrT, evO, evI, evOwn, R.bind_ok, R.bind_err, R.of_some, cat_ok, cat_err, f_repr, onInt_i, mem1, mem2, mem2b, se_d, se_u, se_o, sb_d, sb_u, sb_o, see, seeB, List.map_cons, List.map_nil, List.cons_append, List.nil_append, List.length_cons, List.length_nil, List.replicate_succ, List.replicate_zero, List.getElem?_cons_zero, List.getElem?_cons_succ, List.set_cons_zero, List.set_cons_succ, Option.join_some, Option.map_some, Option.map_none, Option.bind_some, setSl, tgSl, b_add, b_sub, b_mul, b_fdiv, b_mod, b_pow, b_addT, b_addL, b_mulT, b_mulL, deq_ii, deq_bb, c_eq, c_ne, c_lt, c_le, c_gt, c_ge, c_isN, c_isnN, c_isB, c_isnB, i_bl, i_non, i_int, i_str, i_tup, i_lst, non_non, non_int, non_tup, non_bl, t_non, t_bl, t_int, t_tup, t_lst, ixD_tup, ixD_lst, slD_tup, slD_lst, f_lenT, f_lenL, f_tupT, f_tupL, f_lstT, f_lstL, f_int, f_abs, f_max, f_min, f_all, f_any, f_sum, f_sorted, y_int, y_bl, y_non, y_str, y_tup, y_lst, y_obj, k_ii, k_ib, k_it, k_il, k_is, k_tt, k_tl, k_ti, k_tb, k_ll, k_lt, k_bi, k_bb, k_bt, k_bl, k_nt, k_ss, k_st, k_cc, ks_nil, ks_cons, as_int, pg_cells, pg_at, pg_digits, pg_count, pg_fold, ps_at, ps_digits, ps_count, ps_fold, q_tup, q_lst, z_tt, z_ll, ea_obj, er_bl, if_true, if_false, Bool.false_eq_true, Nat.reduceAdd, Nat.reduceSub, Bool.not_true, Bool.not_false, decide_true, decide_false, ir__law_az_two, s__law_az_two, h, flt_num w s e hr]
theorem btw_out {v lo hi : Int} (h : ¬ (lo ≤ v ∧ v ≤ hi)) : d_is_between [.int v, .int lo, .int hi] p = .ok (.bl false) p := by
  rw [is_between_i, decide_eq_false h]
/-- told and a text that may lie in data -/
def ROk (d : D) (s : Str) : Prop := reprD d = some (.str s) ∧ PyData.strOk s = true
theorem repr_int (v : Int) (h : v.natAbs.log2 < 1920) : reprD (.int v) = some (.str (Str.ofString (toString v))) := by
  show (if v.natAbs.log2 < 1920 then some (D.str (Str.ofString (toString v))) else none) = _
  rw [if_pos h]
theorem ROk_int (v : Int) (h : v.natAbs.log2 < 1920) (k : PyData.strOk (Str.ofString (toString v)) = true) : ROk (.int v) (Str.ofString (toString v)) := ⟨repr_int v h, k⟩
def odds : List D := [.int 0, .int 21, .non, .bl true, .str "1"]
def lates : List D := [.int (-1), .int 1000000001, .non, .bl true]
theorem odd_out {d : D} (h : d ∈ odds) (p : PenS) : d_is_between [d, .int 1, .int 20] p = .ok (.bl false) p := by
  simp only [odds, List.mem_cons, List.not_mem_nil, or_false] at h
  rcases h with rfl | rfl | rfl | rfl | rfl
  · exact btw_out (by omega)
  · exact btw_out (by omega)
  · exact is_between_x _ _ _ (.inl rfl)
  · exact is_between_x _ _ _ (.inr (.inl ⟨_, rfl⟩))
  · exact is_between_x _ _ _ (.inr (.inr ⟨_, rfl⟩))
theorem late_out {d : D} (h : d ∈ lates) (p : PenS) : d_is_between [d, .int 0, .int 1000000000] p = .ok (.bl false) p := by
  simp only [lates, List.mem_cons, List.not_mem_nil, or_false] at h
  rcases h with rfl | rfl | rfl | rfl
  · exact btw_out (by omega)
  · exact btw_out (by omega)
  · exact is_between_x _ _ _ (.inl rfl)
  · exact is_between_x _ _ _ (.inr (.inl ⟨_, rfl⟩))
theorem odd_repr {d : D} (h : d ∈ odds) : ∃ s, ROk d s := by
  simp only [odds, List.mem_cons, List.not_mem_nil, or_false] at h
  rcases h with rfl | rfl | rfl | rfl | rfl
  · exact ⟨_, ROk_int _ (by decide +kernel) (by decide +kernel)⟩
  · exact ⟨_, ROk_int _ (by decide +kernel) (by decide +kernel)⟩
  · exact ⟨"None", rfl, by decide +kernel⟩
  · exact ⟨"True", rfl, by decide +kernel⟩
  · refine ⟨reprText "1", ?_, by decide +kernel⟩
    show (if (reprText "1").length ≤ sizeLine then some (D.str (reprText "1")) else none) = _
    rw [if_pos (len_line (show (reprText "1").length ≤ 1000 by decide +kernel))]
theorem late_repr {d : D} (h : d ∈ lates) : ∃ s, ROk d s := by
  simp only [lates, List.mem_cons, List.not_mem_nil, or_false] at h
  rcases h with rfl | rfl | rfl | rfl
  · exact ⟨_, ROk_int _ (by decide +kernel) (by decide +kernel)⟩
  · exact ⟨_, ROk_int _ (by decide +kernel) (by decide +kernel)⟩
  · exact ⟨"None", rfl, by decide +kernel⟩
  · exact ⟨"True", rfl, by decide +kernel⟩
theorem repr_big : ∃ s, ROk (.int 10000000000000000000000000000000000000001) s := ⟨_, ROk_int _ (by decide +kernel) (by decide +kernel)⟩
theorem repr_neg : ∃ s, ROk (.int (-1)) s := ⟨_, ROk_int _ (by decide +kernel) (by decide +kernel)⟩
theorem deq_told {a b c d e : Str} (ha : PyData.strOk a = true) (hb : PyData.strOk b = true) (hc : PyData.strOk c = true) (hd : PyData.strOk d = true) (he : PyData.strOk e = true) : deq (.lst [.tup [.str "number", .str "m", .str a], .tup [.str "number", .str "m", .str a], .tup [.str "number", .str "i", .str b], .tup [.str "number", .str "at", .str c], .tup [.str "number", .str "at", .str d], .tup [.str "number", .str "at", .str e]])
    (.lst [.tup [.str "number", .str "m", .str a], .tup [.str "number", .str "m", .str a], .tup [.str "number", .str "i", .str b], .tup [.str "number", .str "at", .str c], .tup [.str "number", .str "at", .str d], .tup [.str "number", .str "at", .str e]]) = some true := by
  unfold deq
  rw [if_pos (by simp [D.py, pyAll, SeqAt.shaped, PyData.canLay0, PyData.canLayAll0, PyData.depth, PyData.depthAll, ha, hb, hc, hd, he, show PyData.strOk (Str.ofString "number") = true by decide +kernel, show PyData.strOk (Str.ofString "m") = true by decide +kernel, show PyData.strOk (Str.ofString "i") = true by decide +kernel, show PyData.strOk (Str.ofString "at") = true by decide +kernel])]
  simp [D.py, pyAll, PyData.eqv, PyData.eqvAll]
end
theorem sem (ns : List Int) (_ : ns.length ≤ 63) : ∃ ρ' p', Mi.evSs Lk91.S_law Lk91.ir_law (.u :: .d .pen :: List.replicate 5 .u) (some (Mi.pen0 ns)) = .ok (.rt (.bl true), ρ') p' := by
  have hp : PInv (some (pen0 ns)) := ⟨pen0 ns, rfl, Int.le_refl 0⟩
  have turn : ∀ d ∈ (rng 0 4), ∀ (ρ : SEnv) (p : PenS), (∃ z, ρ = [.u, .d .pen, z, .u, .u, .u, .u]) ∧ PInv p → ∃ ρ' p', (R.of (tgSl ρ (.nm 2) d) p).bind (fun ρ p => evSs S_law (forB (headS ir_law)) ρ p) = .ok (.nx, ρ') p' ∧ (∃ z, ρ' = [.u, .d .pen, z, .u, .u, .u, .u]) ∧ PInv p' := by
    rintro d hd ρ p ⟨⟨z, rfl⟩, hp⟩
    obtain ⟨p1, e1, hp1⟩ := morse_right hp
    obtain ⟨p2, e2, hp2⟩ := loreti_right hp1
    refine ⟨[.u, .d .pen, .d d, .u, .u, .u, .u], p2, ?_, ⟨_, rfl⟩, hp2⟩
    simp -implicitDefEqProofs only [evFn, evSs, evS, evE, evT, evEs, evAnd, evOr, evAndT, evOrT, evO, evI, evOwn, R.bind_ok, R.bind_err, R.of_some, cat_ok, cat_err, f_repr, onInt_i, mem1, mem2, mem2b, se_d, se_u, se_o, sb_d, sb_u, sb_o, see, seeB, List.map_cons, List.map_nil, List.cons_append, List.nil_append, List.length_cons, List.length_nil, List.replicate_succ, List.replicate_zero, List.getElem?_cons_zero, List.getElem?_cons_succ, List.set_cons_zero, List.set_cons_succ, Option.join_some, Option.map_some, Option.map_none, Option.bind_some, setSl, tgSl, b_add, b_sub, b_mul, b_fdiv, b_mod, b_pow, b_addT, b_addL, b_mulT, b_mulL, deq_ii, deq_bb, c_eq, c_ne, c_lt, c_le, c_gt, c_ge, c_isN, c_isnN, c_isB, c_isnB, i_bl, i_non, i_int, i_str, i_tup, i_lst, non_non, non_int, non_tup, non_bl, t_non, t_bl, t_int, t_tup, t_lst, ixD_tup, ixD_lst, slD_tup, slD_lst, f_lenT, f_lenL, f_tupT, f_tupL, f_lstT, f_lstL, f_int, f_abs, f_max, f_min, f_all, f_any, f_sum, f_sorted, y_int, y_bl, y_non, y_str, y_tup, y_lst, y_obj, k_ii, k_ib, k_it, k_il, k_is, k_tt, k_tl, k_ti, k_tb, k_ll, k_lt, k_bi, k_bb, k_bt, k_bl, k_nt, k_ss, k_st, k_cc, ks_nil, ks_cons, as_int, pg_cells, pg_at, pg_digits, pg_count, pg_fold, ps_at, ps_digits, ps_count, ps_fold, q_tup, q_lst, z_tt, z_ll, ea_obj, er_bl, if_true, if_false, Bool.false_eq_true, Nat.reduceAdd, Nat.reduceSub, Bool.not_true, Bool.not_false, decide_true, decide_false, forB, headS, ir_law, s_law, e1, e2]
  obtain ⟨ρ', p1, f1, ⟨z, rfl⟩, hp1⟩ := loop_inv (Inv := fun ρ p => (∃ z, ρ = [.u, .d .pen, z, .u, .u, .u, .u]) ∧ PInv p) turn ⟨⟨.u, rfl⟩, hp⟩
  obtain ⟨o, p2, ho, e2, hp2⟩ := pick hp1 (xs := odds) (by simp [odds]) (by simp [odds])
  obtain ⟨l, p3, hl, e3, hp3⟩ := pick hp2 (xs := lates) (by simp [lates]) (by simp [lates])
  obtain ⟨so, hso, ko⟩ := odd_repr ho
  obtain ⟨sl, hsl, kl⟩ := late_repr hl
  obtain ⟨sb, hsb, kb⟩ := repr_big
  obtain ⟨sn, hsn, kn⟩ := repr_neg
  have c1 : ∀ p, d__law_az_one [.fn 11, o] p = .ok (.tup [.str "number", .str "m", .str so]) p := fun p => az_one_g (fun p => golden_row_e (odd_out ho)) hso
  have c2 : ∀ p, d__law_az_two [.fn 20, o, l] p = .ok (.tup [.str "number", .str "m", .str so]) p := fun p => az_two_l (fun p => loreti_item_e1 (odd_out ho)) hso
  have c3 : ∀ p, d__law_az_two [.fn 20, .int 3, l] p = .ok (.tup [.str "number", .str "i", .str sl]) p := fun p => az_two_l (fun p => loreti_item_e2 (by omega) (late_out hl)) hsl
  have c4 : ∀ p, d__law_az_one [.fn 28, .int (-1)] p = .ok (.tup [.str "number", .str "at", .str sn]) p := fun p => az_one_m (fun p => morse_item_e fun p => btw_out (by omega)) hsn
  have c5 : ∀ p, d__law_az_one [.fn 28, .int 10000000000000000000000000000000000000001] p = .ok (.tup [.str "number", .str "at", .str sb]) p := fun p => az_one_m (fun p => morse_item_e fun p => btw_out (by omega)) hsb
  have c6 : ∀ p, d__law_az_one [.fn 28, .bl true] p = .ok (.tup [.str "number", .str "at", .str "True"]) p := fun p => az_one_m (fun p => morse_item_e fun p => is_between_x _ _ _ (.inr (.inl ⟨_, rfl⟩))) rfl
  refine ⟨[.u, .d .pen, z, .d (.lst [.tup [.str "number", .str "m", .str so], .tup [.str "number", .str "m", .str so], .tup [.str "number", .str "i", .str sl], .tup [.str "number", .str "at", .str sn], .tup [.str "number", .str "at", .str sb], .tup [.str "number", .str "at", .str "True"]]), .d o, .d l, .u], p3, ?_⟩
  show evSs S_law ir_law [.u, .d .pen, .u, .u, .u, .u, .u] (some (pen0 ns)) = _
  rw [show ir_law = .cons (.for_ (.nm 2) (.rng1 (.int 4)) (forB (headS ir_law))) (dropSs 1 ir_law) from rfl]
  refine evSs_nx (ρ1 := [.u, .d .pen, z, .u, .u, .u, .u]) (p1 := p1) ?_ ?_
  · rw [evS_for (ds := rng 0 4) (p1 := some (pen0 ns)) (by
      have r3 : rngOf 0 4 = some (rng 0 4) := rngOf_ok (by omega) (by omega)
      simp -implicitDefEqProofs only [evFn, evSs, evS, evE, evT, evEs, evAnd, evOr, evAndT, evOrT, evO, evI, evOwn, R.bind_ok, R.bind_err, R.of_some, cat_ok, cat_err, f_repr, onInt_i, mem1, mem2, mem2b, se_d, se_u, se_o, sb_d, sb_u, sb_o, see, seeB, List.map_cons, List.map_nil, List.cons_append, List.nil_append, List.length_cons, List.length_nil, List.replicate_succ, List.replicate_zero, List.getElem?_cons_zero, List.getElem?_cons_succ, List.set_cons_zero, List.set_cons_succ, Option.join_some, Option.map_some, Option.map_none, Option.bind_some, setSl, tgSl, b_add, b_sub, b_mul, b_fdiv, b_mod, b_pow, b_addT, b_addL, b_mulT, b_mulL, deq_ii, deq_bb, c_eq, c_ne, c_lt, c_le, c_gt, c_ge, c_isN, c_isnN, c_isB, c_isnB, i_bl, i_non, i_int, i_str, i_tup, i_lst, non_non, non_int, non_tup, non_bl, t_non, t_bl, t_int, t_tup, t_lst, ixD_tup, ixD_lst, slD_tup, slD_lst, f_lenT, f_lenL, f_tupT, f_tupL, f_lstT, f_lstL, f_int, f_abs, f_max, f_min, f_all, f_any, f_sum, f_sorted, y_int, y_bl, y_non, y_str, y_tup, y_lst, y_obj, k_ii, k_ib, k_it, k_il, k_is, k_tt, k_tl, k_ti, k_tb, k_ll, k_lt, k_bi, k_bb, k_bt, k_bl, k_nt, k_ss, k_st, k_cc, ks_nil, ks_cons, as_int, pg_cells, pg_at, pg_digits, pg_count, pg_fold, ps_at, ps_digits, ps_count, ps_fold, q_tup, q_lst, z_tt, z_ll, ea_obj, er_bl, if_true, if_false, Bool.false_eq_true, Nat.reduceAdd, Nat.reduceSub, Bool.not_true, Bool.not_false, decide_true, decide_false, as_int, r3])]
    exact f1
  refine evSs_nx (ρ1 := [.u, .d .pen, z, .u, .d o, .d l, .u]) (p1 := p3) (by
    unfold odds at e2
    unfold lates at e3
    simp -implicitDefEqProofs only [evFn, evSs, evS, evE, evT, evEs, evAnd, evOr, evAndT, evOrT, evO, evI, evOwn, R.bind_ok, R.bind_err, R.of_some, cat_ok, cat_err, f_repr, onInt_i, mem1, mem2, mem2b, se_d, se_u, se_o, sb_d, sb_u, sb_o, see, seeB, List.map_cons, List.map_nil, List.cons_append, List.nil_append, List.length_cons, List.length_nil, List.replicate_succ, List.replicate_zero, List.getElem?_cons_zero, List.getElem?_cons_succ, List.set_cons_zero, List.set_cons_succ, Option.join_some, Option.map_some, Option.map_none, Option.bind_some, setSl, tgSl, b_add, b_sub, b_mul, b_fdiv, b_mod, b_pow, b_addT, b_addL, b_mulT, b_mulL, deq_ii, deq_bb, c_eq, c_ne, c_lt, c_le, c_gt, c_ge, c_isN, c_isnN, c_isB, c_isnB, i_bl, i_non, i_int, i_str, i_tup, i_lst, non_non, non_int, non_tup, non_bl, t_non, t_bl, t_int, t_tup, t_lst, ixD_tup, ixD_lst, slD_tup, slD_lst, f_lenT, f_lenL, f_tupT, f_tupL, f_lstT, f_lstL, f_int, f_abs, f_max, f_min, f_all, f_any, f_sum, f_sorted, y_int, y_bl, y_non, y_str, y_tup, y_lst, y_obj, k_ii, k_ib, k_it, k_il, k_is, k_tt, k_tl, k_ti, k_tb, k_ll, k_lt, k_bi, k_bb, k_bt, k_bl, k_nt, k_ss, k_st, k_cc, ks_nil, ks_cons, as_int, pg_cells, pg_at, pg_digits, pg_count, pg_fold, ps_at, ps_digits, ps_count, ps_fold, q_tup, q_lst, z_tt, z_ll, ea_obj, er_bl, if_true, if_false, Bool.false_eq_true, Nat.reduceAdd, Nat.reduceSub, Bool.not_true, Bool.not_false, decide_true, decide_false, s_law, as_int, cp9, e9, len_line (show 5 ≤ 1000 by omega), len_line (show 4 ≤ 1000 by omega), e2, show (1000000000 : Int) + 1 = 1000000001 from rfl, e3]) ?_
  refine evSs_nx (ρ1 := [.u, .d .pen, z, .d (.lst [.tup [.str "number", .str "m", .str so], .tup [.str "number", .str "m", .str so], .tup [.str "number", .str "i", .str sl], .tup [.str "number", .str "at", .str sn], .tup [.str "number", .str "at", .str sb], .tup [.str "number", .str "at", .str "True"]]), .d o, .d l, .u]) (p1 := p3) (by
    simp -implicitDefEqProofs only [evFn, evSs, evS, evE, evT, evEs, evAnd, evOr, evAndT, evOrT, evO, evI, evOwn, R.bind_ok, R.bind_err, R.of_some, cat_ok, cat_err, f_repr, onInt_i, mem1, mem2, mem2b, se_d, se_u, se_o, sb_d, sb_u, sb_o, see, seeB, List.map_cons, List.map_nil, List.cons_append, List.nil_append, List.length_cons, List.length_nil, List.replicate_succ, List.replicate_zero, List.getElem?_cons_zero, List.getElem?_cons_succ, List.set_cons_zero, List.set_cons_succ, Option.join_some, Option.map_some, Option.map_none, Option.bind_some, setSl, tgSl, b_add, b_sub, b_mul, b_fdiv, b_mod, b_pow, b_addT, b_addL, b_mulT, b_mulL, deq_ii, deq_bb, c_eq, c_ne, c_lt, c_le, c_gt, c_ge, c_isN, c_isnN, c_isB, c_isnB, i_bl, i_non, i_int, i_str, i_tup, i_lst, non_non, non_int, non_tup, non_bl, t_non, t_bl, t_int, t_tup, t_lst, ixD_tup, ixD_lst, slD_tup, slD_lst, f_lenT, f_lenL, f_tupT, f_tupL, f_lstT, f_lstL, f_int, f_abs, f_max, f_min, f_all, f_any, f_sum, f_sorted, y_int, y_bl, y_non, y_str, y_tup, y_lst, y_obj, k_ii, k_ib, k_it, k_il, k_is, k_tt, k_tl, k_ti, k_tb, k_ll, k_lt, k_bi, k_bb, k_bt, k_bl, k_nt, k_ss, k_st, k_cc, ks_nil, ks_cons, as_int, pg_cells, pg_at, pg_digits, pg_count, pg_fold, ps_at, ps_digits, ps_count, ps_fold, q_tup, q_lst, z_tt, z_ll, ea_obj, er_bl, if_true, if_false, Bool.false_eq_true, Nat.reduceAdd, Nat.reduceSub, Bool.not_true, Bool.not_false, decide_true, decide_false, s_law, as_int, cp40, e40, sz3, c1, c2, c3, wipeD, asgTg, compLoop, c4, c5, c6, calm_ok', show (10000000000000000000000000000000000000000 : Int) + 1 = 10000000000000000000000000000000000000001 from rfl, len_line (show 6 ≤ 1000 by omega)]
    done) ?_
  have ml : ∀ x : D, Mi.bin .mul (.lst [x]) (.int 2) = some (.lst [x, x]) := fun x => by
    rw [b_mulL, if_pos ⟨by omega, by decide, by rw [show [x].length * Int.toNat 2 = 2 from rfl]; exact sz2⟩]; rfl
  have s4 : 1 + 1 + 1 ≤ sizeLine := sz3
  have dt := deq_told ko kl kn kb (show PyData.strOk (Str.ofString "True") = true by decide +kernel)
  simp -implicitDefEqProofs only [ml, dropSs, ir_law, evSs, evS, evE, evEs, evI, seeB, List.map_cons, List.map_nil, sb_d, sb_u, see, se_d, se_u, List.getElem?_cons_zero, List.getElem?_cons_succ, Option.join_some, R.of_some, R.bind_ok, f_repr, hso, List.length_cons, List.length_nil, Nat.reduceAdd, sz3, if_true, sz1]
  simp -implicitDefEqProofs only [evFn, evSs, evS, evE, evT, evEs, evAnd, evOr, evAndT, evOrT, evO, evI, evOwn, R.bind_ok, R.bind_err, R.of_some, cat_ok, cat_err, f_repr, onInt_i, mem1, mem2, mem2b, se_d, se_u, se_o, sb_d, sb_u, sb_o, see, seeB, List.map_cons, List.map_nil, List.cons_append, List.nil_append, List.length_cons, List.length_nil, List.replicate_succ, List.replicate_zero, List.getElem?_cons_zero, List.getElem?_cons_succ, List.set_cons_zero, List.set_cons_succ, Option.join_some, Option.map_some, Option.map_none, Option.bind_some, setSl, tgSl, b_add, b_sub, b_mul, b_fdiv, b_mod, b_pow, b_addT, b_addL, b_mulT, b_mulL, deq_ii, deq_bb, c_eq, c_ne, c_lt, c_le, c_gt, c_ge, c_isN, c_isnN, c_isB, c_isnB, i_bl, i_non, i_int, i_str, i_tup, i_lst, non_non, non_int, non_tup, non_bl, t_non, t_bl, t_int, t_tup, t_lst, ixD_tup, ixD_lst, slD_tup, slD_lst, f_lenT, f_lenL, f_tupT, f_tupL, f_lstT, f_lstL, f_int, f_abs, f_max, f_min, f_all, f_any, f_sum, f_sorted, y_int, y_bl, y_non, y_str, y_tup, y_lst, y_obj, k_ii, k_ib, k_it, k_il, k_is, k_tt, k_tl, k_ti, k_tb, k_ll, k_lt, k_bi, k_bb, k_bt, k_bl, k_nt, k_ss, k_st, k_cc, ks_nil, ks_cons, as_int, pg_cells, pg_at, pg_digits, pg_count, pg_fold, ps_at, ps_digits, ps_count, ps_fold, q_tup, q_lst, z_tt, z_ll, ea_obj, er_bl, if_true, if_false, Bool.false_eq_true, Nat.reduceAdd, Nat.reduceSub, Bool.not_true, Bool.not_false, decide_true, decide_false, s_law, as_int, cp40, e40, sz3, sz1, hso, hsl, hsn, hsb, wipeD, asgTg, compLoop, calm_ok', show (10000000000000000000000000000000000000000 : Int) + 1 = 10000000000000000000000000000000000000001 from rfl, show reprD (.bl true) = some (.str (Str.ofString "True")) from rfl, len_line (show 3 ≤ 1000 by omega), len_line (show 6 ≤ 1000 by omega), dt]
end Lk91

set_option Elab.async false
set_option linter.all false
set_option maxRecDepth 100000
set_option maxHeartbeats 0
namespace Lk91H
open PySem PySem.Spec PyProof.Rows L2 Mi Lk91

def top (i : Nat) : Stmt := PySem.Challenge.pw_allwritings_k91_whole_told_rows_by_block.main.body.getD i (.Pass ⟨0, 0, 0, 0⟩)
def df0 : He.DefD := ⟨("as_tuples", none), "as_tuples", "as_tuples", defArgs (top 21), defBody (top 21), defScope (top 21), [], []⟩
def df1 : He.DefD := ⟨("Row", some "__init__"), "__init__", "Row.__init__", defArgs (inClass (top 32) 0), defBody (inClass (top 32) 0), defScope (inClass (top 32) 0), [], []⟩
def df2 : He.DefD := ⟨("_law_draw", none), "_law_draw", "_law_draw", defArgs (top 50), defBody (top 50), defScope (top 50), [], []⟩
def df3 : He.DefD := ⟨("_law_morse", none), "_law_morse", "_law_morse", defArgs (top 57), defBody (top 57), defScope (top 57), [], []⟩
def df4 : He.DefD := ⟨("_law_pick", none), "_law_pick", "_law_pick", defArgs (top 51), defBody (top 51), defScope (top 51), [], []⟩
def df5 : He.DefD := ⟨("golden_by", none), "golden_by", "golden_by", defArgs (top 41), defBody (top 41), defScope (top 41), [], []⟩
def df6 : He.DefD := ⟨("is_integer", none), "is_integer", "is_integer", defArgs (top 19), defBody (top 19), defScope (top 19), [], []⟩
def df7 : He.DefD := ⟨("is_between", none), "is_between", "is_between", defArgs (top 22), defBody (top 22), defScope (top 22), [], []⟩
def df8 : He.DefD := ⟨("need_figure", none), "need_figure", "need_figure", defArgs (top 25), defBody (top 25), defScope (top 25), [], []⟩
def df9 : He.DefD := ⟨("golden_row", none), "golden_row", "golden_row", defArgs (top 42), defBody (top 42), defScope (top 42), [], []⟩
def df10 : He.DefD := ⟨("item_by", none), "item_by", "item_by", defArgs (top 36), defBody (top 36), defScope (top 36), [], []⟩
def df11 : He.DefD := ⟨("need_index", none), "need_index", "need_index", defArgs (top 37), defBody (top 37), defScope (top 37), [], []⟩
def df12 : He.DefD := ⟨("are_figures", none), "are_figures", "are_figures", defArgs (top 33), defBody (top 33), defScope (top 33), [], []⟩
def df13 : He.DefD := ⟨("is_row", none), "is_row", "is_row", defArgs (top 34), defBody (top 34), defScope (top 34), [], []⟩
def df14 : He.DefD := ⟨("need_row", none), "need_row", "need_row", defArgs (top 35), defBody (top 35), defScope (top 35), [], []⟩
def df15 : He.DefD := ⟨("item_at", none), "item_at", "item_at", defArgs (top 38), defBody (top 38), defScope (top 38), [], []⟩
def df16 : He.DefD := ⟨("odd_ones", none), "odd_ones", "odd_ones", defArgs (top 43), defBody (top 43), defScope (top 43), [], []⟩
def df17 : He.DefD := ⟨("loreti_by", none), "loreti_by", "loreti_by", defArgs (top 44), defBody (top 44), defScope (top 44), [], []⟩
def df18 : He.DefD := ⟨("loreti_item", none), "loreti_item", "loreti_item", defArgs (top 45), defBody (top 45), defScope (top 45), [], []⟩
def df19 : He.DefD := ⟨("Row", some "__eq__"), "__eq__", "Row.__eq__", defArgs (inClass (top 32) 1), defBody (inClass (top 32) 1), defScope (inClass (top 32) 1), [], []⟩
def df20 : He.DefD := ⟨("_law_loreti_right", none), "_law_loreti_right", "_law_loreti_right", defArgs (top 59), defBody (top 59), defScope (top 59), [], []⟩
def df21 : He.DefD := ⟨("_law_is", none), "_law_is", "_law_is", defArgs (top 52), defBody (top 52), defScope (top 52), [], []⟩
def df22 : He.DefD := ⟨("_law_wide", none), "_law_wide", "_law_wide", defArgs (top 53), defBody (top 53), defScope (top 53), [], []⟩
def df23 : He.DefD := ⟨("need_between", none), "need_between", "need_between", defArgs (top 28), defBody (top 28), defScope (top 28), [], []⟩
def df24 : He.DefD := ⟨("morse_item", none), "morse_item", "morse_item", defArgs (top 29), defBody (top 29), defScope (top 29), [], []⟩
def df25 : He.DefD := ⟨("_law_fault", none), "_law_fault", "_law_fault", defArgs (top 54), defBody (top 54), defScope (top 54), [], []⟩
def df26 : He.DefD := ⟨("_law_az_one", none), "_law_az_one", "_law_az_one", defArgs (top 47), defBody (top 47), defScope (top 47), [], []⟩
def df27 : He.DefD := ⟨("_law_az_two", none), "_law_az_two", "_law_az_two", defArgs (top 48), defBody (top 48), defScope (top 48), [], []⟩
def df28 : He.DefD := ⟨("_law_morse_right", none), "_law_morse_right", "_law_morse_right", defArgs (top 58), defBody (top 58), defScope (top 58), [], []⟩
def df29 : He.DefD := ⟨("_law_kinds", none), "_law_kinds", "_law_kinds", defArgs (top 55), defBody (top 55), defScope (top 55), [], []⟩
def df30 : He.DefD := ⟨("_law_more_kinds", none), "_law_more_kinds", "_law_more_kinds", defArgs (top 56), defBody (top 56), defScope (top 56), [], []⟩
def df31 : He.DefD := ⟨("BadNumber", some "__init__"), "__init__", "BadNumber.__init__", defArgs (inClass (top 2) 0), defBody (inClass (top 2) 0), defScope (inClass (top 2) 0), [], []⟩
def df32 : He.DefD := ⟨("BadRow", some "__init__"), "__init__", "BadRow.__init__", defArgs (inClass (top 3) 0), defBody (inClass (top 3) 0), defScope (inClass (top 3) 0), [], []⟩
def df33 : He.DefD := ⟨("BadTable", some "__init__"), "__init__", "BadTable.__init__", defArgs (inClass (top 4) 0), defBody (inClass (top 4) 0), defScope (inClass (top 4) 0), [], []⟩
def df34 : He.DefD := ⟨("BadBase", some "__init__"), "__init__", "BadBase.__init__", defArgs (inClass (top 5) 0), defBody (inClass (top 5) 0), defScope (inClass (top 5) 0), [], []⟩
def df35 : He.DefD := ⟨("BadBook", some "__init__"), "__init__", "BadBook.__init__", defArgs (inClass (top 6) 0), defBody (inClass (top 6) 0), defScope (inClass (top 6) 0), [], []⟩
def df36 : He.DefD := ⟨("BadName", some "__init__"), "__init__", "BadName.__init__", defArgs (inClass (top 7) 0), defBody (inClass (top 7) 0), defScope (inClass (top 7) 0), [], []⟩
def df37 : He.DefD := ⟨("BadText", some "__init__"), "__init__", "BadText.__init__", defArgs (inClass (top 8) 0), defBody (inClass (top 8) 0), defScope (inClass (top 8) 0), [], []⟩
def df38 : He.DefD := ⟨("NoPlace", some "__init__"), "__init__", "NoPlace.__init__", defArgs (inClass (top 9) 0), defBody (inClass (top 9) 0), defScope (inClass (top 9) 0), [], []⟩
def df39 : He.DefD := ⟨("NoName", some "__init__"), "__init__", "NoName.__init__", defArgs (inClass (top 10) 0), defBody (inClass (top 10) 0), defScope (inClass (top 10) 0), [], []⟩
def df40 : He.DefD := ⟨("TakenName", some "__init__"), "__init__", "TakenName.__init__", defArgs (inClass (top 11) 0), defBody (inClass (top 11) 0), defScope (inClass (top 11) 0), [], []⟩
def df41 : He.DefD := ⟨("Unlike", some "__init__"), "__init__", "Unlike.__init__", defArgs (inClass (top 12) 0), defBody (inClass (top 12) 0), defScope (inClass (top 12) 0), [], []⟩
def df42 : He.DefD := ⟨("NotThere", some "__init__"), "__init__", "NotThere.__init__", defArgs (inClass (top 13) 0), defBody (inClass (top 13) 0), defScope (inClass (top 13) 0), [], []⟩
def df43 : He.DefD := ⟨("TooMany", some "__init__"), "__init__", "TooMany.__init__", defArgs (inClass (top 14) 0), defBody (inClass (top 14) 0), defScope (inClass (top 14) 0), [], []⟩
def df44 : He.DefD := ⟨("NotKept", some "__init__"), "__init__", "NotKept.__init__", defArgs (inClass (top 15) 0), defBody (inClass (top 15) 0), defScope (inClass (top 15) 0), [], []⟩
def df45 : He.DefD := ⟨("_law_pen", none), "_law_pen", "_law_pen", defArgs (top 49), defBody (top 49), defScope (top 49), [], []⟩
def df46 : He.DefD := ⟨("law", none), "law", "law", defArgs (top 60), defBody (top 60), defScope (top 60), [], []⟩
def fnc_0 : List He.DefD := [df0, df1, df2, df3, df4, df5, df6, df7, df8, df9, df10, df11, df12, df13, df14, df15, df16, df17, df18, df19, df20, df21, df22, df23, df24]
def fnc_1 : List He.DefD := [df25, df26, df27, df28, df29, df30, df31, df32, df33, df34, df35, df36, df37, df38, df39, df40, df41, df42, df43, df44, df45, df46]
def fn : List He.DefD := fnc_0 ++ fnc_1
def glosc_0 : List Str := ["as_tuples", "_law_draw", "_law_morse", "_law_pick", "golden_by", "is_integer", "is_between", "need_figure", "golden_row", "item_by", "need_index", "are_figures", "is_row", "need_row", "item_at", "odd_ones", "loreti_by", "loreti_item", "_law_loreti_right", "_law_is", "_law_wide", "need_between", "morse_item", "_law_fault", "_law_az_one"]
def glosc_1 : List Str := ["_law_az_two", "_law_morse_right", "_law_kinds", "_law_more_kinds", "_law_pen", "law", "BadNumber", "BadRow", "BadTable", "BadBase", "BadBook", "BadName", "BadText", "NoPlace", "NoName", "TakenName", "Unlike", "NotThere", "TooMany", "NotKept", "NothingToUndo", "NothingToRedo", "FigureError"]
def glos : List Str := glosc_0 ++ glosc_1
def tf : List AtN := [("_law_az_one", none), ("_law_az_two", none)]
def fa : List He.Fa := glos.map He.Fa.glo ++ T.clss.map (fun c => He.Fa.glo c.1) ++ T.clss.map (fun c => He.Fa.mkr c.1) ++ T.cons.map (fun c => He.Fa.int c.1 c.2) ++ bltN.map He.Fa.free
def ls0 : List PySem.Str := ["__name__", "FigureError", "BadNumber", "BadRow", "BadTable", "BadBase", "BadBook", "BadName", "BadText", "NoPlace", "NoName", "TakenName", "Unlike", "NotThere", "TooMany", "NotKept", "NothingToUndo", "NothingToRedo", "is_integer", "as_tuples", "is_between", "MOST_FIGURE", "need_figure", "MOST_ITEM", "need_between", "morse_item", "MOST_ITEMS", "Row", "are_figures", "is_row"]
def ls1 : List PySem.Str := ["need_row", "item_by", "need_index", "item_at", "MOST_INDEX", "golden_by", "golden_row", "odd_ones", "loreti_by", "loreti_item", "_law_az_one", "_law_az_two", "_law_pen", "_law_draw", "_law_pick", "_law_is", "_law_wide", "_law_fault", "_law_kinds", "_law_more_kinds", "_law_morse", "_law_morse_right", "_law_loreti_right"]
def loose : List PySem.Str := ls0 ++ ls1
abbrev R : PySem.W.OpenRow := PySem.W.OpenLaw.row PySem.Challenge.rw_allwritings_k91_whole_told_rows_by_block
abbrev hk : PySem.W.Hook := He.hookX 5 fa fn [] tf (exB T ats tf)
def ob (s : PySem.W.SharedT) : He.AlX := He.obsX 5 fa fn [] tf (exB T ats tf) (HandSHeadRun.getT s)
theorem ob_eq (s : PySem.W.SharedT) : ob s = hk.obs s.abs := He.obsX_eq (HandSHeadRun.getT_eq s)
theorem run (w : World) : HandSHeadRun.RunEq R (PySem.W.view R.prog [60]) hk ob 6500 loose w := by
  intro os
  kernel_rfl
section
variable {w : World} {K : PySem.W.Frag} {mg : Str → Option Value} {base h : Heap} (X : K.In h) (G : h.Ns mainGlobals mg) (c : He.SaysD fa fn K) (ex : exB T ats tf K = true) (tb : ∀ p ∈ tf.map (He.cT K), LamX.TabB base mg p.1 p.2)
abbrev LE (w : World) (K : PySem.W.Frag) (mg : Str → Option Value) (base : Heap) (L : List Den) (I : List Ini) : Prop := LawEnv (PySem.Challenge.rw_allwritings_k91_whole_told_rows_by_block).prog w K mg base T (gOf T ats tf K) lv L I
include X G c in
theorem gl (x : Str) (h : decide (x ∈ glos) = true) : mg x = some (.ref (He.ga K x)) := He.glo_ok X G (factM c (by
  unfold fa
  simp only [List.mem_append]
  exact .inl (.inl (.inl (.inl (List.mem_map.mpr ⟨x, of_decide_eq_true h, rfl⟩))))))
include c in
theorem mk (x : Str × Nat × List Str) (h : x ∈ T.clss) : Mk K (He.ga K x.1) (He.ma K (He.ga K x.1) "__init__") := He.mkr_ok (factM c (by
  unfold fa
  simp only [List.mem_append]
  exact .inl (.inl (.inr (List.mem_map.mpr ⟨x, h, rfl⟩)))))
include ex in
theorem hxB : excB K T.excs = true := by
  have e := ex
  unfold exB at e
  simp only [Bool.and_eq_true] at e
  exact e.1.2
include ex in
theorem hxU : tabU K tf = true := by
  have e := ex
  unfold exB at e
  simp only [Bool.and_eq_true] at e
  exact e.2
theorem xsG : T.excs.all (fun e => decide (e.1 ∈ glos)) = true := by kernel_rfl
include c ex in
theorem x0 : ExcF (PySem.Challenge.rw_allwritings_k91_whole_told_rows_by_block).prog w K mg base (He.ga K "BadNumber") ["what", "number"] := by
  obtain ⟨fd, F⟩ := c.def_ 31 (d := df31) rfl
  exact exc_of (hxB ex) (by decide) F (by kernel_rfl) (FunD.bindsN (ps := (["self", "what", "number"] : List Str)) F fun _ _ _ _ _ _ us hl => match us, hl with | [_, _, _], _ => rfl)
include c ex in
theorem x1 : ExcF (PySem.Challenge.rw_allwritings_k91_whole_told_rows_by_block).prog w K mg base (He.ga K "BadRow") ["what", "row"] := by
  obtain ⟨fd, F⟩ := c.def_ 32 (d := df32) rfl
  exact exc_of (hxB ex) (by decide) F (by kernel_rfl) (FunD.bindsN (ps := (["self", "what", "row"] : List Str)) F fun _ _ _ _ _ _ us hl => match us, hl with | [_, _, _], _ => rfl)
include c ex in
theorem x2 : ExcF (PySem.Challenge.rw_allwritings_k91_whole_told_rows_by_block).prog w K mg base (He.ga K "BadTable") ["what"] := by
  obtain ⟨fd, F⟩ := c.def_ 33 (d := df33) rfl
  exact exc_of (hxB ex) (by decide) F (by kernel_rfl) (FunD.bindsN (ps := (["self", "what"] : List Str)) F fun _ _ _ _ _ _ us hl => match us, hl with | [_, _], _ => rfl)
include c ex in
theorem x3 : ExcF (PySem.Challenge.rw_allwritings_k91_whole_told_rows_by_block).prog w K mg base (He.ga K "BadBase") ["what"] := by
  obtain ⟨fd, F⟩ := c.def_ 34 (d := df34) rfl
  exact exc_of (hxB ex) (by decide) F (by kernel_rfl) (FunD.bindsN (ps := (["self", "what"] : List Str)) F fun _ _ _ _ _ _ us hl => match us, hl with | [_, _], _ => rfl)
include c ex in
theorem x4 : ExcF (PySem.Challenge.rw_allwritings_k91_whole_told_rows_by_block).prog w K mg base (He.ga K "BadBook") ["what"] := by
  obtain ⟨fd, F⟩ := c.def_ 35 (d := df35) rfl
  exact exc_of (hxB ex) (by decide) F (by kernel_rfl) (FunD.bindsN (ps := (["self", "what"] : List Str)) F fun _ _ _ _ _ _ us hl => match us, hl with | [_, _], _ => rfl)
include c ex in
theorem x5 : ExcF (PySem.Challenge.rw_allwritings_k91_whole_told_rows_by_block).prog w K mg base (He.ga K "BadName") ["name"] := by
  obtain ⟨fd, F⟩ := c.def_ 36 (d := df36) rfl
  exact exc_of (hxB ex) (by decide) F (by kernel_rfl) (FunD.bindsN (ps := (["self", "name"] : List Str)) F fun _ _ _ _ _ _ us hl => match us, hl with | [_, _], _ => rfl)
include c ex in
theorem x6 : ExcF (PySem.Challenge.rw_allwritings_k91_whole_told_rows_by_block).prog w K mg base (He.ga K "BadText") ["line", "word"] := by
  obtain ⟨fd, F⟩ := c.def_ 37 (d := df37) rfl
  exact exc_of (hxB ex) (by decide) F (by kernel_rfl) (FunD.bindsN (ps := (["self", "line", "word"] : List Str)) F fun _ _ _ _ _ _ us hl => match us, hl with | [_, _, _], _ => rfl)
include c ex in
theorem x7 : ExcF (PySem.Challenge.rw_allwritings_k91_whole_told_rows_by_block).prog w K mg base (He.ga K "NoPlace") ["what", "index"] := by
  obtain ⟨fd, F⟩ := c.def_ 38 (d := df38) rfl
  exact exc_of (hxB ex) (by decide) F (by kernel_rfl) (FunD.bindsN (ps := (["self", "what", "index"] : List Str)) F fun _ _ _ _ _ _ us hl => match us, hl with | [_, _, _], _ => rfl)
include c ex in
theorem x8 : ExcF (PySem.Challenge.rw_allwritings_k91_whole_told_rows_by_block).prog w K mg base (He.ga K "NoName") ["name"] := by
  obtain ⟨fd, F⟩ := c.def_ 39 (d := df39) rfl
  exact exc_of (hxB ex) (by decide) F (by kernel_rfl) (FunD.bindsN (ps := (["self", "name"] : List Str)) F fun _ _ _ _ _ _ us hl => match us, hl with | [_, _], _ => rfl)
include c ex in
theorem x9 : ExcF (PySem.Challenge.rw_allwritings_k91_whole_told_rows_by_block).prog w K mg base (He.ga K "TakenName") ["name"] := by
  obtain ⟨fd, F⟩ := c.def_ 40 (d := df40) rfl
  exact exc_of (hxB ex) (by decide) F (by kernel_rfl) (FunD.bindsN (ps := (["self", "name"] : List Str)) F fun _ _ _ _ _ _ us hl => match us, hl with | [_, _], _ => rfl)
include c ex in
theorem x10 : ExcF (PySem.Challenge.rw_allwritings_k91_whole_told_rows_by_block).prog w K mg base (He.ga K "Unlike") ["what"] := by
  obtain ⟨fd, F⟩ := c.def_ 41 (d := df41) rfl
  exact exc_of (hxB ex) (by decide) F (by kernel_rfl) (FunD.bindsN (ps := (["self", "what"] : List Str)) F fun _ _ _ _ _ _ us hl => match us, hl with | [_, _], _ => rfl)
include c ex in
theorem x11 : ExcF (PySem.Challenge.rw_allwritings_k91_whole_told_rows_by_block).prog w K mg base (He.ga K "NotThere") ["paper"] := by
  obtain ⟨fd, F⟩ := c.def_ 42 (d := df42) rfl
  exact exc_of (hxB ex) (by decide) F (by kernel_rfl) (FunD.bindsN (ps := (["self", "paper"] : List Str)) F fun _ _ _ _ _ _ us hl => match us, hl with | [_, _], _ => rfl)
include c ex in
theorem x12 : ExcF (PySem.Challenge.rw_allwritings_k91_whole_told_rows_by_block).prog w K mg base (He.ga K "TooMany") ["what", "many", "limit"] := by
  obtain ⟨fd, F⟩ := c.def_ 43 (d := df43) rfl
  exact exc_of (hxB ex) (by decide) F (by kernel_rfl) (FunD.bindsN (ps := (["self", "what", "many", "limit"] : List Str)) F fun _ _ _ _ _ _ us hl => match us, hl with | [_, _, _, _], _ => rfl)
include c ex in
theorem x13 : ExcF (PySem.Challenge.rw_allwritings_k91_whole_told_rows_by_block).prog w K mg base (He.ga K "NotKept") ["promise", "witness"] := by
  obtain ⟨fd, F⟩ := c.def_ 44 (d := df44) rfl
  exact exc_of (hxB ex) (by decide) F (by kernel_rfl) (FunD.bindsN (ps := (["self", "promise", "witness"] : List Str)) F fun _ _ _ _ _ _ us hl => match us, hl with | [_, _, _], _ => rfl)
include X G c ex in
theorem e0 : LE w K mg base L0 I0 := env0 X G c ex (by kernel_rfl)
  (fun q h => by unfold fa; simp only [List.mem_append]; exact .inl (.inr (List.mem_map.mpr ⟨q, h, rfl⟩)))
  (fun x h => by unfold fa; simp only [List.mem_append]; exact .inr (List.mem_map.mpr ⟨x, h, rfl⟩))
  (fun q h => by unfold fa; simp only [List.mem_append]; exact .inl (.inl (.inl (.inr (List.mem_map.mpr ⟨q, h, rfl⟩))))) (by kernel_rfl)
  (fun e h => by unfold fa; simp only [List.mem_append]; exact .inl (.inl (.inl (.inl (List.mem_map.mpr ⟨e.1, of_decide_eq_true (List.all_eq_true.mp xsG e h), rfl⟩))))) (by decide)
  (fun j x at_ h hne => by
    match j, h with
    | 0, h => cases h; exact x0 c ex
    | 1, h => cases h; exact x1 c ex
    | 2, h => cases h; exact x2 c ex
    | 3, h => cases h; exact x3 c ex
    | 4, h => cases h; exact x4 c ex
    | 5, h => cases h; exact x5 c ex
    | 6, h => cases h; exact x6 c ex
    | 7, h => cases h; exact x7 c ex
    | 8, h => cases h; exact x8 c ex
    | 9, h => cases h; exact x9 c ex
    | 10, h => cases h; exact x10 c ex
    | 11, h => cases h; exact x11 c ex
    | 12, h => cases h; exact x12 c ex
    | 13, h => cases h; exact x13 c ex
    | 14, h => cases h; exact absurd rfl hne
    | 15, h => cases h; exact absurd rfl hne
    | n + 16, h => cases h)
include X G c ex in
theorem hfl : FltG (PySem.Challenge.rw_allwritings_k91_whole_told_rows_by_block).prog w K mg base T (gOf T ats tf K) lv := by
  have fr : ∀ x ∈ bltN, mg x = none := (e0 (w := w) (base := base) X G c ex).free
  obtain ⟨hX, hF⟩ := xenv_of (ats := ats) (tf := tf) (hxB ex) (fun e h => gl X G c e.1 (List.all_eq_true.mp xsG e h)) (gl X G c "FigureError" rfl) fr
  obtain ⟨d0, F0⟩ := c.def_ 29 (d := df29) rfl
  obtain ⟨d1, F1⟩ := c.def_ 30 (d := df30) rfl
  obtain ⟨d2, F2⟩ := c.def_ 25 (d := df25) rfl
  exact flt_of hX hF F0 F1 F2 (e0 := ents0) (e1 := ents1) (by kernel_rfl) (by kernel_rfl) (by kernel_rfl) (gl X G c "_law_kinds" rfl) (gl X G c "_law_more_kinds" rfl) (gl X G c "_law_fault" rfl)
    (FunD.bindsN (ps := (["e"] : List Str)) F0 fun _ _ _ _ _ _ us hl => match us, hl with | [_], _ => rfl) (FunD.bindsN (ps := (["e"] : List Str)) F1 fun _ _ _ _ _ _ us hl => match us, hl with | [_], _ => rfl) (FunD.bindsN (ps := (["call"] : List Str)) F2 fun _ _ _ _ _ _ us hl => match us, hl with | [_], _ => rfl)
    rfl ⟨by decide, fun i h => by
      have h : (decide (i < 33) && decide (lv i + 1 ≤ 13)) = true := h
      simp only [Bool.and_eq_true, decide_eq_true_eq] at h
      exact h.2⟩ (by decide) rfl
include X G c ex tb in
theorem e1 : LE w K mg base L1 I0 := by
  obtain ⟨fd, F⟩ := c.def_ 0 (d := df0) rfl
  exact LawEnv.nev (N := N_as_tuples_0) (m := 1) (e0 X G c ex) F rfl rfl (fun _ => gl X G c "as_tuples" rfl) (FunD.bindsN (ps := (["value"] : List Str)) F fun _ _ _ _ _ _ us hl => match us, hl with | [_], _ => rfl) (fun z => absurd z (show (29 : Nat) ≠ 0 by decide))
include X G c ex tb in
theorem e2 : LE w K mg base L2 I0 := by
  obtain ⟨fd, F⟩ := c.def_ 0 (d := df0) rfl
  exact LawEnv.fn (N := N_as_tuples_1) (m := 1) (e1 X G c ex tb) ir_as_tuples_1 3 29 F rfl rfl (by kernel_rfl) (by kernel_rfl) (fun _ => gl X G c "as_tuples" rfl) (FunD.bindsN (ps := (["value"] : List Str)) F fun _ _ _ _ _ _ us hl => match us, hl with | [_], _ => rfl) (show (1 : Nat) ≠ 29 by decide) (fun z => absurd rfl z)
include X G c ex tb in
theorem e3 : LE w K mg base L3 I0 := by
  obtain ⟨fd, F⟩ := c.def_ 0 (d := df0) rfl
  exact LawEnv.fn (N := N_as_tuples_2) (m := 1) (e2 X G c ex tb) ir_as_tuples_2 5 29 F rfl rfl (by kernel_rfl) (by kernel_rfl) (fun _ => gl X G c "as_tuples" rfl) (FunD.bindsN (ps := (["value"] : List Str)) F fun _ _ _ _ _ _ us hl => match us, hl with | [_], _ => rfl) (show (2 : Nat) ≠ 29 by decide) (fun z => absurd rfl z)
include X G c ex tb in
theorem e4 : LE w K mg base L4 I0 := by
  obtain ⟨fd, F⟩ := c.def_ 0 (d := df0) rfl
  exact LawEnv.fn (N := N_as_tuples_3) (m := 1) (e3 X G c ex tb) ir_as_tuples_3 7 29 F rfl rfl (by kernel_rfl) (by kernel_rfl) (fun _ => gl X G c "as_tuples" rfl) (FunD.bindsN (ps := (["value"] : List Str)) F fun _ _ _ _ _ _ us hl => match us, hl with | [_], _ => rfl) (show (3 : Nat) ≠ 29 by decide) (fun z => absurd rfl z)
include X G c ex tb in
theorem e5 : LE w K mg base L4 I5 := by
  obtain ⟨fd, F⟩ := c.def_ 1 (d := df1) rfl
  exact LawEnv.ini (N := N_init_Row) (m := 2) (e4 X G c ex tb) ir_init_Row 9 F rfl rfl (by kernel_rfl) (by kernel_rfl) (mk c _ (by decide)) (FunD.bindsN (ps := (["self", "ahead", "ring"] : List Str)) F fun _ _ _ _ _ _ us hl => match us, hl with | [_, _, _], _ => rfl)
include X G c ex tb in
theorem e6 : LE w K mg base L6 I5 := by
  obtain ⟨fd, F⟩ := c.def_ 2 (d := df2) rfl
  exact LawEnv.fn (N := N__law_draw) (m := 2) (e5 X G c ex tb) ir__law_draw 1 29 F rfl rfl (by kernel_rfl) (by kernel_rfl) (fun _ => gl X G c "_law_draw" rfl) (FunD.bindsN (ps := (["pen", "many"] : List Str)) F fun _ _ _ _ _ _ us hl => match us, hl with | [_, _], _ => rfl) (show (4 : Nat) ≠ 29 by decide) (fun z => absurd rfl z)
include X G c ex tb in
theorem e7 : LE w K mg base L7 I5 := by
  obtain ⟨fd, F⟩ := c.def_ 3 (d := df3) rfl
  exact LawEnv.fn (N := N__law_morse) (m := 1) (e6 X G c ex tb) ir__law_morse 1 29 F rfl rfl (by kernel_rfl) (by kernel_rfl) (fun _ => gl X G c "_law_morse" rfl) (FunD.bindsN (ps := (["at"] : List Str)) F fun _ _ _ _ _ _ us hl => match us, hl with | [_], _ => rfl) (show (5 : Nat) ≠ 29 by decide) (fun z => absurd rfl z)
include X G c ex tb in
theorem e8 : LE w K mg base L8 I5 := by
  obtain ⟨fd, F⟩ := c.def_ 4 (d := df4) rfl
  exact LawEnv.fn (N := N__law_pick) (m := 2) (e7 X G c ex tb) ir__law_pick 3 29 F rfl rfl (by kernel_rfl) (by kernel_rfl) (fun _ => gl X G c "_law_pick" rfl) (FunD.bindsN (ps := (["pen", "some"] : List Str)) F fun _ _ _ _ _ _ us hl => match us, hl with | [_, _], _ => rfl) (show (6 : Nat) ≠ 29 by decide) (fun z => absurd rfl z)
include X G c ex tb in
theorem e9 : LE w K mg base L9 I5 := by
  obtain ⟨fd, F⟩ := c.def_ 5 (d := df5) rfl
  exact LawEnv.fn (N := N_golden_by) (m := 1) (e8 X G c ex tb) ir_golden_by 1 29 F rfl rfl (by kernel_rfl) (by kernel_rfl) (fun _ => gl X G c "golden_by" rfl) (FunD.bindsN (ps := (["m"] : List Str)) F fun _ _ _ _ _ _ us hl => match us, hl with | [_], _ => rfl) (show (7 : Nat) ≠ 29 by decide) (fun z => absurd rfl z)
include X G c ex tb in
theorem e10 : LE w K mg base L10 I5 := by
  obtain ⟨fd, F⟩ := c.def_ 6 (d := df6) rfl
  exact LawEnv.fn (N := N_is_integer) (m := 1) (e9 X G c ex tb) ir_is_integer 1 29 F rfl rfl (by kernel_rfl) (by kernel_rfl) (fun _ => gl X G c "is_integer" rfl) (FunD.bindsN (ps := (["value"] : List Str)) F fun _ _ _ _ _ _ us hl => match us, hl with | [_], _ => rfl) (show (8 : Nat) ≠ 29 by decide) (fun z => absurd rfl z)
include X G c ex tb in
theorem e11 : LE w K mg base L11 I5 := by
  obtain ⟨fd, F⟩ := c.def_ 7 (d := df7) rfl
  exact LawEnv.fn (N := N_is_between) (m := 3) (e10 X G c ex tb) ir_is_between 3 29 F rfl rfl (by kernel_rfl) (by kernel_rfl) (fun _ => gl X G c "is_between" rfl) (FunD.bindsN (ps := (["value", "low", "high"] : List Str)) F fun _ _ _ _ _ _ us hl => match us, hl with | [_, _, _], _ => rfl) (show (9 : Nat) ≠ 29 by decide) (fun z => absurd rfl z)
include X G c ex tb in
theorem e12 : LE w K mg base L12 I5 := by
  obtain ⟨fd, F⟩ := c.def_ 8 (d := df8) rfl
  exact LawEnv.fn (N := N_need_figure) (m := 1) (e11 X G c ex tb) ir_need_figure 5 29 F rfl rfl (by kernel_rfl) (by kernel_rfl) (fun _ => gl X G c "need_figure" rfl) (FunD.bindsN (ps := (["m"] : List Str)) F fun _ _ _ _ _ _ us hl => match us, hl with | [_], _ => rfl) (show (10 : Nat) ≠ 29 by decide) (fun z => absurd rfl z)
include X G c ex tb in
theorem e13 : LE w K mg base L13 I5 := by
  obtain ⟨fd, F⟩ := c.def_ 9 (d := df9) rfl
  exact LawEnv.fn (N := N_golden_row) (m := 1) (e12 X G c ex tb) ir_golden_row 11 29 F rfl rfl (by kernel_rfl) (by kernel_rfl) (fun _ => gl X G c "golden_row" rfl) (FunD.bindsN (ps := (["m"] : List Str)) F fun _ _ _ _ _ _ us hl => match us, hl with | [_], _ => rfl) (show (11 : Nat) ≠ 29 by decide) (fun z => absurd rfl z)
include X G c ex tb in
theorem e14 : LE w K mg base L14 I5 := by
  obtain ⟨fd, F⟩ := c.def_ 10 (d := df10) rfl
  exact LawEnv.fn (N := N_item_by) (m := 2) (e13 X G c ex tb) ir_item_by 1 29 F rfl rfl (by kernel_rfl) (by kernel_rfl) (fun _ => gl X G c "item_by" rfl) (FunD.bindsN (ps := (["row", "at"] : List Str)) F fun _ _ _ _ _ _ us hl => match us, hl with | [_, _], _ => rfl) (show (12 : Nat) ≠ 29 by decide) (fun z => absurd rfl z)
include X G c ex tb in
theorem e15 : LE w K mg base L15 I5 := by
  obtain ⟨fd, F⟩ := c.def_ 11 (d := df11) rfl
  exact LawEnv.fn (N := N_need_index) (m := 1) (e14 X G c ex tb) ir_need_index 3 29 F rfl rfl (by kernel_rfl) (by kernel_rfl) (fun _ => gl X G c "need_index" rfl) (FunD.bindsN (ps := (["at"] : List Str)) F fun _ _ _ _ _ _ us hl => match us, hl with | [_], _ => rfl) (show (13 : Nat) ≠ 29 by decide) (fun z => absurd rfl z)
include X G c ex tb in
theorem e16 : LE w K mg base L16 I5 := by
  obtain ⟨fd, F⟩ := c.def_ 12 (d := df12) rfl
  exact LawEnv.fn (N := N_are_figures) (m := 2) (e15 X G c ex tb) ir_are_figures 5 29 F rfl rfl (by kernel_rfl) (by kernel_rfl) (fun _ => gl X G c "are_figures" rfl) (FunD.bindsN (ps := (["value", "m"] : List Str)) F fun _ _ _ _ _ _ us hl => match us, hl with | [_, _], _ => rfl) (show (14 : Nat) ≠ 29 by decide) (fun z => absurd rfl z)
include X G c ex tb in
theorem e17 : LE w K mg base L17 I5 := by
  obtain ⟨fd, F⟩ := c.def_ 13 (d := df13) rfl
  exact LawEnv.fn (N := N_is_row) (m := 2) (e16 X G c ex tb) ir_is_row 11 29 F rfl rfl (by kernel_rfl) (by kernel_rfl) (fun _ => gl X G c "is_row" rfl) (FunD.bindsN (ps := (["value", "m"] : List Str)) F fun _ _ _ _ _ _ us hl => match us, hl with | [_, _], _ => rfl) (show (15 : Nat) ≠ 29 by decide) (fun z => absurd rfl z)
include X G c ex tb in
theorem e18 : LE w K mg base L18 I5 := by
  obtain ⟨fd, F⟩ := c.def_ 14 (d := df14) rfl
  exact LawEnv.fn (N := N_need_row) (m := 3) (e17 X G c ex tb) ir_need_row 13 29 F rfl rfl (by kernel_rfl) (by kernel_rfl) (fun _ => gl X G c "need_row" rfl) (FunD.bindsN (ps := (["value", "m", "what"] : List Str)) F fun _ _ _ _ _ _ us hl => match us, hl with | [_, _, _], _ => rfl) (show (16 : Nat) ≠ 29 by decide) (fun z => absurd rfl z)
include X G c ex tb in
theorem e19 : LE w K mg base L19 I5 := by
  obtain ⟨fd, F⟩ := c.def_ 15 (d := df15) rfl
  exact LawEnv.fn (N := N_item_at) (m := 3) (e18 X G c ex tb) ir_item_at 15 29 F rfl rfl (by kernel_rfl) (by kernel_rfl) (fun _ => gl X G c "item_at" rfl) (FunD.bindsN (ps := (["m", "row", "at"] : List Str)) F fun _ _ _ _ _ _ us hl => match us, hl with | [_, _, _], _ => rfl) (show (17 : Nat) ≠ 29 by decide) (fun z => absurd rfl z)
include X G c ex tb in
theorem e20 : LE w K mg base L20 I5 := by
  obtain ⟨fd, F⟩ := c.def_ 16 (d := df16) rfl
  exact LawEnv.fn (N := N_odd_ones) (m := 1) (e19 X G c ex tb) ir_odd_ones 1 29 F rfl rfl (by kernel_rfl) (by kernel_rfl) (fun _ => gl X G c "odd_ones" rfl) (FunD.bindsN (ps := (["n"] : List Str)) F fun _ _ _ _ _ _ us hl => match us, hl with | [_], _ => rfl) (show (18 : Nat) ≠ 29 by decide) (fun z => absurd rfl z)
include X G c ex tb in
theorem e21 : LE w K mg base L21 I5 := by
  obtain ⟨fd, F⟩ := c.def_ 17 (d := df17) rfl
  exact LawEnv.fn (N := N_loreti_by) (m := 2) (e20 X G c ex tb) ir_loreti_by 3 29 F rfl rfl (by kernel_rfl) (by kernel_rfl) (fun _ => gl X G c "loreti_by" rfl) (FunD.bindsN (ps := (["m", "i"] : List Str)) F fun _ _ _ _ _ _ us hl => match us, hl with | [_, _], _ => rfl) (show (19 : Nat) ≠ 29 by decide) (fun z => absurd rfl z)
include X G c ex tb in
theorem e22 : LE w K mg base L22 I5 := by
  obtain ⟨fd, F⟩ := c.def_ 18 (d := df18) rfl
  exact LawEnv.fn (N := N_loreti_item) (m := 2) (e21 X G c ex tb) ir_loreti_item 7 29 F rfl rfl (by kernel_rfl) (by kernel_rfl) (fun _ => gl X G c "loreti_item" rfl) (FunD.bindsN (ps := (["m", "i"] : List Str)) F fun _ _ _ _ _ _ us hl => match us, hl with | [_, _], _ => rfl) (show (20 : Nat) ≠ 29 by decide) (fun z => absurd rfl z)
include X G c ex tb in
theorem e23 : LE w K mg base L23 I5 := by
  obtain ⟨fd, F⟩ := c.def_ 19 (d := df19) rfl
  exact LawEnv.fn (N := N_Row___eq__) (m := 2) (e22 X G c ex tb) ir_Row___eq__ 11 29 F rfl rfl (by kernel_rfl) (by kernel_rfl) (fun z => absurd rfl z) (FunD.bindsN (ps := (["self", "other"] : List Str)) F fun _ _ _ _ _ _ us hl => match us, hl with | [_, _], _ => rfl) (show (21 : Nat) ≠ 29 by decide) (fun z => absurd rfl z)
include X G c ex tb in
theorem e24 : LE w K mg base L24 I5 := by
  obtain ⟨fd, F⟩ := c.def_ 20 (d := df20) rfl
  exact LawEnv.fn (N := N__law_loreti_right) (m := 1) (e23 X G c ex tb) ir__law_loreti_right 17 29 F rfl rfl (by kernel_rfl) (by kernel_rfl) (fun _ => gl X G c "_law_loreti_right" rfl) (FunD.bindsN (ps := (["pen"] : List Str)) F fun _ _ _ _ _ _ us hl => match us, hl with | [_], _ => rfl) (show (22 : Nat) ≠ 29 by decide) (fun z => absurd rfl z)
include X G c ex tb in
theorem e25 : LE w K mg base L25 I5 := by
  obtain ⟨fd, F⟩ := c.def_ 21 (d := df21) rfl
  exact LawEnv.nev (N := N__law_is_0) (m := 2) (e24 X G c ex tb) F rfl rfl (fun _ => gl X G c "_law_is" rfl) (FunD.bindsN (ps := (["told", "due"] : List Str)) F fun _ _ _ _ _ _ us hl => match us, hl with | [_, _], _ => rfl) (fun z => absurd z (show (29 : Nat) ≠ 23 by decide))
include X G c ex tb in
theorem e26 : LE w K mg base L26 I5 := by
  obtain ⟨fd, F⟩ := c.def_ 21 (d := df21) rfl
  exact LawEnv.fn (N := N__law_is_1) (m := 2) (e25 X G c ex tb) ir__law_is_1 3 29 F rfl rfl (by kernel_rfl) (by kernel_rfl) (fun _ => gl X G c "_law_is" rfl) (FunD.bindsN (ps := (["told", "due"] : List Str)) F fun _ _ _ _ _ _ us hl => match us, hl with | [_, _], _ => rfl) (show (24 : Nat) ≠ 29 by decide) (fun z => absurd rfl z)
include X G c ex tb in
theorem e27 : LE w K mg base L27 I5 := by
  obtain ⟨fd, F⟩ := c.def_ 21 (d := df21) rfl
  exact LawEnv.fn (N := N__law_is_2) (m := 2) (e26 X G c ex tb) ir__law_is_2 5 29 F rfl rfl (by kernel_rfl) (by kernel_rfl) (fun _ => gl X G c "_law_is" rfl) (FunD.bindsN (ps := (["told", "due"] : List Str)) F fun _ _ _ _ _ _ us hl => match us, hl with | [_, _], _ => rfl) (show (25 : Nat) ≠ 29 by decide) (fun z => absurd rfl z)
include X G c ex tb in
theorem e28 : LE w K mg base L28 I5 := by
  obtain ⟨fd, F⟩ := c.def_ 22 (d := df22) rfl
  exact LawEnv.fn (N := N__law_wide) (m := 2) (e27 X G c ex tb) ir__law_wide 3 29 F rfl rfl (by kernel_rfl) (by kernel_rfl) (fun _ => gl X G c "_law_wide" rfl) (FunD.bindsN (ps := (["pen", "figures"] : List Str)) F fun _ _ _ _ _ _ us hl => match us, hl with | [_, _], _ => rfl) (show (26 : Nat) ≠ 29 by decide) (fun z => absurd rfl z)
include X G c ex tb in
theorem e29 : LE w K mg base L29 I5 := by
  obtain ⟨fd, F⟩ := c.def_ 23 (d := df23) rfl
  exact LawEnv.fn (N := N_need_between) (m := 4) (e28 X G c ex tb) ir_need_between 5 29 F rfl rfl (by kernel_rfl) (by kernel_rfl) (fun _ => gl X G c "need_between" rfl) (FunD.bindsN (ps := (["what", "number", "low", "high"] : List Str)) F fun _ _ _ _ _ _ us hl => match us, hl with | [_, _, _, _], _ => rfl) (show (27 : Nat) ≠ 29 by decide) (fun z => absurd rfl z)
include X G c ex tb in
theorem e30 : LE w K mg base L30 I5 := by
  obtain ⟨fd, F⟩ := c.def_ 24 (d := df24) rfl
  exact LawEnv.fn (N := N_morse_item) (m := 1) (e29 X G c ex tb) ir_morse_item 7 29 F rfl rfl (by kernel_rfl) (by kernel_rfl) (fun _ => gl X G c "morse_item" rfl) (FunD.bindsN (ps := (["at"] : List Str)) F fun _ _ _ _ _ _ us hl => match us, hl with | [_], _ => rfl) (show (28 : Nat) ≠ 29 by decide) (fun z => absurd rfl z)
include X G c ex tb in
theorem e31 : LE w K mg base L31 I5 := by
  obtain ⟨fd, F⟩ := c.def_ 25 (d := df25) rfl
  exact LawEnv.nev (N := N__law_fault) (m := 1) (e30 X G c ex tb) F rfl rfl (fun _ => gl X G c "_law_fault" rfl) (FunD.bindsN (ps := (["call"] : List Str)) F fun _ _ _ _ _ _ us hl => match us, hl with | [_], _ => rfl) (fun _ => ⟨hfl X G c ex, rfl⟩)
include X G c ex tb in
theorem e32 : LE w K mg base L32 I5 := by
  obtain ⟨fd, F⟩ := c.def_ 26 (d := df26) rfl
  exact LawEnv.fn (N := N__law_az_one) (m := 2) (e31 X G c ex tb) ir__law_az_one 16 99999 F rfl rfl (by kernel_rfl) (by kernel_rfl) (fun _ => gl X G c "_law_az_one" rfl) (FunD.bindsN (ps := (["call", "one"] : List Str)) F fun _ _ _ _ _ _ us hl => match us, hl with | [_, _], _ => rfl) (show (30 : Nat) ≠ 29 by decide) (fun _ cdv h => lam_at (p := ("_law_az_one", none)) (by decide) (hxU ex) tb h)
include X G c ex tb in
theorem e33 : LE w K mg base L33 I5 := by
  obtain ⟨fd, F⟩ := c.def_ 27 (d := df27) rfl
  exact LawEnv.fn (N := N__law_az_two) (m := 3) (e32 X G c ex tb) ir__law_az_two 16 99999 F rfl rfl (by kernel_rfl) (by kernel_rfl) (fun _ => gl X G c "_law_az_two" rfl) (FunD.bindsN (ps := (["call", "one", "other"] : List Str)) F fun _ _ _ _ _ _ us hl => match us, hl with | [_, _, _], _ => rfl) (show (31 : Nat) ≠ 29 by decide) (fun _ cdv h => lam_at (p := ("_law_az_two", none)) (by decide) (hxU ex) tb h)
include X G c ex tb in
theorem e34 : LE w K mg base L34 I5 := by
  obtain ⟨fd, F⟩ := c.def_ 28 (d := df28) rfl
  exact LawEnv.fn (N := N__law_morse_right) (m := 1) (e33 X G c ex tb) ir__law_morse_right 9 29 F rfl rfl (by kernel_rfl) (by kernel_rfl) (fun _ => gl X G c "_law_morse_right" rfl) (FunD.bindsN (ps := (["pen"] : List Str)) F fun _ _ _ _ _ _ us hl => match us, hl with | [_], _ => rfl) (show (32 : Nat) ≠ 29 by decide) (fun z => absurd rfl z)
include X G c ex tb in
theorem ok_law (sem : ∀ ns : List Int, ns.length ≤ 63 → ∃ ρ' p', Mi.evSs Lk91.S_law Lk91.ir_law (.u :: .d .pen :: List.replicate 5 .u) (some (Mi.pen0 ns)) = .ok (.rt (.bl true), ρ') p') {fd : FuncData} (F : FunD K df46.name df46.qual df46.params df46.body df46.scope (df46.dvs K) (df46.kws K) (He.fAd K df46.at_) fd) : FnOk (PySem.Challenge.rw_allwritings_k91_whole_told_rows_by_block).prog w K mg base (L2.CX (PySem.Challenge.rw_allwritings_k91_whole_told_rows_by_block).prog w) 20 (He.ga K "law") fd ["script"] (spLawM K (gOf T ats tf K) 63) := by
  obtain ⟨fdP, FP⟩ := c.def_ 45 (d := df45) rfl
  exact law_ok (N := N_law) (ir := ir_law) (kk := 19) (lx := 29) (e34 (w := w) (base := base) X G c ex tb) (by decide) F FP (FunD.bindsN (ps := (["script"] : List Str)) FP fun _ _ _ _ _ _ us hl => match us, hl with | [_], _ => rfl) (gl X G c "_law_pen" rfl) (by kernel_rfl) rfl (by kernel_rfl) rfl (by kernel_rfl) (by kernel_rfl) sem (fun z => absurd rfl z)
end
end Lk91H
open PySem PySem.W PySem.Calls PyProof.Rows
theorem Lk91.holds (sem : ∀ ns : List Int, ns.length ≤ 63 → ∃ ρ' p', Mi.evSs Lk91.S_law Lk91.ir_law (.u :: .d .pen :: List.replicate 5 .u) (some (Mi.pen0 ns)) = .ok (.rt (.bl true), ρ') p') : PySem.Challenge.rw_allwritings_k91_whole_told_rows_by_block.Holds := by
  w_on; o_law
  refine HandSHeadRun.head_any (r := OpenLaw.row PySem.Challenge.rw_allwritings_k91_whole_told_rows_by_block) (q := view (OpenLaw.row PySem.Challenge.rw_allwritings_k91_whole_told_rows_by_block).prog [60]) (H := Lk91H.hk) (ob := Lk91H.ob) (M := 6500) (loose := Lk91H.loose) (d := HandSHeadRun.topDef (OpenLaw.row PySem.Challenge.rw_allwritings_k91_whole_told_rows_by_block).prog 60) (kwd := []) Lk91H.ob_eq
    (by kernel_rfl) (fun s => by kernel_rfl) Lk91H.run (by kernel_rfl) (by kernel_rfl) (by kernel_rfl) (by rfl) (by first | assumption | decide +kernel) (by decide +kernel) ⟨rfl, rfl, rfl, rfl, rfl, by decide +kernel⟩ ?hw ?hc
  case hw => w_witness2
  case hc =>
    refine Mi.walk_X (l := PySem.Challenge.rw_allwritings_k91_whole_told_rows_by_block) (n := 63) (k := 20) (x := "script") (T := Lk91.T) (ats := Lk91.ats) (tf := Lk91H.tf) (fa := Lk91H.fa) (fn := Lk91H.fn) (ts := []) rfl (by decide) (by kernel_rfl) ⟨rfl, by decide, by decide⟩ ?F
    intro w mg fa h Y G hmg0
    obtain ⟨K, KX, sx⟩ := Y
    have c := sx.t.d
    have ex := sx.more
    have hmg : mg ("law" : PySem.Str) = some (.ref fa) := by
      have e : (HandSHeadRun.topDef (OpenLaw.row PySem.Challenge.rw_allwritings_k91_whole_told_rows_by_block).prog 60).name = ("law" : PySem.Str) := by kernel_rfl
      rw [← e]
      exact hmg0
    have e := hmg.symm.trans (Lk91H.gl KX G c "law" rfl)
    cases e
    obtain ⟨fd, F⟩ := c.def_ 46 (d := Lk91H.df46) rfl
    have b := L2.FunD.bindsA (ps := (["script"] : List PySem.Str)) F fun _ _ _ _ _ _ us hl => match us, hl with | [_], _ => rfl
    exact ⟨K, fd, KX, sx, fun s v => b s [v] rfl, fun base _ _ tb => Lk91H.ok_law (w := w) (base := base) KX G c ex tb sem F⟩

theorem PySem.Challenge.cw_allwritings_k91_whole_told_rows_by_block_holds : PySem.Challenge.rw_allwritings_k91_whole_told_rows_by_block.Holds :=
  Lk91.holds Lk91.sem
