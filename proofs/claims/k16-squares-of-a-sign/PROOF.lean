import PyProof.Rows.All
import Wide.All
import OpenK.AllK
import Wide.FinOn
import HandS.ForMost
import HandS.Exc
import HandS.TryOnly
import HandS.ExcOwn
import HandS.WordsExc
import HandS.Deep
import HandS.IsInst
import HandS.SortInts
import HandS.Walk
import HandS.Flow
import HandS.Style
import HandS.Conv
import HandS.HeadWalk
import HandS.Defaults
import HandS.WideBits
import HandS.Head0
import HandS.Head1
import HandS.Head2
import HandS.HeadEnd
import HandS.HeadHook1
import HandS.HeadHook2
import HandS.ExcIs
import HandS.ExcValue
import HandS.SetFor
import HandS.Replace
import HandS.Codes
import PySem.Challenge.RW_cluemaker_k16_squares_of_a_sign
set_option Elab.async false
set_option linter.all false
set_option maxRecDepth 100000
/-! Values as trees, and how a heap bears them. -/
namespace Cm
open PySem PySem.Spec PyProof.Rows L2

/-- a value as a tree -/
inductive D where
  | non | bl (b : Bool) | int (i : Int) | str (s : List Nat)
  | lst (xs : List D) | tup (xs : List D)
  | ins (c : Nat) (fs : List D) | exc (c : Nat) (fs : List D)

mutual
/-- no list stands in it (what an instance holds is not looked at) -/
@[simp] def D.flat : D → Bool
  | .lst _ => false
  | .tup xs => D.flats xs
  | .exc _ fs => D.flats fs
  | .non => true
  | .bl _ => true
  | .int _ => true
  | .str _ => true
  | .ins _ _ => true
@[simp] def D.flats : List D → Bool
  | [] => true
  | d :: ds => d.flat && D.flats ds
end
mutual
/-- data of at most so many levels, texts of signs that are signs -/
def D.fit : D → Nat → Bool
  | .non, _ => true
  | .bl _, _ => true
  | .int _, _ => true
  | .str s, _ => PyData.strOk ⟨s.toArray⟩
  | .lst xs, n => decide (0 < n) && D.fits xs (n - 1)
  | .tup xs, n => decide (0 < n) && D.fits xs (n - 1)
  | .ins _ _, _ => false
  | .exc _ _, _ => false
def D.fits : List D → Nat → Bool
  | [], _ => true
  | d :: ds, n => d.fit n && D.fits ds n
end
mutual
def D.py : D → PyData
  | .non => .none
  | .bl b => .bool b
  | .int i => .int i
  | .str s => .str ⟨s.toArray⟩
  | .lst xs => .list (D.pys xs)
  | .tup xs => .tuple (D.pys xs)
  | .ins _ _ => .none
  | .exc _ _ => .none
def D.pys : List D → List PyData
  | [] => []
  | d :: ds => d.py :: D.pys ds
end
mutual
/-- == of Python, of data -/
def D.eqb : D → D → Bool
  | .non, y => match y with
    | .non => true
    | _ => false
  | .bl a, y => match y with
    | .bl b => a == b
    | .int j => decide ((if a then 1 else 0) = j)
    | _ => false
  | .int i, y => match y with
    | .bl b => decide (i = (if b then 1 else 0))
    | .int j => decide (i = j)
    | _ => false
  | .str x, y => match y with
    | .str z => decide (x = z)
    | _ => false
  | .lst xs, y => match y with
    | .lst ys => D.eqbs xs ys
    | _ => false
  | .tup xs, y => match y with
    | .tup ys => D.eqbs xs ys
    | _ => false
  | .ins _ _, _ => false
  | .exc _ _, _ => false
def D.eqbs : List D → List D → Bool
  | [], ys => match ys with
    | [] => true
    | _ => false
  | x :: xs, ys => match ys with
    | [] => false
    | y :: ys => D.eqb x y && D.eqbs xs ys
end

mutual
theorem D.canLay : ∀ (d : D) (n : Nat), d.fit n = true → d.py.canLay0 = true ∧ d.py.depth ≤ n
  | .non, n, _ => ⟨by simp [D.py, PyData.canLay0], by simp [D.py, PyData.depth]⟩
  | .bl _, n, _ => ⟨by simp [D.py, PyData.canLay0], by simp [D.py, PyData.depth]⟩
  | .int _, n, _ => ⟨by simp [D.py, PyData.canLay0], by simp [D.py, PyData.depth]⟩
  | .str s, n, h => ⟨by simpa [D.py, PyData.canLay0, D.fit] using h, by simp [D.py, PyData.depth]⟩
  | .lst xs, n, h => by
    simp only [D.fit, Bool.and_eq_true, decide_eq_true_eq] at h
    obtain ⟨h1, h2⟩ := D.canLays xs (n - 1) h.2
    refine ⟨by simpa [D.py, PyData.canLay0] using h1, ?_⟩
    simp only [D.py, PyData.depth]
    omega
  | .tup xs, n, h => by
    simp only [D.fit, Bool.and_eq_true, decide_eq_true_eq] at h
    obtain ⟨h1, h2⟩ := D.canLays xs (n - 1) h.2
    refine ⟨by simpa [D.py, PyData.canLay0] using h1, ?_⟩
    simp only [D.py, PyData.depth]
    omega
  | .ins _ _, _, h => by simp [D.fit] at h
  | .exc _ _, _, h => by simp [D.fit] at h
theorem D.canLays : ∀ (ds : List D) (n : Nat), D.fits ds n = true → PyData.canLayAll0 (D.pys ds) = true ∧ PyData.depthAll (D.pys ds) ≤ n
  | [], n, _ => ⟨by simp [D.pys, PyData.canLayAll0], by simp [D.pys, PyData.depthAll]⟩
  | d :: ds, n, h => by
    simp only [D.fits, Bool.and_eq_true] at h
    obtain ⟨h1, h2⟩ := D.canLay d n h.1
    obtain ⟨h3, h4⟩ := D.canLays ds n h.2
    refine ⟨by simp [D.pys, PyData.canLayAll0, h1, h3], ?_⟩
    simp only [D.pys, PyData.depthAll]
    omega
end
theorem D.shaped {d : D} (h : d.fit 64 = true) : SeqAt.shaped d.py = true := by
  obtain ⟨h1, h2⟩ := D.canLay d 64 h
  simp [SeqAt.shaped, h1, h2]
theorem toArray_inj {x z : List Nat} : (x.toArray = z.toArray) ↔ x = z := by
  constructor
  · intro h
    have := congrArg Array.toList h
    simpa using this
  · rintro rfl; rfl
mutual
theorem D.eqv_py : ∀ (a b : D) (n m : Nat), a.fit n = true → b.fit m = true → PyData.eqv a.py b.py = a.eqb b
  | .non, b, _, _, _, hb => by cases b <;> simp [D.py, D.eqb, PyData.eqv, D.fit] at *
  | .bl x, b, _, _, _, hb => by
    cases b <;> simp [D.py, D.eqb, PyData.eqv, D.fit] at *
    cases x <;> simp [Bool.beq_eq_decide_eq] <;> rfl
  | .int x, b, _, _, _, hb => by
    cases b <;> simp [D.py, D.eqb, PyData.eqv, D.fit] at *
    · rename_i y; cases y <;> simp [Bool.beq_eq_decide_eq] <;> rfl
    · rfl
  | .str x, b, _, _, _, hb => by
    cases b <;> simp [D.py, D.eqb, PyData.eqv, D.fit] at *
    rename_i z
    by_cases e : x = z
    · subst e; simp
    · rw [decide_eq_false e]
      refine beq_eq_false_iff_ne.mpr fun q => e ?_
      injection q with q
      exact toArray_inj.mp q
  | .lst xs, b, n, m, ha, hb => by
    cases b with
    | lst ys =>
      simp only [D.fit, Bool.and_eq_true, decide_eq_true_eq] at ha hb
      simp only [D.py, D.eqb, PyData.eqv]
      exact D.eqv_pys xs ys _ _ ha.2 hb.2
    | _ => simp [D.py, D.eqb, PyData.eqv, D.fit] at *
  | .tup xs, b, n, m, ha, hb => by
    cases b with
    | tup ys =>
      simp only [D.fit, Bool.and_eq_true, decide_eq_true_eq] at ha hb
      simp only [D.py, D.eqb, PyData.eqv]
      exact D.eqv_pys xs ys _ _ ha.2 hb.2
    | _ => simp [D.py, D.eqb, PyData.eqv, D.fit] at *
  | .ins _ _, _, _, _, h, _ => by simp [D.fit] at h
  | .exc _ _, _, _, _, h, _ => by simp [D.fit] at h
theorem D.eqv_pys : ∀ (xs ys : List D) (n m : Nat), D.fits xs n = true → D.fits ys m = true → PyData.eqvAll (D.pys xs) (D.pys ys) = D.eqbs xs ys
  | [], ys, _, _, _, _ => by cases ys <;> simp [D.pys, D.eqbs, PyData.eqvAll]
  | x :: xs, ys, n, m, ha, hb => by
    cases ys with
    | nil => simp [D.pys, D.eqbs, PyData.eqvAll]
    | cons y ys =>
      simp only [D.fits, Bool.and_eq_true] at ha hb
      simp only [D.pys, D.eqbs, PyData.eqvAll]
      rw [D.eqv_py x y n m ha.1 hb.1, D.eqv_pys xs ys n m ha.2 hb.2]
end

/-! ### how a heap bears a tree -/
/-- the module: its written part, the classes' addresses, their fields in order -/
structure Glo where
  K : PySem.W.Frag
  ca : Nat → Addr
  fl : Nat → List Str

/-- an exception object of the class cls, caught, at a -/
def exK (cls : Value) (a : Addr) : HO := .ext fun h => ∃ (oe : Obj) (vs : Array Value), h.get? a = some oe ∧ Zc cls none oe ∧ oe.data = .fields vs
theorem exK_ok {P : Program} {w : World} {H : Hp} {h : Heap} {a : Addr} {cls : Value} {oe : Obj} {vs : Array Value} (e : h.get? a = some oe) (z : Zc cls none oe) (d : oe.data = .fields vs) : ObjOk P w H h a (exK cls a) :=
  ⟨⟨oe, vs, e, z, d⟩, ⟨oe, e⟩, fun _ _ ⟨o, v, q, r⟩ k => ⟨o, v, k o q, r⟩⟩
mutual
/-- P: what never changes (tuples, instances and what they hold); LN: which lists may stand in it -/
def Rep (G : Glo) (P : Hp) (LN : Addr → List V → Prop) : D → V → Prop
  | .non, v => v = .non
  | .bl b, v => v = .bl b
  | .int i, v => v = .int i
  | .str s, v => v = .str ⟨s.toArray⟩
  | .lst ds, v => ∃ a xs, v = .ref a ∧ LN a xs ∧ Reps G P LN ds xs
  | .tup ds, v => ∃ a xs, v = .ref a ∧ SqT G.K P a xs ∧ Reps G P LN ds xs
  | .ins c ds, v => ∃ a dx xs, v = .ref a ∧ P a = some (.ins (G.ca c) dx ((G.fl c).zip xs)) ∧ (G.fl c).length = ds.length ∧ Reps G P (SqL G.K P) ds xs
  | .exc c fs, v => fs = [] ∧ ∃ a, v = .ref a ∧ P a = some (exK (.ref (G.ca c)) a)
def Reps (G : Glo) (P : Hp) (LN : Addr → List V → Prop) : List D → List V → Prop
  | [], vs => vs = []
  | d :: ds, vs => ∃ v r, vs = v :: r ∧ Rep G P LN d v ∧ Reps G P LN ds r
end
theorem Same.seqT {K : PySem.W.Frag} {H H' : Hp} {a : Addr} {xs : List V} (e : Same H H') (h : SqT K H a xs) : SqT K H' a xs := by
  rcases h with (h | ⟨o, h⟩) | h
  · exact .inl (.inl (e _ _ h))
  · exact .inl (.inr ⟨o, e _ _ h⟩)
  · exact .inr h
section
variable {G : Glo} {P P' : Hp} {LN LN' : Addr → List V → Prop}
mutual
theorem Rep.mono (hp : Same P P') : ∀ (d : D) (v : V) {LN LN' : Addr → List V → Prop} (_ : ∀ a xs, LN a xs → LN' a xs), Rep G P LN d v → Rep G P' LN' d v
  | .non, _, _, _, _, h => h
  | .bl _, _, _, _, _, h => h
  | .int _, _, _, _, _, h => h
  | .str _, _, _, _, _, h => h
  | .lst ds, v, _, _, hl, ⟨a, xs, e, h1, h2⟩ => ⟨a, xs, e, hl _ _ h1, Reps.mono hp ds xs hl h2⟩
  | .tup ds, v, _, _, hl, ⟨a, xs, e, h1, h2⟩ => ⟨a, xs, e, Same.seqT hp h1, Reps.mono hp ds xs hl h2⟩
  | .ins c ds, v, _, _, hl, ⟨a, dx, xs, e, h1, h2, h3⟩ => ⟨a, dx, xs, e, hp _ _ h1, h2, Reps.mono hp ds xs (fun _ _ q => L2.Same.seq hp q) h3⟩
  | .exc _ _, _, _, _, _, ⟨e, a, h1, h2⟩ => ⟨e, a, h1, hp _ _ h2⟩
theorem Reps.mono (hp : Same P P') : ∀ (ds : List D) (vs : List V) {LN LN' : Addr → List V → Prop} (_ : ∀ a xs, LN a xs → LN' a xs), Reps G P LN ds vs → Reps G P' LN' ds vs
  | [], _, _, _, _, h => h
  | d :: ds, vs, _, _, hl, ⟨v, r, e, h1, h2⟩ => ⟨v, r, e, Rep.mono hp d v hl h1, Reps.mono hp ds r hl h2⟩
end
mutual
/-- where no list stands any lists do -/
theorem Rep.flat : ∀ (d : D) (v : V), d.flat = true → Rep G P LN d v → Rep G P LN' d v
  | .non, _, _, h => h
  | .bl _, _, _, h => h
  | .int _, _, _, h => h
  | .str _, _, _, h => h
  | .lst ds, v, f, _ => by simp [D.flat] at f
  | .tup ds, v, f, ⟨a, xs, e, h1, h2⟩ => ⟨a, xs, e, h1, Reps.flat ds xs (by simpa [D.flat] using f) h2⟩
  | .ins c ds, v, _, h => h
  | .exc _ _, _, _, h => h
theorem Reps.flat : ∀ (ds : List D) (vs : List V), D.flats ds = true → Reps G P LN ds vs → Reps G P LN' ds vs
  | [], _, _, h => h
  | d :: ds, vs, f, ⟨v, r, e, h1, h2⟩ => by
    simp only [D.flats, Bool.and_eq_true] at f
    exact ⟨v, r, e, Rep.flat d v f.1 h1, Reps.flat ds r f.2 h2⟩
end
theorem Reps.length : ∀ {ds : List D} {vs : List V}, Reps G P LN ds vs → vs.length = ds.length
  | [], _, h => by cases h; rfl
  | d :: ds, vs, ⟨v, r, e, h1, h2⟩ => by subst e; simp [Reps.length h2]
theorem Reps.get : ∀ {ds : List D} {vs : List V} {i : Nat} {d : D}, Reps G P LN ds vs → ds[i]? = some d → ∃ v, vs[i]? = some v ∧ Rep G P LN d v
  | [], _, _, _, _, h => by simp at h
  | d :: ds, vs, 0, _, ⟨v, r, e, h1, h2⟩, h => by subst e; simp at h; subst h; exact ⟨v, rfl, h1⟩
  | d :: ds, vs, i + 1, _, ⟨v, r, e, h1, h2⟩, h => by subst e; simp at h; obtain ⟨w, q1, q2⟩ := Reps.get h2 h; exact ⟨w, by simpa using q1, q2⟩
theorem Reps.append : ∀ {ds es : List D} {vs us : List V}, Reps G P LN ds vs → Reps G P LN es us → Reps G P LN (ds ++ es) (vs ++ us)
  | [], _, _, _, h, q => by cases h; exact q
  | d :: ds, es, vs, us, ⟨v, r, e, h1, h2⟩, q => by subst e; exact ⟨v, r ++ us, rfl, h1, Reps.append h2 q⟩
theorem Reps.take : ∀ {ds : List D} {vs : List V} (n : Nat), Reps G P LN ds vs → Reps G P LN (ds.take n) (vs.take n)
  | [], _, _, h => by cases h; simp [Reps]
  | d :: ds, vs, 0, _ => by simp [Reps]
  | d :: ds, vs, n + 1, ⟨v, r, e, h1, h2⟩ => by subst e; exact ⟨v, r.take n, rfl, h1, Reps.take n h2⟩
theorem Reps.drop : ∀ {ds : List D} {vs : List V} (n : Nat), Reps G P LN ds vs → Reps G P LN (ds.drop n) (vs.drop n)
  | [], _, _, h => by cases h; simp [Reps]
  | d :: ds, vs, 0, h => h
  | d :: ds, vs, n + 1, ⟨v, r, e, h1, h2⟩ => by subst e; exact Reps.drop n h2
theorem Reps.set {x : D} {u : V} (hx : Rep G P LN x u) : ∀ {ds : List D} {vs : List V} (n : Nat), Reps G P LN ds vs → Reps G P LN (ds.set n x) (vs.set n u)
  | [], _, _, h => by cases h; simp [Reps]
  | d :: ds, vs, 0, ⟨v, r, e, h1, h2⟩ => by subst e; exact ⟨u, r, rfl, hx, h2⟩
  | d :: ds, vs, n + 1, ⟨v, r, e, h1, h2⟩ => by subst e; exact ⟨v, r.set n u, rfl, h1, Reps.set hx n h2⟩
theorem Reps.eraseIdx : ∀ {ds : List D} {vs : List V} (n : Nat), Reps G P LN ds vs → Reps G P LN (ds.eraseIdx n) (vs.eraseIdx n)
  | [], _, _, h => by cases h; simp [Reps]
  | d :: ds, vs, 0, ⟨v, r, e, h1, h2⟩ => by subst e; exact h2
  | d :: ds, vs, n + 1, ⟨v, r, e, h1, h2⟩ => by subst e; exact ⟨v, r.eraseIdx n, rfl, h1, Reps.eraseIdx n h2⟩
theorem Reps.one {d : D} {v : V} (h : Rep G P LN d v) : Reps G P LN [d] [v] := ⟨v, [], rfl, h, rfl⟩
theorem Reps.ints : ∀ {ns : List Int} {vs : List V}, Reps G P LN (ns.map D.int) vs ↔ vs = ns.map V.int
  | [], vs => Iff.rfl
  | n :: ns, vs => by
    constructor
    · rintro ⟨v, r, e, h1, h2⟩
      rw [e, h1, Reps.ints.mp h2]; rfl
    · intro e
      exact ⟨_, _, e, rfl, Reps.ints.mpr rfl⟩
theorem Reps.reverse : ∀ {ds : List D} {vs : List V}, Reps G P LN ds vs → Reps G P LN ds.reverse vs.reverse
  | [], _, h => by cases h; exact rfl
  | d :: ds, vs, ⟨v, r, e, h1, h2⟩ => by
    subst e
    simp only [List.reverse_cons]
    exact (Reps.reverse h2).append (Reps.one h1)
theorem Reps.replicate {d : D} {v : V} (h : Rep G P LN d v) : ∀ n, Reps G P LN (List.replicate n d) (List.replicate n v)
  | 0 => rfl
  | n + 1 => ⟨v, _, rfl, h, Reps.replicate h n⟩
/-! data -/
mutual
theorem Rep.dp {H : Hp} (hp : Same P H) (hl : ∀ a xs, LN a xs → SqL G.K H a xs) : ∀ (d : D) (v : V) (n : Nat), d.fit n = true → Rep G P LN d v → Dp G.K H v d.py
  | .non, _, _, _, h => by cases h; exact .non
  | .bl b, _, _, _, h => by cases h; exact .bl b
  | .int i, _, _, _, h => by cases h; exact .int i
  | .str s, _, _, _, h => by cases h; exact .str _
  | .lst ds, v, n, f, ⟨a, xs, e, h1, h2⟩ => by
    subst e
    simp only [D.fit, Bool.and_eq_true] at f
    exact .lst (hl _ _ h1) (Reps.dp hp hl ds xs _ f.2 h2)
  | .tup ds, v, n, f, ⟨a, xs, e, h1, h2⟩ => by
    subst e
    simp only [D.fit, Bool.and_eq_true] at f
    exact .tup (Same.seqT hp h1) (Reps.dp hp hl ds xs _ f.2 h2)
  | .ins c ds, v, _, f, _ => by simp [D.fit] at f
  | .exc _ _, _, _, f, _ => by simp [D.fit] at f
theorem Reps.dp {H : Hp} (hp : Same P H) (hl : ∀ a xs, LN a xs → SqL G.K H a xs) : ∀ (ds : List D) (vs : List V) (n : Nat), D.fits ds n = true → Reps G P LN ds vs → DpAll G.K H vs (D.pys ds)
  | [], _, _, _, h => by cases h; exact .nil
  | d :: ds, vs, n, f, ⟨v, r, e, h1, h2⟩ => by
    subst e
    simp only [D.fits, Bool.and_eq_true] at f
    exact .cons (Rep.dp hp hl d v n f.1 h1) (Reps.dp hp hl ds r n f.2 h2)
end
end
end Cm

set_option Elab.async false
set_option linter.all false
set_option maxRecDepth 100000
/-! Regions of the heap, the slots of a frame, what an expression's value is, what a def promises. -/
namespace Cm
open PySem PySem.Spec PyProof.Rows L2

/-- an answer: none can be told, a value, an exception -/
inductive RE (α : Type) where
  | bad | ok (a : α) | exc (c : Nat) (fs : List D)
def RE.bind {α β : Type} : RE α → (α → RE β) → RE β
  | .bad, _ => .bad
  | .ok a, f => f a
  | .exc c fs, _ => .exc c fs
@[simp] theorem RE.bind_ok {α β : Type} (a : α) (f : α → RE β) : (RE.ok a).bind f = f a := rfl
@[simp] theorem RE.bind_bad {α β : Type} (f : α → RE β) : (RE.bad : RE α).bind f = .bad := rfl
@[simp] theorem RE.bind_exc {α β : Type} (c : Nat) (fs : List D) (f : α → RE β) : (RE.exc c fs : RE α).bind f = .exc c fs := rfl

/-- a slot: unknown, a value, a list of its own. The flag: its lists are new (made by this call, nowhere else) -/
inductive Sl where
  | non | val (d : D) (b : Bool) | own (ds : List D) (b : Bool)
  /-- an instance under way -/
  | slf (c : Nat) (fs : List D)
/-- what an expression gives: a value, a new list that nothing else holds, a slot's own list -/
inductive ER where
  | val (d : D) (b : Bool) | fre (ds : List D) (b : Bool) | brw (ds : List D) (b : Bool)
def ER.d : ER → D
  | .val d _ => d
  | .fre ds _ => .lst ds
  | .brw ds _ => .lst ds
def ER.b : ER → Bool
  | .val _ b => b
  | .fre _ b => b
  | .brw _ b => b
@[simp] theorem ER.d_val {d : D} {b : Bool} : (ER.val d b).d = d := rfl
@[simp] theorem ER.d_fre {d : List D} {b : Bool} : (ER.fre d b).d = .lst d := rfl
@[simp] theorem ER.d_brw {d : List D} {b : Bool} : (ER.brw d b).d = .lst d := rfl
@[simp] theorem ER.b_val {d : D} {b : Bool} : (ER.val d b).b = b := rfl
@[simp] theorem ER.b_fre {d : List D} {b : Bool} : (ER.fre d b).b = b := rfl
@[simp] theorem ER.b_brw {d : List D} {b : Bool} : (ER.brw d b).b = b := rfl
@[simp] def ER.isB : ER → Bool
  | .brw _ _ => true
  | _ => false
@[simp] def ER.isV : ER → Bool
  | .val _ _ => true
  | _ => false
/-- a new list is held from now on -/
@[simp] def ER.frz : ER → ER
  | .fre ds b => .val (.lst ds) b
  | e => e

def LNb (K : PySem.W.Frag) (P N R : Hp) (b : Bool) : Addr → List V → Prop := fun a xs => SqL K P a xs ∨ SqL K N a xs ∨ (b = false ∧ SqL K R a xs)
theorem LNb.mono {K : PySem.W.Frag} {P N R P' N' : Hp} {b : Bool} (hp : Same P P') (hn : Same N N') : ∀ a xs, LNb K P N R b a xs → LNb K P' N' R b a xs := fun a xs h => by
  rcases h with h | h | h
  · exact .inl (L2.Same.seq hp h)
  · exact .inr (.inl (L2.Same.seq hn h))
  · exact .inr (.inr h)
theorem LNb.weak {K : PySem.W.Frag} {P N R : Hp} {b : Bool} : ∀ a xs, LNb K P N R b a xs → LNb K P N R false a xs := fun a xs h => by
  rcases h with h | h | h
  · exact .inl h
  · exact .inr (.inl h)
  · exact .inr (.inr ⟨rfl, h.2⟩)
theorem LNb.and1 {K : PySem.W.Frag} {P N R : Hp} {b c : Bool} : ∀ a xs, LNb K P N R b a xs → LNb K P N R (b && c) a xs := fun a xs h => by
  rcases h with h | h | ⟨h1, h2⟩
  · exact .inl h
  · exact .inr (.inl h)
  · exact .inr (.inr ⟨by simp [h1], h2⟩)
theorem LNb.and2 {K : PySem.W.Frag} {P N R : Hp} {b c : Bool} : ∀ a xs, LNb K P N R c a xs → LNb K P N R (b && c) a xs := fun a xs h => by
  rcases h with h | h | ⟨h1, h2⟩
  · exact .inl h
  · exact .inr (.inl h)
  · exact .inr (.inr ⟨by simp [h1], h2⟩)
theorem LNb.seq {K : PySem.W.Frag} {P N R H : Hp} {b : Bool} (hp : Same P H) (hn : Same N H) (hr : Same R H) : ∀ a xs, LNb K P N R b a xs → SqL K H a xs := fun a xs h => by
  rcases h with h | h | h
  · exact L2.Same.seq hp h
  · exact L2.Same.seq hn h
  · exact L2.Same.seq hr h.2

/-- the regions have grown -/
structure Adv (P N H P' N' H' : Hp) : Prop where
  hh : Same H H'
  pp : Same P P'
  nn : Same N N'
  pH : Same P' H'
  nH : Same N' H'
  pn : ∀ a, P' a ≠ none → P a ≠ none ∨ H a = none
  nw : ∀ a, N' a ≠ none → N a ≠ none ∨ H a = none
theorem Adv.refl {P N H : Hp} (hp : Same P H) (hn : Same N H) : Adv P N H P N H := ⟨L2.Same.refl _, L2.Same.refl _, L2.Same.refl _, hp, hn, fun _ h => .inl h, fun _ h => .inl h⟩
theorem Adv.trans {P N H P' N' H' P'' N'' H'' : Hp} (s : Adv P N H P' N' H') (t : Adv P' N' H' P'' N'' H'') : Adv P N H P'' N'' H'' where
  hh := s.hh.trans t.hh
  pp := s.pp.trans t.pp
  nn := s.nn.trans t.nn
  pH := t.pH
  nH := t.nH
  pn := fun a h => by
    rcases t.pn a h with h | h
    · exact s.pn a h
    · exact .inr (s.hh.free h)
  nw := fun a h => by
    rcases t.nw a h with h | h
    · exact s.nw a h
    · exact .inr (s.hh.free h)
/-- a heap alone has grown -/
theorem Adv.heap {P N H P' N' H' H'' : Hp} (s : Adv P N H P' N' H') (e : Same H' H'') : Adv P N H P' N' H'' :=
  ⟨s.hh.trans e, s.pp, s.nn, s.pH.trans e, s.nH.trans e, s.pn, s.nw⟩
theorem same_upd {H : Hp} {p : Addr} {o : HO} (h : H p = none) : Same H (upd H p o) := fun b u e => by
  rw [upd_ne (ne_of_none e h)]; exact e
theorem same_upd2 {P H : Hp} {p : Addr} {o : HO} (h : Same P H) : Same (upd P p o) (upd H p o) := fun b u e => by
  by_cases q : b = p
  · subst q; rw [upd_same] at e ⊢; exact e
  · rw [upd_ne q] at e ⊢; exact h _ _ e
/-- of what does not stand at p -/
theorem same_off {P H : Hp} {p : Addr} {o : HO} (h : Same P H) (n : P p = none) : Same P (upd H p o) := fun b u e => by
  rw [upd_ne (ne_of_none e n)]; exact h _ _ e
theorem same_in {P H : Hp} {p : Addr} {o : HO} (h : Same P H) (e : H p = some o) : Same (upd P p o) H := fun b u q => by
  by_cases z : b = p
  · subst z; rw [upd_same] at q; cases q; exact e
  · rw [upd_ne z] at q; exact h _ _ q
/-- a new permanent object -/
theorem Adv.newP {P N H P' N' H' : Hp} (s : Adv P N H P' N' H') {p : Addr} {o : HO} (hp : H' p = none) : Adv P N H (upd P' p o) N' (upd H' p o) where
  hh := s.hh.trans (same_upd hp)
  pp := s.pp.trans (same_upd (s.pH.free hp))
  nn := s.nn
  pH := same_upd2 s.pH
  nH := s.nH.trans (same_upd hp)
  pn := fun a h => by
    by_cases q : a = p
    · exact .inr (by rw [q]; exact s.hh.free hp)
    · rw [upd_ne q] at h; exact s.pn a h
  nw := s.nw
/-- a new list is held -/
theorem Adv.holdN {P N H P' N' H' : Hp} (s : Adv P N H P' N' H') {p : Addr} {o : HO} (h0 : H p = none) (hp : H' p = some o) (hn : N' p = none) : Adv P N H P' (upd N' p o) H' where
  hh := s.hh
  pp := s.pp
  nn := s.nn.trans (same_upd hn)
  pH := s.pH
  nH := same_in s.nH hp
  pn := s.pn
  nw := fun a h => by
    by_cases q : a = p
    · exact .inr (by rw [q]; exact h0)
    · rw [upd_ne q] at h; exact s.nw a h

/-- what an expression is told in: the module, the old lists that may be read, the heap at the call, what was permanent then, the wish for what is raised -/
structure Ctx where
  G : Glo
  R : Hp
  B : Hp
  P0 : Hp
  W : WX
  /-- the instance under way -/
  S : Addr
section
variable (C : Ctx) (P N H : Hp)
abbrev RepB (b : Bool) (d : D) (v : V) : Prop := Rep C.G P (LNb C.G.K P N C.R b) d v
abbrev RepsB (b : Bool) (ds : List D) (vs : List V) : Prop := Reps C.G P (LNb C.G.K P N C.R b) ds vs
def SlR : Sl → Option V → Prop
  | .non, _ => True
  | .val d b, o => ∃ v, o = some v ∧ RepB C P N b d v
  | .own ds b, o => ∃ p xs, o = some (.ref p) ∧ H p = some (.lst xs) ∧ P p = none ∧ N p = none ∧ C.B p = none ∧ RepsB C P N b ds xs
  | .slf c fs, o => ∃ p dx xs, (p = C.S ∧ o = some (.ref p)) ∧ H p = some (.ins (C.G.ca c) dx ((C.G.fl c).zip xs)) ∧ P p = none ∧ N p = none ∧ C.B p = none ∧ fs.length ≤ (C.G.fl c).length ∧ RepsB C P N true fs xs
/-- H0: the heap ahead of the expression -/
def ERr (H0 : Hp) : ER → V → Prop
  | .val d b, v => RepB C P N b d v
  | .fre ds b, v => ∃ p xs, v = .ref p ∧ H p = some (.lst xs) ∧ H0 p = none ∧ P p = none ∧ N p = none ∧ RepsB C P N b ds xs
  | .brw ds b, v => ∃ p xs, v = .ref p ∧ H p = some (.lst xs) ∧ P p = none ∧ N p = none ∧ C.B p = none ∧ RepsB C P N b ds xs
def ERs (H0 : Hp) : List ER → List V → Prop
  | [], vs => vs = []
  | e :: es, vs => ∃ v r, vs = v :: r ∧ ERr C P N H H0 e v ∧ ERs H0 es r
/-- the fields of an exception's own dict -/
def ExR (fs : List D) (d : Option Addr) : Prop := (fs = [] ∧ d = none) ∨ ∃ dd f v, fs = [f] ∧ d = some dd ∧ H dd = some (.xd [(("at" : Str), v)]) ∧ RepB C P N true f v
/-- the regions' order -/
structure Reg : Prop where
  pH : Same P H
  nH : Same N H
  bH : Same C.B H
  rB : Same C.R C.B
  p0 : Same C.P0 P
  pn : ∀ a, P a ≠ none → C.P0 a ≠ none ∨ C.B a = none
  nw : ∀ a, N a ≠ none → C.B a = none
/-- the frame's slots -/
structure SR (ρ : List Sl) (σ : L2.St) : Prop where
  reg : Reg C P N H
  len : σ.length = ρ.length
  sl : ∀ (i : Nat) (s : Sl), ρ[i]? = some s → ∃ o, σ[i]? = some o ∧ SlR C P N H s o
  ap : ∀ (i j : Nat) (p : Addr) (ds : List D) (b : Bool) (es : List D) (c : Bool), ρ[i]? = some (.own ds b) → ρ[j]? = some (.own es c) → σ[i]? = some (some (.ref p)) → σ[j]? = some (some (.ref p)) → i = j
end
section
variable {C : Ctx} {P N H P' N' H' : Hp} {ρ : List Sl} {σ : L2.St}
theorem Reg.rH (h : Reg C P N H) : Same C.R H := h.rB.trans h.bH
theorem Reg.adv (h : Reg C P N H) (a : Adv P N H P' N' H') : Reg C P' N' H' where
  pH := a.pH
  nH := a.nH
  bH := h.bH.trans a.hh
  rB := h.rB
  p0 := h.p0.trans a.pp
  pn := fun q e => by
    rcases a.pn q e with e | e
    · exact h.pn q e
    · exact .inr (h.bH.free e)
  nw := fun q e => by
    rcases a.nw q e with e | e
    · exact h.nw q e
    · exact h.bH.free e
theorem RepB.adv {b : Bool} {d : D} {v : V} (hp : Same P P') (hn : Same N N') (h : RepB C P N b d v) : RepB C P' N' b d v := Rep.mono hp d v (LNb.mono hp hn) h
theorem RepsB.adv {b : Bool} {ds : List D} {vs : List V} (hp : Same P P') (hn : Same N N') (h : RepsB C P N b ds vs) : RepsB C P' N' b ds vs := Reps.mono hp ds vs (LNb.mono hp hn) h
theorem RepB.and1 {b c : Bool} {d : D} {v : V} (h : RepB C P N b d v) : RepB C P N (b && c) d v := Rep.mono (L2.Same.refl _) d v LNb.and1 h
theorem RepB.and2 {b c : Bool} {d : D} {v : V} (h : RepB C P N c d v) : RepB C P N (b && c) d v := Rep.mono (L2.Same.refl _) d v LNb.and2 h
theorem RepsB.and1 {b c : Bool} {d : List D} {v : List V} (h : RepsB C P N b d v) : RepsB C P N (b && c) d v := Reps.mono (L2.Same.refl _) d v LNb.and1 h
theorem RepsB.and2 {b c : Bool} {d : List D} {v : List V} (h : RepsB C P N c d v) : RepsB C P N (b && c) d v := Reps.mono (L2.Same.refl _) d v LNb.and2 h
/-- where no list stands the flag is as one likes -/
theorem RepB.nf {b : Bool} {d : D} {v : V} (h : RepB C P N b d v) : RepB C P N (b || d.flat) d v := by
  cases b with
  | true => exact h
  | false =>
    cases e : d.flat with
    | true => exact Rep.flat d v e h
    | false => exact h
theorem Adv.off (a : Adv P N H P' N' H') {p : Addr} {o : HO} (h : H p = some o) (hp : P p = none) : P' p = none := by
  cases q : P' p with
  | none => rfl
  | some u =>
    rcases a.pn p (by rw [q]; simp) with z | z
    · exact absurd hp z
    · rw [h] at z; cases z
theorem Adv.offN (a : Adv P N H P' N' H') {p : Addr} {o : HO} (h : H p = some o) (hn : N p = none) : N' p = none := by
  cases q : N' p with
  | none => rfl
  | some u =>
    rcases a.nw p (by rw [q]; simp) with z | z
    · exact absurd hn z
    · rw [h] at z; cases z
theorem SlR.adv (a : Adv P N H P' N' H') {s : Sl} {o : Option V} (h : SlR C P N H s o) : SlR C P' N' H' s o := by
  cases s with
  | non => trivial
  | val d b =>
    obtain ⟨v, h3, h4⟩ := h
    exact ⟨v, h3, RepB.adv a.pp a.nn h4⟩
  | own ds b =>
    obtain ⟨p, xs, h3, h4, h5, h6, h7, h8⟩ := h
    exact ⟨p, xs, h3, a.hh _ _ h4, a.off h4 h5, a.offN h4 h6, h7, RepsB.adv a.pp a.nn h8⟩
  | slf c fs =>
    obtain ⟨p, dx, xs, h3, h4, h5, h6, h7, h8, h9⟩ := h
    exact ⟨p, dx, xs, h3, a.hh _ _ h4, a.off h4 h5, a.offN h4 h6, h7, h8, RepsB.adv a.pp a.nn h9⟩
theorem SR.adv (S : SR C P N H ρ σ) (a : Adv P N H P' N' H') : SR C P' N' H' ρ σ where
  reg := S.reg.adv a
  len := S.len
  sl := fun i s e => by
    obtain ⟨o, h1, h2⟩ := S.sl i s e
    exact ⟨o, h1, h2.adv a⟩
  ap := S.ap
theorem ERr.adv (a : Adv P N H P' N' H') {H0 : Hp} {er : ER} {v : V} (h : ERr C P N H H0 er v) : ERr C P' N' H' H0 er v := by
  cases er with
  | val d b => exact RepB.adv a.pp a.nn h
  | fre ds b =>
    obtain ⟨p, xs, h3, h4, h5, h6, h7, h8⟩ := h
    exact ⟨p, xs, h3, a.hh _ _ h4, h5, a.off h4 h6, a.offN h4 h7, RepsB.adv a.pp a.nn h8⟩
  | brw ds b =>
    obtain ⟨p, xs, h3, h4, h5, h6, h7, h8⟩ := h
    exact ⟨p, xs, h3, a.hh _ _ h4, a.off h4 h5, a.offN h4 h6, h7, RepsB.adv a.pp a.nn h8⟩
theorem ERs.adv (a : Adv P N H P' N' H') {H0 : Hp} : ∀ {er : List ER} {v : List V}, ERs C P N H H0 er v → ERs C P' N' H' H0 er v
  | [], _, h => h
  | e :: es, _, ⟨v, r, h1, h2, h3⟩ => ⟨v, r, h1, h2.adv a, ERs.adv a h3⟩
theorem ERr.from {H0 H1 : Hp} (e : Same H1 H0) {er : ER} {v : V} (h : ERr C P N H H0 er v) : ERr C P N H H1 er v := by
  cases er with
  | val d b => exact h
  | fre ds b =>
    obtain ⟨p, xs, h3, h4, h5, h6⟩ := h
    exact ⟨p, xs, h3, h4, e.free h5, h6⟩
  | brw ds b => exact h
theorem ERs.from {H0 H1 : Hp} (e : Same H1 H0) : ∀ {er : List ER} {v : List V}, ERs C P N H H0 er v → ERs C P N H H1 er v
  | [], _, h => h
  | _ :: _, _, ⟨v, r, h1, h2, h3⟩ => ⟨v, r, h1, h2.from e, ERs.from e h3⟩
/-- a new list is held -/
theorem ERr.freeze {P1 N1 H0 : Hp} {er : ER} {v : V} (a : Adv P1 N1 H0 P N H) (h : ERr C P N H H0 er v) : ∃ N'', Adv P1 N1 H0 P N'' H ∧ ERr C P N'' H H0 er.frz v := by
  cases er with
  | val d b => exact ⟨N, a, h⟩
  | brw d b => exact ⟨N, a, h⟩
  | fre ds b =>
    obtain ⟨p, xs, rfl, h1, h2, h3, h4, h5⟩ := h
    have sn : Same N (upd N p (.lst xs)) := same_upd h4
    exact ⟨upd N p (.lst xs), a.holdN h2 h1 h4, p, xs, rfl, .inr (.inl (.inl (.inl upd_same))), RepsB.adv (L2.Same.refl _) sn h5⟩
/-- what is read of it -/
def ERw (C : Ctx) (P N H : Hp) (d : D) (b : Bool) (v : V) : Prop :=
  match d with
  | .lst ds => ∃ p xs, v = .ref p ∧ SqL C.G.K H p xs ∧ RepsB C P N b ds xs
  | d => RepB C P N b d v
theorem ERr.w (r : Reg C P N H) {H0 : Hp} {er : ER} {v : V} (h : ERr C P N H H0 er v) : ERw C P N H er.d er.b v := by
  cases er with
  | val d b =>
    cases d with
    | lst ds =>
      obtain ⟨p, xs, e, h1, h2⟩ := h
      exact ⟨p, xs, e, LNb.seq r.pH r.nH r.rH _ _ h1, h2⟩
    | _ => exact h
  | fre ds b =>
    obtain ⟨p, xs, h3, h4, _, _, _, h5⟩ := h
    exact ⟨p, xs, h3, .inl (.inl h4), h5⟩
  | brw ds b =>
    obtain ⟨p, xs, h3, h4, _, _, _, h5⟩ := h
    exact ⟨p, xs, h3, .inl (.inl h4), h5⟩
end
/-- what a def promises, by a function on trees -/
def spD (G : Glo) (n : Nat) (g : List D → RE ER) : Sp := fun vs H Q E => ∃ P R ds, Same P H ∧ Same R H ∧ Reps G P (SqL G.K R) ds vs ∧ ds.length = n ∧ match g ds with
  | .bad => False
  | .ok er => ∀ v H' P' N', Adv P (fun _ => none) H P' N' H' → ERr ⟨G, R, H, P, fun _ _ _ _ => False, 0⟩ P' N' H' H er v → Q v H'
  | .exc c fs => ∀ d H' P' N', Adv P (fun _ => none) H P' N' H' → ExR ⟨G, R, H, P, fun _ _ _ _ => False, 0⟩ P' N' H' fs d → E (.ref (G.ca c)) d H'
theorem spD_len {G : Glo} {n : Nat} {g : List D → RE ER} {vs : List V} {H : Hp} {Q : VK} {E : XK} (h : spD G n g vs H Q E) : vs.length = n := by
  obtain ⟨P, R, ds, _, _, h1, h2, _⟩ := h
  rw [h1.length, h2]
/-- what an __init__ promises -/
def spI (G : Glo) (c n : Nat) (g : List D → RE (List D)) : Sp := fun vs H Q E => ∃ x dx H0 P R ds us, vs = .ref x :: us ∧ H = upd (upd H0 dx (.own x)) x (.ins (G.ca c) dx []) ∧ H0 x = none ∧ H0 dx = none ∧ Same P H0 ∧ Same R H0 ∧ Reps G P (SqL G.K R) ds us ∧ ds.length = n ∧ match g ds with
  | .bad => False
  | .ok fs => ∀ H' P', Same H0 H' → Same P P' → Same P' H' → (∀ a, P' a ≠ none → P a ≠ none ∨ H0 a = none) → Rep G P' (fun _ _ => False) (.ins c fs) (.ref x) → Q .non H'
  | .exc c fs => ∀ d H' P' N', Adv P (fun _ => none) H0 P' N' H' → ExR ⟨G, R, H0, P, fun _ _ _ _ => False, 0⟩ P' N' H' fs d → E (.ref (G.ca c)) d H'
theorem spI_len {G : Glo} {c n : Nat} {g : List D → RE (List D)} {vs : List V} {H : Hp} {Q : VK} {E : XK} (h : spI G c n g vs H Q E) : vs.length = n + 1 := by
  obtain ⟨x, dx, H0, P, R, ds, us, rfl, _, _, _, _, _, h1, h2, _⟩ := h
  rw [List.length_cons, h1.length, h2]
end Cm

set_option Elab.async false
set_option linter.all false
set_option maxRecDepth 100000
/-! A small language of expressions and statements, its meaning on trees. -/
namespace Cm
open PySem PySem.Spec PyProof.Rows L2

def strOf (s : List Nat) : Str := ⟨s.toArray⟩
inductive Bop where
  | add | sub | mul | fdv | mdl | pow | shl | shr | and | or
inductive Cop where
  | eq | ne | lt | le | gt | ge | isin | nin
/-- built-in functions of values -/
inductive Pri where
  | len | abs | min2 | max2 | min1 | max1 | sum | sorted | all | any | list | int | str | dmd
/-- methods of built-in types that change nothing -/
inductive Bme where
  | split | join | find
inductive Ty where
  | bool | int | str | list | tuple

mutual
inductive Ex where
  | nev
  | var (i : Nat)
  | cint (i : Int)
  | cbl (b : Bool)
  | cnon
  | cstr (s : List Nat)
  | glo (k : Nat)
  | bin (o : Bop) (a b : Ex)
  | cmp (o : Cop) (a b : Ex)
  | chn (o p : Cop) (a b c : Ex)
  | isN (a : Ex)
  | notN (a : Ex)
  | bop (and : Bool) (es : Exs)
  | bnot (a : Ex)
  | neg (a : Ex)
  | ife (c : Te) (a b : Ex)
  | tup (es : Exs)
  | lst (es : Exs)
  | idx (a i : Ex)
  | slc (a : Ex) (lo hi : Exs)
  | rev (a : Ex)
  | call (f : Nat) (es : Exs)
  | pri (p : Pri) (es : Exs)
  | lrng (es : Exs)
  | mth (m : Nat) (o : Ex) (es : Exs)
  | bm1 (m : Bme) (o a : Ex)
  | blen (o : Ex)
  | fld (o : Ex) (f : Nat)
  | isi (a : Ex) (t : Ty)
  | lc (own : List Nat) (it : Itx) (tg : List Nat) (cnd : Tes) (e : Ex)
  | inxL (o a : Ex)
  | inxS (o a : Ex)
  | lset (a : Ex)
  | new (k : Nat) (es : Exs)
  | sfd (i f : Nat)
  | isc (a : Ex) (k : Nat)
  | cntL (o a : Ex)
/-- a test -/
inductive Te where
  | val (e : Ex)
  | bop (and : Bool) (ts : Tes)
  | not (t : Te)
inductive Tes where
  | nil
  | cons (t : Te) (ts : Tes)
inductive Exs where
  | nil
  | cons (e : Ex) (es : Exs)
inductive Itx where
  | any (e : Ex)
  | rng (es : Exs)
  | zp (a b : Ex)
  | en (a : Ex)
  | rv (a : Ex)
end

/-! ### operations on trees -/
@[simp] def ok (d : D) : RE ER := .ok (.val d true)
/-- (one factor below 2^64, or both together below a million bits) -/
def MulOk (i j : Int) : Prop := (-(2 ^ 64) < i ∧ i < 2 ^ 64) ∨ (-(2 ^ 64) < j ∧ j < 2 ^ 64)
instance (i j : Int) : Decidable (MulOk i j) := by unfold MulOk; infer_instance
def DivOk (j : Int) : Prop := j ≠ 0 ∧ j.natAbs < 1073741824
instance (j : Int) : Decidable (DivOk j) := by unfold DivOk; infer_instance
def PowOk (i j : Int) : Prop := 0 ≤ j ∧ j ≤ 1000000 ∧ i.natAbs < 2 ^ 64
instance (i j : Int) : Decidable (PowOk i j) := by unfold PowOk; infer_instance
def LIM : Nat := 16777216
/-! conditions as truths (no instance stands in them) -/
def gd {α : Type} (b : Bool) (r : RE α) : RE α := match b with
  | true => r
  | false => .bad
@[simp] theorem gd_true {α : Type} (r : RE α) : gd true r = r := rfl
theorem gd_if {α : Type} (b : Bool) (r : RE α) : gd b r = if b = true then r else .bad := by cases b <;> rfl
/- (they look at the first numeral alone: where it isn't known they stand still) -/
def mulB (i j : Int) : Bool := Nat.ble i.natAbs 18446744073709551615 || (Nat.ble j.natAbs 18446744073709551615 || Nat.ble (Builtin.Int.intBits i + Builtin.Int.intBits j) 134217728)
def nzB (j : Int) : Bool := Nat.ble 1 j.natAbs
def divB (j : Int) : Bool := nzB j && Nat.ble j.natAbs 1073741823
def dmB (j : Int) : Bool := Nat.ble 1 j.toNat && Nat.ble j.natAbs 1073741823
def nnB (j : Int) : Bool := match j with
  | .ofNat _ => true
  | .negSucc _ => false
def powB (i j : Int) : Bool := nnB j && (Nat.ble j.natAbs 1000000 && Nat.ble i.natAbs 18446744073709551615)
def leB (n : Nat) : Bool := Nat.ble n LIM
def repB (n : Nat) (k : Int) : Bool := Nat.ble k.natAbs 9223372036854775807 && leB (n * k.toNat)
def strB (i : Int) : Bool := Nat.ble i.natAbs.log2 1919
def splB (t s : Nat) : Bool := Nat.ble 1 t && leB (s + 2)
theorem nzB_iff (j : Int) : (nzB j = true) = (j ≠ 0) := by
  unfold nzB
  rw [Nat.ble_eq]
  exact propext ⟨fun h => by omega, fun h => by omega⟩
theorem leB_iff (n : Nat) : (leB n = true) = (n ≤ LIM) := by
  unfold leB
  rw [Nat.ble_eq]
theorem nnB_iff (j : Int) : (nnB j = true) = (0 ≤ j) := by
  cases j with
  | ofNat n => exact propext ⟨fun _ => Int.natCast_nonneg n, fun _ => rfl⟩
  | negSucc n => exact propext ⟨fun h => (by cases h), fun h => (by omega)⟩
theorem mulB_iff (i j : Int) : (mulB i j = true) = (MulOk i j ∨ CMulX i j) := by
  unfold mulB MulOk CMulX
  rw [Bool.or_eq_true, Bool.or_eq_true, Nat.ble_eq, Nat.ble_eq, Nat.ble_eq]
  refine propext ⟨fun h => ?_, fun h => ?_⟩
  · rcases h with h | h | h
    · exact .inl (.inl (by omega))
    · exact .inl (.inr (by omega))
    · exact .inr (by omega)
  · rcases h with (h | h) | h
    · exact .inl (by omega)
    · exact .inr (.inl (by omega))
    · exact .inr (.inr (by omega))
theorem divB_iff (j : Int) : (divB j = true) = DivOk j := by
  unfold divB DivOk
  rw [Bool.and_eq_true, nzB_iff, Nat.ble_eq]
  exact propext ⟨fun h => ⟨h.1, by omega⟩, fun h => ⟨h.1, by omega⟩⟩
theorem dmB_iff (j : Int) : (dmB j = true) = (0 < j ∧ j < 1073741824) := by
  unfold dmB
  rw [Bool.and_eq_true, Nat.ble_eq, Nat.ble_eq]
  exact propext ⟨fun h => by omega, fun h => by omega⟩
theorem powB_iff (i j : Int) : (powB i j = true) = PowOk i j := by
  unfold powB PowOk
  rw [Bool.and_eq_true, Bool.and_eq_true, nnB_iff, Nat.ble_eq, Nat.ble_eq]
  exact propext ⟨fun h => ⟨h.1, by omega, by omega⟩, fun h => ⟨h.1, by omega, by omega⟩⟩
theorem repB_of {n : Nat} {k : Int} (h : repB n k = true) : -(2 ^ 63) ≤ k ∧ k < 2 ^ 63 ∧ n * k.toNat ≤ LIM := by
  unfold repB at h
  rw [Bool.and_eq_true, leB_iff, Nat.ble_eq] at h
  exact ⟨by omega, by omega, h.2⟩
theorem strB_iff (i : Int) : (strB i = true) = (i.natAbs.log2 < 1920) := by
  unfold strB
  rw [Nat.ble_eq]
  exact propext ⟨fun h => by omega, fun h => by omega⟩
theorem splB_iff (t s : Nat) : (splB t s = true) = (t ≠ 0 ∧ s + 2 ≤ LIM) := by
  unfold splB
  rw [Bool.and_eq_true, leB_iff, Nat.ble_eq]
  exact propext ⟨fun h => ⟨by omega, h.2⟩, fun h => ⟨by omega, h.2⟩⟩
@[simp] def evB (o : Bop) (x y : D) (b : Bool) : RE ER :=
  match o with
  | .add => match x, y with
    | .int i, .int j => ok (.int (i + j))
    | .str s, .str t => gd (leB (s.length + t.length)) (ok (.str (s ++ t)))
    | .lst xs, .lst ys => gd (leB (xs.length + ys.length)) (.ok (.fre (xs ++ ys) b))
    | _, _ => .bad
  | .sub => match x, y with
    | .int i, .int j => ok (.int (i - j))
    | _, _ => .bad
  | .mul => match x, y with
    | .int i, .int j => gd (mulB i j) (ok (.int (i * j)))
    | .lst xs, .int k => gd (repB xs.length k) (.ok (.fre (List.replicate k.toNat xs).flatten b))
    | _, _ => .bad
  | .fdv => match x, y with
    | .int i, .int j => gd (divB j) (ok (.int (i.fdiv j)))
    | _, _ => .bad
  | .mdl => match x, y with
    | .int i, .int j => gd (nzB j) (ok (.int (i.fmod j)))
    | _, _ => .bad
  | .pow => match x, y with
    | .int i, .int j => gd (powB i j) (ok (.int (i ^ j.toNat)))
    | _, _ => .bad
  | .shl => match x, y with
    | .int i, .int j => gd (powB i j) (ok (.int (i * 2 ^ j.toNat)))
    | _, _ => .bad
  | .shr => match x, y with
    | .int i, .int j => gd (nnB j) (ok (.int (i / 2 ^ j.toNat)))
    | _, _ => .bad
  | .and => match x, y with
    | .int i, .int j => ok (.int (Builtin.bitAnd i j))
    | _, _ => .bad
  | .or => match x, y with
    | .int i, .int j => ok (.int (Builtin.bitOr i j))
    | _, _ => .bad
/-- == -/
def evEq (x y : D) : RE Bool :=
  match x, y with
  | .int i, .int j => .ok (decide (i = j))
  | .str s, .str t => .ok (decide (s = t))
  | .bl a, .bl b => .ok (a == b)
  | x, y => if (x.fit 64 && y.fit 64) = true then .ok (x.eqb y) else .bad
/-- x in y -/
def evIn (x y : D) : RE Bool :=
  match y with
  | .lst ys => if (x.fit 64 && (D.lst ys).fit 64) = true then .ok (ys.any fun z => z.eqb x) else .bad
  | .tup ys => if (x.fit 0 && D.fits ys 0) = true then .ok (ys.any fun z => z.eqb x) else .bad
  | .str t => match x with
    | .str [c] => .ok (decide (c ∈ t))
    | _ => .bad
  | _ => .bad
@[simp] def evC (o : Cop) (x y : D) : RE Bool :=
  match o with
  | .eq => evEq x y
  | .ne => (evEq x y).bind fun b => .ok (!b)
  | .isin => evIn x y
  | .nin => (evIn x y).bind fun b => .ok (!b)
  | .lt => match x, y with
    | .int i, .int j => .ok (decide (i < j))
    | _, _ => .bad
  | .le => match x, y with
    | .int i, .int j => .ok (decide (i ≤ j))
    | _, _ => .bad
  | .gt => match x, y with
    | .int i, .int j => .ok (decide (j < i))
    | _, _ => .bad
  | .ge => match x, y with
    | .int i, .int j => .ok (decide (j ≤ i))
    | _, _ => .bad
/-- truth -/
@[simp] def evTr (x : D) : RE Bool :=
  match x with
  | .bl b => .ok b
  | .int i => .ok (i != 0)
  | .non => .ok false
  | .lst xs => .ok (!xs.isEmpty)
  | .tup xs => .ok (!xs.isEmpty)
  | _ => .bad
/-- a[i] -/
@[simp] def evIx (a i : D) (b : Bool) : RE ER :=
  match a, i with
  | .lst xs, .int i => match atI xs i with
    | some x => .ok (.val x (b || x.flat))
    | none => .bad
  | .tup xs, .int i => match atI xs i with
    | some x => .ok (.val x (b || x.flat))
    | none => .bad
  | .str s, .int i => gd (leB s.length) (match atI s i with
    | some c => ok (.str [c])
    | none => .bad)
  | _, _ => .bad
def cutD {α : Type} (xs : List α) (lo hi : Option Int) : List α := (xs.drop (HT.sIx xs.length 0 lo)).take (HT.sIx xs.length xs.length hi - HT.sIx xs.length 0 lo)
@[simp] def evSl (a : D) (lo hi : Option Int) (b : Bool) : RE ER :=
  match a with
  | .lst xs => .ok (.fre (cutD xs lo hi) b)
  | .str s => gd (leB s.length) (ok (.str (cutD s lo hi)))
  | _ => .bad
def intsD : List D → Option (List Int)
  | [] => some []
  | .int i :: ds => (intsD ds).map (i :: ·)
  | _ :: _ => none
def boolsD : List D → Option (List Bool)
  | [] => some []
  | .bl i :: ds => (boolsD ds).map (i :: ·)
  | _ :: _ => none
def strsD : List D → Option (List (List Nat))
  | [] => some []
  | .str i :: ds => (strsD ds).map (i :: ·)
  | _ :: _ => none
def maxL : List Int → Int
  | [] => 0
  | [x] => x
  | x :: xs => max x (maxL xs)
def minL : List Int → Int
  | [] => 0
  | [x] => x
  | x :: xs => min x (minL xs)
def insI (x : Int) : List Int → List Int
  | [] => [x]
  | y :: ys => if x ≤ y then x :: y :: ys else y :: insI x ys
def sortI : List Int → List Int
  | [] => []
  | x :: xs => insI x (sortI xs)
@[simp] def evP (p : Pri) (es : List ER) : RE ER :=
  match p, es with
  | .len, [e] => match e.d with
    | .lst xs => ok (.int xs.length)
    | .tup xs => ok (.int xs.length)
    | .str s => gd (leB s.length) (ok (.int s.length))
    | _ => .bad
  | .abs, [e] => match e.d with
    | .int i => ok (.int (if i < 0 then -i else i))
    | _ => .bad
  | .min2, [e, f] => match e.d, f.d with
    | .int i, .int j => ok (.int (if j < i then j else i))
    | _, _ => .bad
  | .max2, [e, f] => match e.d, f.d with
    | .int i, .int j => ok (.int (if j > i then j else i))
    | _, _ => .bad
  | .min1, [e] => match e.d with
    | .lst xs => match intsD xs with
      | some (n :: ns) => ok (.int (minL (n :: ns)))
      | _ => .bad
    | _ => .bad
  | .max1, [e] => match e.d with
    | .lst xs => match intsD xs with
      | some (n :: ns) => ok (.int (maxL (n :: ns)))
      | _ => .bad
    | _ => .bad
  | .sum, [e] => match e.d with
    | .lst xs => match intsD xs with
      | some ns => ok (.int ns.sum)
      | none => .bad
    | _ => .bad
  | .sorted, [e] => match e.d with
    | .lst xs => match intsD xs with
      | some ns => .ok (.fre ((sortI ns).map D.int) true)
      | none => .bad
    | _ => .bad
  | .all, [e] => match e.d with
    | .lst xs => match boolsD xs with
      | some bs => ok (.bl (bs.all id))
      | none => .bad
    | _ => .bad
  | .any, [e] => match e.d with
    | .lst xs => match boolsD xs with
      | some bs => ok (.bl (bs.any id))
      | none => .bad
    | _ => .bad
  | .list, [e] => match e.d with
    | .lst xs => .ok (.fre xs e.b)
    | .tup xs => .ok (.fre xs e.b)
    | _ => .bad
  | .int, [e] => match e.d with
    | .int i => ok (.int i)
    | .bl c => ok (.int (if c then 1 else 0))
    | .str s => match intText? (strOf s) with
      | some n => gd (Nat.ble s.length 640) (ok (.int n))
      | none => .bad
    | _ => .bad
  | .dmd, [e, f] => match e.d, f.d with
    | .int i, .int j => gd (dmB j) (ok (.tup [.int (i / j), .int (i % j)]))
    | _, _ => .bad
  | .str, [e] => match e.d with
    | .int i => gd (strB i) (ok (.str (toString i : Str).cps.toList))
    | _ => .bad
  | _, _ => .bad
/-- the first that is the same -/
def idxD (y : D) : List D → Option Nat
  | [] => none
  | x :: xs => if x.eqb y = true then some 0 else (idxD y xs).map (· + 1)
def evInxL (xs : List D) (y : D) : RE ER :=
  if (y.fit 0 && D.fits xs 0) = true then (match idxD y xs with
    | some j => ok (.int j)
    | none => .bad) else .bad
/-- how often a number stands in a list of numbers -/
def evCnt (xs : List D) (y : D) : RE ER :=
  match intsD xs with
  | some ns => match y with
    | .int k => ok (.int (ns.count k : Nat))
    | _ => .bad
  | none => .bad
def evInxS (s : List Nat) (y : D) : RE ER :=
  match y with
  | .str t => (match Builtin.Str.occurrences (strOf s) (strOf t) 0 s.length 1 with
    | j :: _ => ok (.int (j : Nat))
    | [] => .bad)
  | _ => .bad
/-- how many unlike numbers -/
def cntI (ns : List Int) : Nat := (PyProof.Rows.firstMet (fun i => ns.getD i 0) ns.length).length
@[simp] def evLset (x : D) : RE ER :=
  match x with
  | .lst xs => match intsD xs with
    | some ns => gd (Nat.ble ns.length 1000) (ok (.int (cntI ns)))
    | none => .bad
  | _ => .bad
@[simp] def evM (m : Bme) (s : List Nat) (y : D) : RE ER :=
  match m with
  | .split => match y with
    | .str t => gd (splB t.length s.length) (.ok (.fre ((Txt.split (strOf s) (strOf t)).map fun z => .str z.cps.toList) true))
    | _ => .bad
  | .join => match y with
    | .lst xs => match strsD xs with
      | some ss => gd (leB ((ss.map List.length).sum + ss.length * s.length)) (ok (.str (Txt.join (strOf s) (ss.map strOf)).cps.toList))
      | none => .bad
    | _ => .bad
  | .find => match y with
    | .str t => ok (.int (Txt.find (strOf s) (strOf t)))
    | _ => .bad
@[simp] def evTy (x : D) (t : Ty) : RE ER :=
  match x, t with
  | .bl _, .bool => ok (.bl true)
  | .bl _, .int => ok (.bl true)
  | .int _, .int => ok (.bl true)
  | .str _, .str => ok (.bl true)
  | .lst _, .list => ok (.bl true)
  | .tup _, .tuple => ok (.bl true)
  | .ins _ _, _ => .bad
  | .exc _ _, _ => .bad
  | _, _ => ok (.bl false)
/-- the n numbers lo, lo + c, .. -/
def rngL (lo c : Int) (n : Nat) : List Int := (List.range n).map fun (i : Nat) => lo + (i : Int) * c
def inB (i : Int) : Prop := -(2 ^ 62) ≤ i ∧ i < 2 ^ 62
instance (i : Int) : Decidable (inB i) := by unfold inB; infer_instance
/-- how many turns a range of that step has -/
def rngN (i j c : Int) : Nat := (Builtin.Range.rangeSize i j c).toNat
def inBB (i : Int) : Bool := Nat.ble i.natAbs 4611686018427387903
def rg1B (n : Int) : Bool := inBB n && leB n.toNat
def rg2B (i j : Int) : Bool := inBB i && (inBB j && leB (j - i).toNat)
def rg3B (i j c : Int) : Bool := nzB c && (Nat.ble c.natAbs 1073741823 && (Builtin.Range.small i j c && (nnB (Builtin.Range.rangeSize i j c) && leB (rngN i j c))))
theorem inBB_of {i : Int} (h : inBB i = true) : inB i := by
  unfold inBB at h
  rw [Nat.ble_eq] at h
  exact ⟨by omega, by omega⟩
theorem rg1B_of {n : Int} (h : rg1B n = true) : inB n ∧ n.toNat ≤ LIM := by
  unfold rg1B at h
  rw [Bool.and_eq_true, leB_iff] at h
  exact ⟨inBB_of h.1, h.2⟩
theorem rg2B_of {i j : Int} (h : rg2B i j = true) : inB i ∧ inB j ∧ (j - i).toNat ≤ LIM := by
  unfold rg2B at h
  rw [Bool.and_eq_true, Bool.and_eq_true, leB_iff] at h
  exact ⟨inBB_of h.1, inBB_of h.2.1, h.2.2⟩
theorem rg3B_iff (i j c : Int) : (rg3B i j c = true) = (c ≠ 0 ∧ c.natAbs < 1073741824 ∧ Builtin.Range.small i j c = true ∧ 0 ≤ Builtin.Range.rangeSize i j c ∧ rngN i j c ≤ LIM) := by
  unfold rg3B
  rw [Bool.and_eq_true, Bool.and_eq_true, Bool.and_eq_true, Bool.and_eq_true, nzB_iff, Nat.ble_eq, nnB_iff, leB_iff]
  exact propext ⟨fun h => ⟨h.1, by omega, h.2.2⟩, fun h => ⟨h.1, by omega, h.2.2⟩⟩
@[simp] def evRng (es : List ER) : RE (List Int) :=
  match es with
  | [a] => match a.d with
    | .int n => gd (rg1B n) (.ok (rngL 0 1 n.toNat))
    | _ => .bad
  | [a, b] => match a.d, b.d with
    | .int i, .int j => gd (rg2B i j) (.ok (rngL i 1 (j - i).toNat))
    | _, _ => .bad
  | [a, b, c] => match a.d, b.d, c.d with
    | .int i, .int j, .int c => gd (rg3B i j c) (.ok (rngL i c (rngN i j c)))
    | _, _, _ => .bad
  | _ => .bad

/-- what stands in the module -/
structure Env where
  fn : List (Str × (List D → RE ER))
  gc : List (Str × D)
  mn : List Str
  mt : Nat → Nat → Option (List D → RE ER)
  fs : List Str
  /-- the place of a field in an instance of a class -/
  fi : Nat → Nat → Option Nat
  /-- what makes an instance: its class's number, its fields -/
  nw : List (Nat × (List D → RE (List D))) := []
  /-- is an error of a class taken by a named class; an instance -/
  ck : List (Nat → Option Bool) := []
  ik : List (Nat → Option Bool) := []
  /-- the class that a raise names -/
  xk : List Nat := []

/-- tables by class and number -/
def lookM : List (Nat × Nat × (List D → RE ER)) → Nat → Nat → Option (List D → RE ER)
  | [], _, _ => none
  | t :: r, c, m => if t.1 = c then (if t.2.1 = m then some t.2.2 else lookM r c m) else lookM r c m
def lookF : List (Nat × Nat × Nat) → Nat → Nat → Option Nat
  | [], _, _ => none
  | t :: r, c, m => if t.1 = c then (if t.2.1 = m then some t.2.2 else lookF r c m) else lookF r c m
/-- what a call hands back, where some argument was a slot's own list (k) -/
@[simp] def callR (k : Bool) (er : ER) : RE ER :=
  match k with
  | false => match er with
    | .brw _ _ => .bad
    | .val d b => .ok (.val d (b || d.flat))
    | .fre ds b => .ok (.fre ds b)
  | true => match er with
    | .val d b => if (b || d.flat) = true then .ok (.val d true) else .bad
    | .fre ds b => if (b || D.flats ds) = true then .ok (.fre ds true) else .bad
    | .brw _ _ => .bad
@[simp] def wipeS (ρ : List Sl) : List Nat → List Sl
  | [] => ρ
  | v :: vs => (wipeS ρ vs).set v .non
/-- names of a target bound -/
@[simp] def bindL : List Nat → List D → Bool → List Sl → Option (List Sl)
  | [], [], _, ρ => some ρ
  | i :: is, d :: ds, b, ρ => bindL is ds b (ρ.set i (.val d (b || d.flat)))
  | _, _, _, _ => none
@[simp] def bindT (tg : List Nat) (x : D) (b : Bool) (ρ : List Sl) : Option (List Sl) :=
  match tg with
  | [i] => some (ρ.set i (.val x (b || x.flat)))
  | tg => match x with
    | .tup ds => bindL tg ds b ρ
    | _ => none
/-- the items that stay, each by f -/
def lcl (f : D → RE (Option (D × Bool))) : List D → RE (List D × Bool)
  | [] => .ok ([], true)
  | x :: xs => (f x).bind fun r => (lcl f xs).bind fun q => match r with
    | none => .ok q
    | some y => .ok (y.1 :: q.1, y.2 && q.2)
/-- nothing is let out of a comprehension -/
@[simp] def noX {α : Type} : RE α → RE α
  | .exc _ _ => .bad
  | r => r
/-- items of a tuple, of a list -/
@[simp] def dis (f : List D → Bool → ER) (es : List ER) : RE ER := if (es.all ER.isV) = true then .ok (f (es.map ER.d) (es.all ER.b)) else .bad
/-- what is walked: the items, their flag, whether a slot's own list is walked -/
structure Wk where
  xs : List D
  b : Bool
  own : Bool
@[simp] def evAny (e : ER) : RE Wk :=
  match e.d with
  | .lst xs => .ok ⟨xs, e.b, e.isB⟩
  | .tup xs => .ok ⟨xs, e.b, false⟩
  | .str s => .ok ⟨s.map fun c => .str [c], true, false⟩
  | _ => .bad

/-- isinstance of own classes -/
def evIsc (ck ik : Option (Nat → Option Bool)) (x : D) : RE ER :=
  match x with
  | .exc c fs => match fs with
    | [] => match ck with
      | some g => match g c with
        | some b => ok (.bl b)
        | none => .bad
      | none => .bad
    | _ => .bad
  | .ins c _ => match ik with
    | some g => match g c with
      | some b => ok (.bl b)
      | none => .bad
    | none => .bad
  | _ => .bad
@[simp] def D.isNon : D → Bool
  | .non => true
  | _ => false
mutual
@[simp] def ev (Γ : Env) : Ex → List Sl → RE ER
  | .nev, _ => .bad
  | .var i, ρ => match ρ[i]? with
    | some (.val d b) => .ok (.val d b)
    | some (.own ds b) => .ok (.brw ds b)
    | _ => .bad
  | .cint i, _ => ok (.int i)
  | .cbl b, _ => ok (.bl b)
  | .cnon, _ => ok .non
  | .cstr s, _ => ok (.str s)
  | .glo k, _ => match Γ.gc[k]? with
    | some c => .ok (.val c.2 true)
    | none => .bad
  | .bin o a b, ρ => (ev Γ a ρ).bind fun x => (ev Γ b ρ).bind fun y => evB o x.d y.d (x.b && y.b)
  | .cmp o a b, ρ => (ev Γ a ρ).bind fun x => (ev Γ b ρ).bind fun y => (evC o x.d y.d).bind fun c => ok (.bl c)
  | .chn o p a b c, ρ => (ev Γ a ρ).bind fun x => (ev Γ b ρ).bind fun y => (evC o x.d y.d).bind fun k => if k = true then (ev Γ c ρ).bind fun z => (evC p y.d z.d).bind fun k' => ok (.bl k') else ok (.bl false)
  | .isN a, ρ => (ev Γ a ρ).bind fun x => ok (.bl x.d.isNon)
  | .notN a, ρ => (ev Γ a ρ).bind fun x => ok (.bl (!x.d.isNon))
  | .bop c es, ρ => evBv Γ c es ρ
  | .bnot a, ρ => (ev Γ a ρ).bind fun x => (evTr x.d).bind fun k => ok (.bl (!k))
  | .neg a, ρ => (ev Γ a ρ).bind fun x => match x.d with
    | .int i => ok (.int (-i))
    | _ => .bad
  | .ife c a b, ρ => (evT Γ c ρ).bind fun k => if k = true then ev Γ a ρ else ev Γ b ρ
  | .tup es, ρ => (evs Γ es ρ).bind fun r => dis (fun ds b => .val (.tup ds) b) r
  | .lst es, ρ => (evs Γ es ρ).bind fun r => dis .fre r
  | .idx a i, ρ => (ev Γ a ρ).bind fun x => (ev Γ i ρ).bind fun y => evIx x.d y.d x.b
  | .slc a lo hi, ρ => (ev Γ a ρ).bind fun x => (evO Γ lo ρ).bind fun l => (evO Γ hi ρ).bind fun h => evSl x.d l h x.b
  | .rev a, ρ => (ev Γ a ρ).bind fun x => match x.d with
    | .lst xs => .ok (.fre xs.reverse x.b)
    | _ => .bad
  | .call f es, ρ => match Γ.fn[f]? with
    | some g => (evs Γ es ρ).bind fun r => (g.2 (r.map ER.d)).bind (callR (!r.all ER.isV))
    | none => .bad
  | .pri p es, ρ => (evs Γ es ρ).bind fun r => evP p r
  | .lrng es, ρ => (evs Γ es ρ).bind fun r => (evRng r).bind fun ns => .ok (.fre (ns.map D.int) true)
  | .mth m o es, ρ => (ev Γ o ρ).bind fun x => match x.d with
    | .ins c fs => match Γ.mt c m with
      | some g => (evs Γ es ρ).bind fun r => (g (.ins c fs :: r.map ER.d)).bind (callR (!r.all ER.isV))
      | none => .bad
    | _ => .bad
  | .bm1 m o a, ρ => (ev Γ o ρ).bind fun x => match x.d with
    | .str s => (ev Γ a ρ).bind fun y => evM m s y.d
    | _ => .bad
  | .blen o, ρ => (ev Γ o ρ).bind fun x => match x.d with
    | .int i => ok (.int (Builtin.Int.intBits i : Nat))
    | _ => .bad
  | .fld o f, ρ => (ev Γ o ρ).bind fun x => match x.d with
    | .ins c fs => match Γ.fi c f with
      | some k => match fs[k]? with
        | some d => .ok (.val d true)
        | none => .bad
      | none => .bad
    | _ => .bad
  | .isi a t, ρ => (ev Γ a ρ).bind fun x => evTy x.d t
  | .lc own it tg cnd e, ρ => (evI Γ it ρ).bind fun xs => gd (leB xs.xs.length) ((lcl (fun x => match bindT tg x xs.b (wipeS ρ own) with
      | some ρ' => noX ((evBs Γ true cnd ρ').bind fun k => if k = true then (ev Γ e ρ').bind fun y => match y with
        | .brw _ _ => .bad
        | y => .ok (some (y.d, y.b)) else .ok none)
      | none => .bad) xs.xs).bind fun r => .ok (.fre r.1 r.2))
  | .inxL o a, ρ => (ev Γ o ρ).bind fun x => match x.d with
    | .lst xs => (ev Γ a ρ).bind fun y => evInxL xs y.d
    | _ => .bad
  | .inxS o a, ρ => (ev Γ o ρ).bind fun x => match x.d with
    | .str s => (ev Γ a ρ).bind fun y => evInxS s y.d
    | _ => .bad
  | .lset a, ρ => (ev Γ a ρ).bind fun x => evLset x.d
  | .new k es, ρ => match Γ.nw[k]? with
    | some g => (evs Γ es ρ).bind fun r => (g.2 (r.map ER.d)).bind fun fs => .ok (.val (.ins g.1 fs) true)
    | none => .bad
  | .sfd i f, ρ => match ρ[i]? with
    | some (.slf c fs) => match Γ.fi c f with
      | some k => match fs[k]? with
        | some d => .ok (.val d true)
        | none => .bad
      | none => .bad
    | _ => .bad
  | .isc a k, ρ => (ev Γ a ρ).bind fun x => evIsc (Γ.ck[k]?) (Γ.ik[k]?) x.d
  | .cntL o a, ρ => (ev Γ o ρ).bind fun x => match x.d with
    | .lst xs => (ev Γ a ρ).bind fun y => evCnt xs y.d
    | _ => .bad
/-- items from the left; new lists are held -/
@[simp] def evs (Γ : Env) : Exs → List Sl → RE (List ER)
  | .nil, _ => .ok []
  | .cons e es, ρ => (ev Γ e ρ).bind fun x => (evs Γ es ρ).bind fun r => .ok (x.frz :: r)
/-- a part of a slice -/
@[simp] def evO (Γ : Env) : Exs → List Sl → RE (Option Int)
  | .nil, _ => .ok none
  | .cons e es, ρ => (ev Γ e ρ).bind fun x => match x.d with
    | .int i => .ok (some i)
    | _ => .bad
/-- as a test -/
@[simp] def evT (Γ : Env) : Te → List Sl → RE Bool
  | .bop c es, ρ => evBs Γ c es ρ
  | .not a, ρ => (evT Γ a ρ).bind fun k => .ok (!k)
  | .val e, ρ => (ev Γ e ρ).bind fun x => evTr x.d
/-- and, or of tests -/
@[simp] def evBs (Γ : Env) (c : Bool) : Tes → List Sl → RE Bool
  | .nil, _ => .ok c
  | .cons e es, ρ => (evT Γ e ρ).bind fun k => if k = c then evBs Γ c es ρ else .ok k
/-- and, or of truths -/
@[simp] def evBv (Γ : Env) (c : Bool) : Exs → List Sl → RE ER
  | .nil, _ => ok (.bl c)
  | .cons e es, ρ => (ev Γ e ρ).bind fun x => match x.d with
    | .bl k => if k = c then evBv Γ c es ρ else ok (.bl k)
    | _ => .bad
@[simp] def evI (Γ : Env) : Itx → List Sl → RE Wk
  | .any e, ρ => (ev Γ e ρ).bind evAny
  | .rng es, ρ => (evs Γ es ρ).bind fun r => (evRng r).bind fun ns => .ok ⟨ns.map D.int, true, false⟩
  | .zp a b, ρ => (ev Γ a ρ).bind fun x => (ev Γ b ρ).bind fun y => match x.d, y.d with
    | .lst xs, .lst ys => .ok ⟨List.zipWith (fun u v => .tup [u, v]) xs ys, x.b && y.b, x.isB || y.isB⟩
    | _, _ => .bad
  | .en a, ρ => (ev Γ a ρ).bind fun x => match x.d with
    | .lst xs => .ok ⟨xs.zipIdx.map fun p => .tup [.int p.2, p.1], x.b, x.isB⟩
    | _ => .bad
  | .rv a, ρ => (ev Γ a ρ).bind fun x => match x.d with
    | .lst xs => .ok ⟨xs.reverse, x.b, x.isB⟩
    | _ => .bad
end

/-! ### statements -/
/-- the body of a try -/
inductive Tr where
  | ex (e : Ex)
  | as (j : Nat) (e : Ex)
  | iff (t : Te) (a b : Tr)
mutual
inductive Sm where
  | nev
  | rse (k : Nat)
  | tryx (k i j : Nat) (b : Tr)
  | asg (i : Nat) (e : Ex)
  | own (i : Nat) (e : Ex)
  | asgT (tg : List Nat) (e : Ex)
  | par (tg : List Nat) (es : Exs)
  | put (i : Nat) (ix e : Ex)
  | app (i : Nat) (e : Ex)
  | ext (i : Nat) (e : Ex)
  | popv (j i : Nat)
  | clr (i : Nat)
  | expr (e : Ex)
  | ret (e : Ex)
  | retN
  | pas
  | brk
  | cnt
  | iff (c : Te) (a b : Sms)
  | for (it : Itx) (tg : List Nat) (b : Sms)
  | whl (c : Te) (b : Sms)
  | apop (i j : Nat) (ix : Ex)
  | fset (f : Nat) (e : Ex)
inductive Sms where
  | nil
  | cons (s : Sm) (ss : Sms)
  | frz (i : Nat) (ss : Sms)
end
inductive Out where
  | bad | nx (ρ : List Sl) | brk (ρ : List Sl) | cnt (ρ : List Sl) | ret (er : ER) | exc (c : Nat) (fs : List D)
/-- on from an answer -/
def RE.out {α : Type} : RE α → (α → Out) → Out
  | .bad, _ => .bad
  | .ok a, f => f a
  | .exc c fs, _ => .exc c fs
@[simp] theorem RE.out_ok {α : Type} (a : α) (f : α → Out) : (RE.ok a).out f = f a := rfl
@[simp] theorem RE.out_bad {α : Type} (f : α → Out) : (RE.bad : RE α).out f = .bad := rfl
@[simp] theorem RE.out_exc {α : Type} (c : Nat) (fs : List D) (f : α → Out) : (RE.exc c fs : RE α).out f = .exc c fs := rfl
def gdO (b : Bool) (o : Out) : Out := match b with
  | true => o
  | false => .bad
@[simp] theorem gdO_true (o : Out) : gdO true o = o := rfl
theorem gdO_if (b : Bool) (o : Out) : gdO b o = if b = true then o else .bad := by cases b <;> rfl
def Out.seq : Out → (List Sl → Out) → Out
  | .nx ρ, f => f ρ
  | o, _ => o
@[simp] theorem Out.seq_nx (ρ : List Sl) (f : List Sl → Out) : (Out.nx ρ).seq f = f ρ := rfl
@[simp] theorem Out.seq_ret (e : ER) (f : List Sl → Out) : (Out.ret e).seq f = .ret e := rfl
@[simp] theorem Out.seq_brk (ρ : List Sl) (f : List Sl → Out) : (Out.brk ρ).seq f = .brk ρ := rfl
@[simp] theorem Out.seq_cnt (ρ : List Sl) (f : List Sl → Out) : (Out.cnt ρ).seq f = .cnt ρ := rfl
@[simp] theorem Out.seq_bad (f : List Sl → Out) : Out.bad.seq f = .bad := rfl
@[simp] theorem Out.seq_exc (c : Nat) (fs : List D) (f : List Sl → Out) : (Out.exc c fs).seq f = .exc c fs := rfl
/-- items, each by f -/
def forGo (f : D → List Sl → Out) : List D → List Sl → Out
  | [], ρ => .nx ρ
  | x :: xs, ρ => match f x ρ with
    | .nx ρ' => forGo f xs ρ'
    | .cnt ρ' => forGo f xs ρ'
    | .brk ρ' => .nx ρ'
    | o => o
/-- at most n turns -/
def whlGo (c : List Sl → RE Bool) (f : List Sl → Out) : Nat → List Sl → Out
  | 0, _ => .bad
  | n + 1, ρ => (c ρ).out fun k => if k = true then (match f ρ with
    | .nx ρ' => whlGo c f n ρ'
    | .cnt ρ' => whlGo c f n ρ'
    | .brk ρ' => .nx ρ'
    | o => o) else .nx ρ
def FUEL : Nat := 1000000000
/-- the end of a def hands a slot's own list out -/
@[simp] def retE : ER → ER
  | .brw ds b => .fre ds b
  | e => e
/-- an own slot -/
def ownAt (ρ : List Sl) (i : Nat) (f : List D → Bool → Out) : Out :=
  match ρ[i]? with
  | some (.own ds b) => f ds b
  | _ => .bad
def valAt (ρ : List Sl) (i : Nat) (f : D → Bool → Out) : Out :=
  match ρ[i]? with
  | some (.val d b) => f d b
  | _ => .bad
/-- no slot's own list -/
@[simp] def held (er : ER) (f : D → Bool → Out) : Out :=
  match er with
  | .brw _ _ => .bad
  | .val d b => f d b
  | .fre ds b => f (.lst ds) b
def onB (o : Option (List Sl)) (k : List Sl → Out) : Out :=
  match o with
  | some ρ => k ρ
  | none => .bad
/-- a field's value: lists in it are new -/
@[simp] def heldF (er : ER) (f : D → Out) : Out :=
  match er with
  | .brw _ _ => .bad
  | .val d b => gdO (b || d.flat) (f d)
  | .fre ds b => gdO (b || D.flats ds) (f (.lst ds))
def noSlf : List Sl → Bool
  | [] => true
  | .slf _ _ :: _ => false
  | _ :: ρ => noSlf ρ
/-- the instance under way stands first -/
def slfAt (ρ : List Sl) (f : Nat → List D → List Sl → Out) : Out :=
  match ρ with
  | .slf c fs :: r => if noSlf r = true then f c fs r else .bad
  | _ => .bad
@[simp] theorem onB_some (ρ : List Sl) (k : List Sl → Out) : onB (some ρ) k = k ρ := rfl
@[simp] theorem onB_none (k : List Sl → Out) : onB none k = .bad := rfl
@[simp] def parGo : List Nat → List ER → List Sl → Out
  | [], [], ρ => .nx ρ
  | i :: tg, e :: es, ρ => held e fun d b => parGo tg es (ρ.set i (.val d b))
  | _, _, _ => .bad

/-- the body of a try: the slots behind it -/
def trB (Γ : Env) : Tr → List Sl → RE (List Sl)
  | .ex e, ρ => (ev Γ e ρ).bind fun _ => .ok ρ
  | .as j e, ρ => (ev Γ e ρ).bind fun x => match x with
    | .brw _ _ => .bad
    | .val d b => .ok (ρ.set j (.val d b))
    | .fre ds b => .ok (ρ.set j (.val (.lst ds) b))
  | .iff t a b, ρ => (evT Γ t ρ).bind fun k => if k = true then trB Γ a ρ else trB Γ b ρ
def trX (g : Option (Nat → Option Bool)) (i j : Nat) (ρ : List Sl) : RE (List Sl) → Out
  | .ok ρ' => .nx ρ'
  | .bad => .bad
  | .exc c fs => match g with
    | some g => match g c with
      | some true => if i = j then .bad else (match fs with
        | [] => .nx ((ρ.set j (.val (.exc c []) true)).set i .non)
        | _ => .bad)
      | some false => .exc c fs
      | none => .bad
    | none => .bad
mutual
@[simp] def run (Γ : Env) : Sm → List Sl → Out
  | .nev, _ => .bad
  | .rse k, _ => match Γ.xk[k]? with
    | some c => .exc c []
    | none => .bad
  | .tryx k i j b, ρ => trX Γ.ck[k]? i j ρ (trB Γ b ρ)
  | .asg i e, ρ => (ev Γ e ρ).out fun x => held x fun d b => .nx (ρ.set i (.val d b))
  | .own i e, ρ => (ev Γ e ρ).out fun x => match x with
    | .fre ds b => .nx (ρ.set i (.own ds b))
    | _ => .bad
  | .asgT tg e, ρ => (ev Γ e ρ).out fun x => held x fun d b => onB (bindT tg d b ρ) .nx
  | .par tg es, ρ => (evs Γ es ρ).out fun r => parGo tg r ρ
  | .put i ix e, ρ => (ev Γ e ρ).out fun x => held x fun d b => ownAt ρ i fun ds c => (ev Γ ix ρ).out fun k => match k.d with
    | .int k => match ixN ds.length k with
      | some j => .nx (ρ.set i (.own (ds.set j d) (b && c)))
      | none => .bad
    | _ => .bad
  | .app i e, ρ => ownAt ρ i fun ds c => (ev Γ e ρ).out fun x => held x fun d b => gdO (leB (ds.length + 1)) (.nx (ρ.set i (.own (ds ++ [d]) (b && c))))
  | .ext i e, ρ => ownAt ρ i fun ds c => (ev Γ e ρ).out fun x => match x with
    | .fre es b => gdO (leB (ds.length + es.length)) (.nx (ρ.set i (.own (ds ++ es) (b && c))))
    | _ => .bad
  | .popv j i, ρ => ownAt ρ i fun ds c => match ds.getLast? with
    | some d => .nx ((ρ.set i (.own ds.dropLast c)).set j (.val d c))
    | none => .bad
  | .clr i, ρ => ownAt ρ i fun _ _ => .nx (ρ.set i (.own [] true))
  | .expr e, ρ => (ev Γ e ρ).out fun _ => .nx ρ
  | .ret e, ρ => (ev Γ e ρ).out fun x => .ret (retE x)
  | .retN, _ => .ret (.val .non true)
  | .pas, ρ => .nx ρ
  | .brk, ρ => .brk ρ
  | .cnt, ρ => .cnt ρ
  | .iff c a b, ρ => (evT Γ c ρ).out fun k => if k = true then runs Γ a ρ else runs Γ b ρ
  | .for it tg b, ρ => (evI Γ it ρ).out fun w => if w.own = true then .bad else forGo (fun x ρ => onB (bindT tg x w.b ρ) fun ρ' => runs Γ b ρ') w.xs ρ
  | .apop i j ix, ρ => if i = j then .bad else ownAt ρ i fun ds c => ownAt ρ j fun es c2 => (ev Γ ix ρ).out fun k => match k.d with
    | .int k => match ixN es.length k with
      | some m => match es[m]? with
        | some d => gdO (leB es.length) (gdO (leB (ds.length + 1)) (.nx ((ρ.set j (.own (es.eraseIdx m) c2)).set i (.own (ds ++ [d]) (c2 && c)))))
        | none => .bad
      | none => .bad
    | _ => .bad
  | .fset f e, ρ => (ev Γ e ρ).out fun x => heldF x fun d => slfAt ρ fun c fs r => match Γ.fi c f with
    | some k => if k = fs.length then gdO (Nat.ble k 900) (.nx (.slf c (fs ++ [d]) :: r)) else .bad
    | none => .bad
  | .whl c b, ρ => whlGo (fun ρ => evT Γ c ρ) (fun ρ => runs Γ b ρ) FUEL ρ
@[simp] def runs (Γ : Env) : Sms → List Sl → Out
  | .nil, ρ => .nx ρ
  | .cons s ss, ρ => (run Γ s ρ).seq fun ρ' => runs Γ ss ρ'
  | .frz i ss, ρ => ownAt ρ i fun ds b => runs Γ ss (ρ.set i (.val (.lst ds) b))
end
/-- what a def answers -/
@[simp] def Out.fin : Out → RE ER
  | .ret er => .ok er
  | .nx _ => ok .non
  | .exc c fs => .exc c fs
  | _ => .bad
def defD (Γ : Env) (n m : Nat) (b : Sms) (ds : List D) : RE ER :=
  if ds.length = n then (runs Γ b (ds.map (fun d => Sl.val d d.flat) ++ List.replicate m .non)).fin else .bad
/-- what an __init__ makes: nf fields -/
def iniD (Γ : Env) (c nf n m : Nat) (b : Sms) (ds : List D) : RE (List D) :=
  if ds.length = n then (match runs Γ b (.slf c [] :: (ds.map (fun d => Sl.val d d.flat) ++ List.replicate m .non)) with
    | .nx (.slf c' fs :: _) => if c' = c then (if fs.length = nf then .ok fs else .bad) else .bad
    | .exc c fs => .exc c fs
    | _ => .bad) else .bad
/-! ### to speak of parts -/
def Sms.hd : Sms → Sm
  | .cons s _ => s
  | _ => .nev
def Sms.tl : Sms → Sms
  | .cons _ ss => ss
  | .frz _ ss => ss
  | .nil => .nil
def Sm.bd : Sm → Sms
  | .for _ _ b => b
  | .whl _ b => b
  | .iff _ a _ => a
  | _ => .nil
/-- every turn goes on, and keeps what holds of the slots -/
theorem forGo_inv {f : D → List Sl → Out} {I : List Sl → Prop} : ∀ {xs : List D} {ρ : List Sl}, (∀ x ∈ xs, ∀ ρ, I ρ → ∃ ρ', f x ρ = .nx ρ' ∧ I ρ') → I ρ → ∃ ρ', forGo f xs ρ = .nx ρ' ∧ I ρ'
  | [], ρ, _, h => ⟨ρ, rfl, h⟩
  | x :: xs, ρ, hs, h => by
    obtain ⟨ρ1, e1, h1⟩ := hs x (by simp) ρ h
    obtain ⟨ρ2, e2, h2⟩ := forGo_inv (xs := xs) (fun y hy => hs y (List.mem_cons_of_mem _ hy)) h1
    refine ⟨ρ2, ?_, h2⟩
    unfold forGo
    rw [e1]
    exact e2
/-- the first slot and how many more, where it goes on -/
def Out.fst : Out → Option (Sl × Nat)
  | .nx (t :: r) => some (t, r.length)
  | _ => none
end Cm

set_option Elab.async false
set_option linter.all false
set_option maxRecDepth 100000
/-! What an expression's meaning promises of the machine. -/
namespace Cm
open PySem PySem.Spec PyProof.Rows L2

section
variable (C : Ctx)
def res {α : Type} (σ : L2.St) (P N H : Hp) (r : RE α) (K : α → Hp → Hp → Hp → Prop) : Prop :=
  match r with
  | .bad => False
  | .ok a => ∀ P' N' H', Adv P N H P' N' H' → K a P' N' H'
  | .exc c fs => ∀ d P' N' H', Adv P N H P' N' H' → ExR C P' N' H' fs d → C.W (.ref (C.G.ca c)) d σ H'
def kE (H : Hp) (Q : VK) : ER → Hp → Hp → Hp → Prop := fun er P' N' H' => ∀ v, ERr C P' N' H' H er v → Q v H'
def tE (g : List Sl → RE ER) : TE := fun σ H Q => ∃ ρ P N, SR C P N H ρ σ ∧ res C σ P N H (g ρ) (kE C H Q)
def tT (g : List Sl → RE Bool) : TT := fun σ H Q => ∃ ρ P N, SR C P N H ρ σ ∧ res C σ P N H (g ρ) fun k _ _ H' => Q k H'
def tA (g : List Sl → RE (List ER)) : TA := fun σ H Q => ∃ ρ P N, SR C P N H ρ σ ∧ res C σ P N H (g ρ) fun es P' N' H' => ∀ vs, ERs C P' N' H' H es vs → Q vs H'
def tO (g : List Sl → RE (Option Int)) : TO := fun σ H Q => ∃ ρ P N, SR C P N H ρ σ ∧ res C σ P N H (g ρ) fun k _ _ H' => Q k H'
end
section
variable {C : Ctx} {σ : L2.St} {P N H P1 N1 H1 : Hp} {α β : Type} {K K' : α → Hp → Hp → Hp → Prop}
theorem res.adv {r : RE α} (a : Adv P N H P1 N1 H1) (h : res C σ P N H r K) : res C σ P1 N1 H1 r K := by
  cases r with
  | bad => exact h
  | ok x => exact fun P' N' H' b => h P' N' H' (a.trans b)
  | exc c fs => exact fun d P' N' H' b => h d P' N' H' (a.trans b)
theorem res.mono {r : RE α} (h : res C σ P N H r K) (f : ∀ a P' N' H', r = .ok a → Adv P N H P' N' H' → K a P' N' H' → K' a P' N' H') : res C σ P N H r K' := by
  cases r with
  | bad => exact h
  | ok x => exact fun P' N' H' b => f _ _ _ _ rfl b (h P' N' H' b)
  | exc c fs => exact h
theorem res.bind {r : RE α} {f : α → RE β} {K : β → Hp → Hp → Hp → Prop} (h : res C σ P N H (r.bind f) K) : res C σ P N H r fun a P1 N1 H1 => res C σ P1 N1 H1 (f a) K := by
  cases r with
  | bad => exact h
  | ok x => exact fun P' N' H' b => res.adv b h
  | exc c fs => exact h
theorem res.now {a : α} (r : Reg C P N H) (h : res C σ P N H (.ok a) K) : K a P N H := h _ _ _ (Adv.refl r.pH r.nH)
theorem res.val {H0 : Hp} {Q : VK} {d : D} {b : Bool} {v : V} (r : Reg C P N H) (h : res C σ P N H (.ok (.val d b)) (kE C H0 Q)) (x : RepB C P N b d v) : Q v H := h _ _ _ (Adv.refl r.pH r.nH) v x
theorem res.fre {H0 : Hp} {Q : VK} {ds : List D} {b : Bool} {xs : List V} {p : Addr} (r : Reg C P N H) (h : res C σ P N H (.ok (.fre ds b)) (kE C H0 Q)) (e : L2.Same H0 H) (x : RepsB C P N b ds xs) (hp : H p = none) : Q (.ref p) (upd H p (.lst xs)) :=
  h P N (upd H p (.lst xs)) ((Adv.refl r.pH r.nH).heap (same_upd hp)) _ ⟨p, xs, rfl, upd_same, e.free hp, r.pH.free hp, r.nH.free hp, x⟩
theorem res.tup {H0 : Hp} {Q : VK} {ds : List D} {b : Bool} {xs : List V} {p : Addr} (r : Reg C P N H) (h : res C σ P N H (.ok (.val (.tup ds) b)) (kE C H0 Q)) (x : RepsB C P N b ds xs) (hp : H p = none) : Q (.ref p) (upd H p (.tup xs)) :=
  h (upd P p (.tup xs)) N (upd H p (.tup xs)) ((Adv.refl r.pH r.nH).newP hp) _ ⟨p, xs, rfl, .inl (.inl upd_same), RepsB.adv (same_upd (r.pH.free hp)) (L2.Same.refl _) x⟩
/-! ### what is read -/
theorem ERw.int {i : Int} {b : Bool} {v : V} (h : ERw C P N H (.int i) b v) : v = .int i := h
theorem ERw.bl {i : Bool} {b : Bool} {v : V} (h : ERw C P N H (.bl i) b v) : v = .bl i := h
theorem ERw.str {s : List Nat} {b : Bool} {v : V} (h : ERw C P N H (.str s) b v) : v = .str ⟨s.toArray⟩ := h
theorem ERw.lst {ds : List D} {b : Bool} {v : V} (h : ERw C P N H (.lst ds) b v) : ∃ p xs, v = .ref p ∧ SqL C.G.K H p xs ∧ RepsB C P N b ds xs := h
theorem ERw.tup {ds : List D} {b : Bool} {v : V} (r : Reg C P N H) (h : ERw C P N H (.tup ds) b v) : ∃ p xs, v = .ref p ∧ SqT C.G.K H p xs ∧ RepsB C P N b ds xs := by
  obtain ⟨a, xs, e, h1, h2⟩ := h
  exact ⟨a, xs, e, Same.seqT r.pH h1, h2⟩
theorem ERw.dp {d : D} {b : Bool} {v : V} {n : Nat} (r : Reg C P N H) (h : ERw C P N H d b v) (f : d.fit n = true) : Dp C.G.K H v d.py := by
  have hl : ∀ a xs, LNb C.G.K P N C.R b a xs → SqL C.G.K H a xs := LNb.seq r.pH r.nH r.rH
  cases d with
  | lst ds =>
    obtain ⟨p, xs, rfl, h1, h2⟩ := h
    simp only [D.fit, Bool.and_eq_true] at f
    exact .lst h1 (Reps.dp r.pH hl ds xs _ f.2 h2)
  | _ => exact Rep.dp r.pH hl _ v n f h
/-- an operation of two values -/
def OpOk (C : Ctx) (op : D → D → Bool → RE ER) (r : R2) : Prop := ∀ {P N H H0 : Hp} {σ : L2.St} {x y : D} {b c : Bool} {v u : V} {Q : VK}, Reg C P N H → ERw C P N H x b v → ERw C P N H y c u → L2.Same H0 H →
  res C σ P N H (op x y (b && c)) (kE C H0 Q) → r v u H Q
theorem pe_opD {X : Cx} {op : Operator} {f : D → D → Bool → RE ER} {r : R2} {a b : Expr} {ga gb : List Sl → RE ER} {pos : Pos} (ho : OpR X (binaryOp op) r) (hf : OpOk C f r) (ha : PE X a (tE C ga)) (hb : PE X b (tE C gb)) :
    PE X (.BinOp a op b pos) (tE C fun ρ => (ga ρ).bind fun x => (gb ρ).bind fun y => f x.d y.d (x.b && y.b)) := by
  refine ⟨fun pins s σ H Q I h => (pe_op ho ha hb).run pins s σ H Q I ?_⟩
  obtain ⟨ρ, P, N, S, h⟩ := h
  refine ⟨ρ, P, N, S, h.bind.mono fun x P1 N1 H1 _ a1 h1 v rv => ⟨ρ, P1, N1, S.adv a1, h1.bind.mono fun y P2 N2 H2 _ a2 h2 u ru => ?_⟩⟩
  have r2 := (S.adv (a1.trans a2)).reg
  exact hf r2 ((rv.adv a2).w r2) (ru.w r2) (a1.trans a2).hh h2
/-- a comparison -/
def CmOk (C : Ctx) (op : D → D → RE Bool) (r : R2) : Prop := ∀ {P N H : Hp} {x y : D} {b c : Bool} {v u : V} {Q : VK} {k : Bool}, Reg C P N H → ERw C P N H x b v → ERw C P N H y c u → op x y = .ok k → Q (.bl k) H → r v u H Q
def noExc {α : Type} : RE α → Prop
  | .exc _ _ => False
  | _ => True
theorem evEq_nx (x y : D) : noExc (evEq x y) := by
  unfold evEq
  split <;> first | trivial | (split <;> trivial)
theorem evIn_nx (x y : D) : noExc (evIn x y) := by
  unfold evIn
  split
  · split <;> trivial
  · split <;> trivial
  · split <;> trivial
  · trivial
theorem evC_nx (o : Cop) (x y : D) : noExc (evC o x y) := by
  cases o <;> simp only [evC]
  · exact evEq_nx x y
  · have := evEq_nx x y
    cases h : evEq x y <;> simp_all [noExc]
  · split <;> trivial
  · split <;> trivial
  · split <;> trivial
  · split <;> trivial
  · exact evIn_nx x y
  · have := evIn_nx x y
    cases h : evIn x y <;> simp_all [noExc]
theorem pe_cmD {X : Cx} {op : CmpOp} {f : D → D → RE Bool} {r : R2} {a b : Expr} {ga gb : List Sl → RE ER} {pos : Pos} (ho : OpR X (compareOp op) r) (hm : behindInMarks op b = false) (hf : CmOk C f r) (hn : ∀ x y, noExc (f x y)) (ha : PE X a (tE C ga)) (hb : PE X b (tE C gb)) :
    PE X (.Compare a [op] [b] pos) (tE C fun ρ => (ga ρ).bind fun x => (gb ρ).bind fun y => (f x.d y.d).bind fun c => ok (.bl c)) := by
  refine ⟨fun pins s σ H Q I h => (pe_cmpR ho ha hb hm).run pins s σ H Q I ?_⟩
  obtain ⟨ρ, P, N, S, h⟩ := h
  refine ⟨ρ, P, N, S, h.bind.mono fun x P1 N1 H1 _ a1 h1 v rv => ⟨ρ, P1, N1, S.adv a1, h1.bind.mono fun y P2 N2 H2 _ a2 h2 u ru => ?_⟩⟩
  have r2 := (S.adv (a1.trans a2)).reg
  have := hn x.d y.d
  cases e : f x.d y.d with
  | bad => rw [e] at h2; exact h2.elim
  | exc c fs => rw [e] at this; exact this.elim
  | ok k =>
    rw [e] at h2
    exact hf r2 ((rv.adv a2).w r2) (ru.w r2) e (res.val r2 h2 rfl)
theorem pt_cmD {X : Cx} {op : CmpOp} {f : D → D → RE Bool} {r : R2} {a b : Expr} {ga gb : List Sl → RE ER} {pos : Pos} (ho : OpR X (compareOp op) r) (hm : behindInMarks op b = false) (hf : CmOk C f r) (hn : ∀ x y, noExc (f x y)) (ha : PE X a (tE C ga)) (hb : PE X b (tE C gb)) :
    PT X (.Compare a [op] [b] pos) (tT C fun ρ => (ga ρ).bind fun x => (gb ρ).bind fun y => f x.d y.d) := by
  refine ⟨fun pins s σ H Q I h => (pt_cmpR ho ha hb hm).run pins s σ H Q I ?_⟩
  obtain ⟨ρ, P, N, S, h⟩ := h
  refine ⟨ρ, P, N, S, h.bind.mono fun x P1 N1 H1 _ a1 h1 v rv => ⟨ρ, P1, N1, S.adv a1, h1.bind.mono fun y P2 N2 H2 _ a2 h2 u ru => ?_⟩⟩
  have r2 := (S.adv (a1.trans a2)).reg
  have := hn x.d y.d
  cases e : f x.d y.d with
  | bad => rw [e] at h2; exact h2.elim
  | exc c fs => rw [e] at this; exact this.elim
  | ok k =>
    rw [e] at h2
    exact hf r2 ((rv.adv a2).w r2) (ru.w r2) e ⟨k, rfl, res.now r2 h2⟩
end
end Cm

set_option Elab.async false
set_option linter.all false
set_option maxRecDepth 100000
/-! The operators. -/
namespace Cm
open PySem PySem.Spec PyProof.Rows L2

section
variable {X : Cx}
def rCatS (K : PySem.W.Frag) : R2 := fun x y H Q => ∃ l b xs zs, x = .ref l ∧ y = .ref b ∧ SqL K H l xs ∧ SqL K H b zs ∧ xs.length + zs.length ≤ sizeLine ∧ ∀ p, H p = none → Q (.ref p) (upd H p (.lst (xs ++ zs)))
theorem op_catS : OpR X (binaryOp .Add) (rCatS X.K) := by
  intro pins s σ H x y v u Q I rx ry hh
  obtain ⟨l, b, xs, zs, rfl, rfl, hH, hB, hz, qq⟩ := hh
  cases rx
  cases ry
  obtain ⟨its, r, p, _⟩ := I.list hH
  obtain ⟨its2, r2, p2, _⟩ := I.list hB
  obtain ⟨⟨cls, dd, data, sl⟩, n, ho, hc, hdd, hd⟩ := p
  obtain ⟨⟨cls2, dd2, data2, sl2⟩, n2, ho2, hc2, hdd2, hd2⟩ := p2
  simp only at hc hd hdd hc2 hd2 hdd2
  subst hc hd hdd hc2 hd2 hdd2
  have l1 := r.length
  have l2 := r2.length
  refine concat_meets ⟨_, ho, rfl⟩ ⟨_, ho2, rfl⟩ noFill_list_add seq_list_add PySem.F.slot_list_add PySem.F.entry_list_add (PySem.F.args_list_add_2 _ _) (list_addW l b its.toArray its2.toArray n n2 _ _ sl sl2 (by simp only [List.size_toArray]; omega)) ⟨ho, ho2, ?_⟩
  have ea : its.toArray ++ its2.toArray = (its ++ its2).toArray := by simp
  rw [ea]
  exact ⟨.ref _, _, I.lnew (t' := s.toks) (r.append r2) (by rw [List.length_append]; omega), rfl, qq _ I.fresh⟩
def rRepS (K : PySem.W.Frag) : R2 := fun x y H Q => ∃ l k xs, x = .ref l ∧ y = .int k ∧ SqL K H l xs ∧ -(2 ^ 63) ≤ k ∧ k < 2 ^ 63 ∧ xs.length * k.toNat ≤ sizeLine ∧
  ∀ p, H p = none → Q (.ref p) (upd H p (.lst (List.replicate k.toNat xs).flatten))
theorem op_repS : OpR X (binaryOp .Mult) (rRepS X.K) := by
  intro pins s σ H x y v u Q I rx ry hh
  obtain ⟨l, k, xs, rfl, rfl, hH, h1, h2, hz, qq⟩ := hh
  cases rx
  obtain ⟨t, rfl⟩ := ry
  obtain ⟨its, r, p, _⟩ := I.list hH
  obtain ⟨⟨cls, dd, data, sl⟩, n, ho, hc, hdd, hd⟩ := p
  simp only at hc hd hdd
  subst hc hd hdd
  have l1 := r.length
  have hsz : its.length * k.toNat ≤ 16777216 := by rw [← l1]; exact hz
  refine wpAny_binaryOp_repeat_ref (T := "list") (U := "int") (by decide) ⟨_, ho, rfl⟩ (fun s' => typeIs_int s' k t) noFill_list_mul F.fills_int_mul F.slot_int_rmul repeat_list F.slot_int_index.lookup
    (call_meets F.slot_int_rmul (typeIs_int s k t) F.entry_int_rmul (F.args_int_rmul_2 _ _) (lm_int_rmul_list_any k t l its.toArray n _ sl)
      ⟨ho, rfl, ⟨_, ho, rfl⟩, call_meets F.slot_list_mul ⟨_, ho, rfl⟩ F.entry_list_mul (F.args_list_mul_2 _ _)
        (lm_list_mul_any l its.toArray n _ sl k t (by simp [Builtin.List.listFitsIndex]; omega) (by simp only [List.size_toArray]; omega) (by simp [Builtin.List.listTooLong, sizeLine]; omega))
        ⟨ho, ?_⟩⟩)
  rw [listMul_foldl_if]
  exact ⟨.ref _, _, I.lnew (t' := s.toks) (r.rep k.toNat) (by rw [PyProof.Rows.lm_len_rep_flat, Nat.mul_comm]; exact hz), rfl, qq _ I.fresh⟩
end
def bopP : Bop → Operator
  | .add => .Add | .sub => .Sub | .mul => .Mult | .fdv => .FloorDiv | .mdl => .Mod | .pow => .Pow | .shl => .LShift | .shr => .RShift | .and => .BitAnd | .or => .BitOr
def rBop (K : PySem.W.Frag) : Bop → R2
  | .add => fun x y H Q => (rI0 (fun i j => .int (i + j)) x y H Q ∨ (fun x y H Q => ∃ i j, x = .str i ∧ y = .str j ∧ i.length + j.length ≤ sizeLine ∧ Q (.str (i ++ j)) H : R2) x y H Q) ∨ rCatS K x y H Q
  | .sub => rI0 fun i j => .int (i - j)
  | .mul => fun x y H Q => (rI CMul (fun i j => .int (i * j)) x y H Q ∨ rI CMulX (fun i j => .int (i * j)) x y H Q) ∨ rRepS K x y H Q
  | .fdv => rI CDivN fun i j => .int (i.fdiv j)
  | .mdl => rI (fun _ j => j ≠ 0) fun i j => .int (i.fmod j)
  | .pow => rI CPow fun i j => .int (i ^ j.toNat)
  | .shl => rI CPow fun i j => .int (i * 2 ^ j.toNat)
  | .shr => rI (fun _ j => 0 ≤ j) fun i j => .int (i / 2 ^ j.toNat)
  | .and => rI0 fun i j => .int (Builtin.bitAnd i j)
  | .or => rI0 fun i j => .int (Builtin.bitOr i j)
theorem op_bop {X : Cx} : ∀ o, OpR X (binaryOp (bopP o)) (rBop X.K o)
  | .add => (op_add.or op_add_str).or op_catS
  | .sub => op_sub
  | .mul => (op_mul.or op_mulX).or op_repS
  | .fdv => op_fdivN
  | .mdl => op_modN
  | .pow => op_pow
  | .shl => op_shl
  | .shr => op_shr
  | .and => op_and
  | .or => op_or
theorem str_app (s t : List Nat) : (⟨s.toArray⟩ : Str) ++ (⟨t.toArray⟩ : Str) = ⟨(s ++ t).toArray⟩ := by
  show (⟨s.toArray ++ t.toArray⟩ : Str) = ⟨(s ++ t).toArray⟩
  simp
theorem str_len (s : List Nat) : (⟨s.toArray⟩ : Str).length = s.length := by
  show s.toArray.size = s.length
  simp
theorem RepsB.rep {C : Ctx} {P N : Hp} {b : Bool} {ds : List D} {vs : List V} (h : RepsB C P N b ds vs) : ∀ k, RepsB C P N b (List.replicate k ds).flatten (List.replicate k vs).flatten
  | 0 => rfl
  | k + 1 => by simpa [List.replicate_succ] using Reps.append h (RepsB.rep h k)
theorem bop_ok {C : Ctx} (o : Bop) : OpOk C (evB o) (rBop C.G.K o) := by
  intro P N H H0 σ x y b c v u Q r hx hy e h
  unfold evB at h
  simp only [gd_if, gdO_if, leB_iff, divB_iff, nzB_iff, powB_iff, nnB_iff, strB_iff, splB_iff, rg3B_iff] at h
  cases o <;> simp only at h <;> split at h <;> try exact h.elim
  · cases hx.int; cases hy.int
    exact .inl (.inl ⟨_, _, rfl, rfl, h.val r rfl⟩)
  · cases hx.str; cases hy.str
    split at h
    · rename_i hl
      refine .inl (.inr ⟨_, _, rfl, rfl, ?_, ?_⟩)
      · rw [str_len, str_len]; exact hl
      · rw [str_app]; exact h.val r rfl
    · exact h.elim
  · obtain ⟨p, xs, rfl, h1, h2⟩ := hx.lst
    obtain ⟨q, zs, rfl, h3, h4⟩ := hy.lst
    split at h
    · rename_i hl
      refine .inr ⟨_, _, _, _, rfl, rfl, h1, h3, ?_, fun p hp => h.fre r e (Reps.append h2.and1 h4.and2) hp⟩
      rw [h2.length, h4.length]; exact hl
    · exact h.elim
  · cases hx.int; cases hy.int
    exact ⟨_, _, rfl, rfl, h.val r rfl⟩
  · cases hx.int; cases hy.int
    split at h
    · rename_i hl
      have hl := mulB_iff _ _ ▸ hl
      rcases hl with hl | hl
      · exact .inl (.inl ⟨_, _, rfl, rfl, hl, h.val r rfl⟩)
      · exact .inl (.inr ⟨_, _, rfl, rfl, hl, h.val r rfl⟩)
    · exact h.elim
  · obtain ⟨p, xs, rfl, h1, h2⟩ := hx.lst
    cases hy.int
    split at h
    · rename_i hl
      have hl := repB_of hl
      refine .inr ⟨_, _, _, rfl, rfl, h1, hl.1, hl.2.1, ?_, fun p hp => h.fre r e (RepsB.rep h2.and1 _) hp⟩
      rw [h2.length]; exact hl.2.2
    · exact h.elim
  · cases hx.int; cases hy.int
    split at h
    · rename_i hl
      exact ⟨_, _, rfl, rfl, hl, h.val r rfl⟩
    · exact h.elim
  · cases hx.int; cases hy.int
    split at h
    · rename_i hl
      exact ⟨_, _, rfl, rfl, hl, h.val r rfl⟩
    · exact h.elim
  · cases hx.int; cases hy.int
    split at h
    · rename_i hl
      exact ⟨_, _, rfl, rfl, hl, h.val r rfl⟩
    · exact h.elim
  · cases hx.int; cases hy.int
    split at h
    · rename_i hl
      exact ⟨_, _, rfl, rfl, hl, h.val r rfl⟩
    · exact h.elim
  · cases hx.int; cases hy.int
    split at h
    · rename_i hl
      exact ⟨_, _, rfl, rfl, hl, h.val r rfl⟩
    · exact h.elim
  · cases hx.int; cases hy.int
    exact ⟨_, _, rfl, rfl, h.val r rfl⟩
  · cases hx.int; cases hy.int
    exact ⟨_, _, rfl, rfl, h.val r rfl⟩
/-! ### comparisons -/
def copP : Cop → CmpOp
  | .eq => .Eq | .ne => .NotEq | .lt => .Lt | .le => .LtE | .gt => .Gt | .ge => .GtE | .isin => .In | .nin => .NotIn
def rCop (K : PySem.W.Frag) : Cop → R2
  | .eq => fun x y H Q => rEq x y H Q ∨ rEqD K x y H Q
  | .ne => fun x y H Q => rNe x y H Q ∨ rNeD K x y H Q
  | .lt => rI0 fun i j => .bl (decide (i < j))
  | .le => rI0 fun i j => .bl (decide (i ≤ j))
  | .gt => rI0 fun i j => .bl (decide (j < i))
  | .ge => rI0 fun i j => .bl (decide (j ≤ i))
  | .isin => fun x y H Q => (rInD K x y H Q ∨ rIn K false x y H Q) ∨ (fun x y H Q => ∃ (c : Nat) (z : Str), x = .str ⟨#[c]⟩ ∧ y = .str z ∧ Q (.bl (decide (c ∈ z.cps.toList))) H : R2) x y H Q
  | .nin => fun x y H Q => (rNotInD K x y H Q ∨ rIn K true x y H Q) ∨ (fun x y H Q => ∃ (c : Nat) (z : Str), x = .str ⟨#[c]⟩ ∧ y = .str z ∧ Q (.bl (!decide (c ∈ z.cps.toList))) H : R2) x y H Q
theorem op_cop {X : Cx} (hu : X.A.units + 65 < cLine) : ∀ o, OpR X (compareOp (copP o)) (rCop X.K o)
  | .eq => op_eq.or (op_eqD (by omega))
  | .ne => op_ne.or (op_neD (by omega))
  | .lt => op_lt
  | .le => op_le
  | .gt => op_gt
  | .ge => op_ge
  | .isin => ((op_inD hu).or op_in_seq).or op_in_sign
  | .nin => ((op_notInD hu).or op_notIn_seq).or op_notIn_sign
theorem evEq_sound {C : Ctx} {P N H : Hp} {x y : D} {b c : Bool} {v u : V} {k : Bool} (r : Reg C P N H) (hx : ERw C P N H x b v) (hy : ERw C P N H y c u) (h : evEq x y = .ok k) :
    (scal v u = true ∧ decide (v = u) = k) ∨ ∃ d e, Dp C.G.K H v d ∧ Dp C.G.K H u e ∧ SeqAt.shaped d = true ∧ SeqAt.shaped e = true ∧ PyData.eqv d e = k := by
  unfold evEq at h
  split at h
  · cases hx.int; cases hy.int; cases h
    exact .inl ⟨rfl, by simp⟩
  · cases hx.str; cases hy.str; cases h
    refine .inl ⟨rfl, ?_⟩
    simp
  · cases hx.bl; cases hy.bl; cases h
    exact .inl ⟨rfl, by rw [dec_bl]⟩
  · split at h
    · rename_i f
      simp only [Bool.and_eq_true] at f
      cases h
      exact .inr ⟨_, _, hx.dp r f.1, hy.dp r f.2, D.shaped f.1, D.shaped f.2, D.eqv_py _ _ _ _ f.1 f.2⟩
    · cases h
theorem any_py {x : D} {n m : Nat} (hx : x.fit n = true) : ∀ {ys : List D}, D.fits ys m = true → ((D.pys ys).any fun z => PyData.eqv z x.py) = ys.any fun z => z.eqb x
  | [], _ => rfl
  | y :: ys, h => by
    simp only [D.fits, Bool.and_eq_true] at h
    simp only [D.pys, List.any_cons]
    rw [any_py hx h.2, D.eqv_py y x m n h.1 hx]
theorem fit0_flat {C : Ctx} {P N H : Hp} {x : D} {b : Bool} {v : V} (hx : Rep C.G P (LNb C.G.K P N C.R b) x v) (f : x.fit 0 = true) : flatV v = true := by
  cases x <;> simp [D.fit] at f <;> cases hx <;> rfl
theorem fits0_flat {C : Ctx} {P N H : Hp} {b : Bool} : ∀ {xs : List D} {vs : List V}, RepsB C P N b xs vs → D.fits xs 0 = true → vs.all flatV = true
  | [], _, h, _ => by cases h; rfl
  | x :: xs, _, ⟨v, r, e, h1, h2⟩, f => by
    subst e
    simp only [D.fits, Bool.and_eq_true] at f
    simp only [List.all_cons, Bool.and_eq_true]
    exact ⟨fit0_flat (H := H) h1 f.1, fits0_flat (H := H) h2 f.2⟩
theorem eqV_eqb {C : Ctx} {P N : Hp} {x y : D} {b c : Bool} {v u : V} (hx : RepB C P N b x v) (hy : RepB C P N c y u) (fx : x.fit 0 = true) (fy : y.fit 0 = true) : eqV v u = x.eqb y := by
  cases x <;> simp [D.fit] at fx <;> cases y <;> simp [D.fit] at fy <;> cases hx <;> cases hy <;> simp [eqV, D.eqb]
  · rw [Bool.eq_iff_iff, beq_iff_eq, decide_eq_true_iff]
  · rw [Bool.eq_iff_iff, beq_iff_eq, decide_eq_true_iff]
  · rw [Bool.eq_iff_iff, beq_iff_eq, decide_eq_true_iff]
  · rw [Bool.eq_iff_iff, beq_iff_eq, decide_eq_true_iff]
    exact ⟨fun q => by injection q with q; exact toArray_inj.mp q, fun q => by rw [q]⟩
theorem inV_any {C : Ctx} {P N : Hp} {x : D} {b c : Bool} {v : V} (hx : RepB C P N b x v) (fx : x.fit 0 = true) : ∀ {ys : List D} {us : List V}, RepsB C P N c ys us → D.fits ys 0 = true → inV v us = ys.any fun z => z.eqb x
  | [], _, h, _ => by cases h; rfl
  | y :: ys, _, ⟨u, r, e, h1, h2⟩, f => by
    subst e
    simp only [D.fits, Bool.and_eq_true] at f
    have := inV_any hx fx h2 f.2
    unfold inV at this ⊢
    simp only [List.any_cons]
    rw [this, eqV_eqb h1 hx f.1 fx]
theorem evIn_sound {C : Ctx} {P N H : Hp} {x y : D} {b c : Bool} {v u : V} {k : Bool} (r : Reg C P N H) (hx : ERw C P N H x b v) (hy : ERw C P N H y c u) (h : evIn x y = .ok k) :
    (∃ d ds, Dp C.G.K H v d ∧ Dp C.G.K H u (.list ds) ∧ SeqAt.shaped d = true ∧ SeqAt.shaped (.list ds) = true ∧ (ds.any fun z => PyData.eqv z d) = k) ∨
    (∃ p xs, u = .ref p ∧ (SqL C.G.K H p xs ∨ SqT C.G.K H p xs) ∧ flatV v = true ∧ xs.all flatV = true ∧ inV v xs = k) ∨
    ∃ (c : Nat) (z : Str), v = .str ⟨#[c]⟩ ∧ u = .str z ∧ decide (c ∈ z.cps.toList) = k := by
  unfold evIn at h
  split at h
  · split at h
    · rename_i ys f
      simp only [Bool.and_eq_true] at f
      cases h
      have f2 := f.2
      simp only [D.fit, Bool.and_eq_true] at f2
      refine .inl ⟨x.py, D.pys ys, hx.dp r f.1, hy.dp r f.2, D.shaped f.1, D.shaped f.2, any_py f.1 f2.2⟩
    · cases h
  · split at h
    · rename_i ys f
      simp only [Bool.and_eq_true] at f
      cases h
      obtain ⟨p, xs, rfl, h1, h2⟩ := hy.tup r
      have hx' : RepB C P N b x v := by
        cases x with
        | lst ds => simp [D.fit] at f
        | _ => exact hx
      exact .inr (.inl ⟨p, xs, rfl, .inr h1, fit0_flat (H := H) hx' f.1, fits0_flat (H := H) h2 f.2, inV_any hx' f.1 h2 f.2⟩)
    · cases h
  · split at h
    · cases hx.str; cases hy.str; cases h
      exact .inr (.inr ⟨_, _, rfl, rfl, rfl⟩)
    · cases h
  · cases h
theorem cop_ok {C : Ctx} (o : Cop) : CmOk C (evC o) (rCop C.G.K o) := by
  intro P N H x y b c v u Q k r hx hy h q
  cases o <;> simp only [evC] at h
  · rcases evEq_sound r hx hy h with ⟨h1, rfl⟩ | ⟨d, e, h1, h2, h3, h4, rfl⟩
    · exact .inl ⟨h1, q⟩
    · exact .inr ⟨d, e, h1, h2, h3, h4, q⟩
  · cases e : evEq x y with
    | bad => rw [e] at h; cases h
    | exc c fs => rw [e] at h; cases h
    | ok k' =>
      rw [e] at h; cases h
      rcases evEq_sound r hx hy e with ⟨h1, rfl⟩ | ⟨d, d2, h1, h2, h3, h4, rfl⟩
      · exact .inl ⟨h1, q⟩
      · exact .inr ⟨d, d2, h1, h2, h3, h4, q⟩
  · split at h
    · cases hx.int; cases hy.int; cases h
      exact ⟨_, _, rfl, rfl, q⟩
    · cases h
  · split at h
    · cases hx.int; cases hy.int; cases h
      exact ⟨_, _, rfl, rfl, q⟩
    · cases h
  · split at h
    · cases hx.int; cases hy.int; cases h
      exact ⟨_, _, rfl, rfl, q⟩
    · cases h
  · split at h
    · cases hx.int; cases hy.int; cases h
      exact ⟨_, _, rfl, rfl, q⟩
    · cases h
  · rcases evIn_sound r hx hy h with ⟨d, e, h1, h2, h3, h4, rfl⟩ | ⟨p, xs, h1, h2, h3, h4, rfl⟩ | ⟨c, z, h1, h2, rfl⟩
    · exact .inl (.inl ⟨d, e, h1, h2, h3, h4, q⟩)
    · exact .inl (.inr ⟨p, xs, h1, h2, h3, h4, q⟩)
    · exact .inr ⟨c, z, h1, h2, q⟩
  · cases e : evIn x y with
    | bad => rw [e] at h; cases h
    | exc c fs => rw [e] at h; cases h
    | ok k' =>
      rw [e] at h; cases h
      rcases evIn_sound r hx hy e with ⟨d, d2, h1, h2, h3, h4, rfl⟩ | ⟨p, xs, h1, h2, h3, h4, rfl⟩ | ⟨c, z, h1, h2, rfl⟩
      · exact .inl (.inl ⟨d, d2, h1, h2, h3, h4, q⟩)
      · exact .inl (.inr ⟨p, xs, h1, h2, h3, h4, q⟩)
      · exact .inr ⟨c, z, h1, h2, q⟩
end Cm

set_option Elab.async false
set_option linter.all false
set_option maxRecDepth 100000
/-! Expressions. -/
namespace Cm
open PySem PySem.Spec PyProof.Rows L2

section
variable {C : Ctx} {X : Cx}
theorem pe_mono {X : Cx} {e : Expr} {t u : TE} (h : PE X e t) (f : ∀ σ H Q, u σ H Q → t σ H Q) : PE X e u := ⟨fun pins s σ H Q I q => h.run pins s σ H Q I (f _ _ _ q)⟩
theorem pt_mono {X : Cx} {e : Expr} {t u : TT} (h : PT X e t) (f : ∀ σ H Q, u σ H Q → t σ H Q) : PT X e u := ⟨fun pins s σ H Q I q => h.run pins s σ H Q I (f _ _ _ q)⟩
theorem pa_mono {X : Cx} {e : List Expr} {t u : TA} (h : PA X e t) (f : ∀ σ H Q, u σ H Q → t σ H Q) : PA X e u := ⟨fun pos pins s σ H Q I q => h.run pos pins s σ H Q I (f _ _ _ q)⟩
theorem pe_nevD {e : Expr} : PE X e (tE C fun _ => .bad) := ⟨fun pins s σ H Q I h => by obtain ⟨ρ, P, N, S, h⟩ := h; exact h.elim⟩
theorem pe_varD {i : Nat} {x : Str} {pos : Pos} (hN : X.N[i]? = some x) (hv : Vis X.env.scope x) (hd : (x == ("__debug__" : Str)) = false) (hcd : (x == ("__classdict__" : Str)) = false) :
    PE X (.Name x pos) (tE C fun ρ => match ρ[i]? with
    | some (.val d b) => .ok (.val d b)
    | some (.own ds b) => .ok (.brw ds b)
    | _ => .bad) := by
  refine pe_mono (pe_var (i := i) hN hv hd hcd) fun σ H Q h => ?_
  obtain ⟨ρ, P, N, S, h⟩ := h
  cases e : ρ[i]? with
  | none => simp only [e] at h; exact h.elim
  | some s =>
    obtain ⟨o, h1, h2⟩ := S.sl i s e
    simp only [e] at h
    cases s with
    | non => exact h.elim
    | val d b =>
      obtain ⟨v, rfl, h3⟩ := h2
      exact ⟨v, h1, h.val S.reg h3⟩
    | own ds b =>
      obtain ⟨p, xs, rfl, h3, h4, h5, h6, h7⟩ := h2
      exact ⟨.ref p, h1, h.now S.reg _ ⟨p, xs, rfl, h3, h4, h5, h6, h7⟩⟩
    | slf c fs => exact h.elim
theorem pe_cD {e : Expr} {v : V} {d : D} (h : PE X e (tC v)) (r : ∀ P N, RepB C P N true d v) : PE X e (tE C fun _ => .ok (.val d true)) := by
  refine pe_mono h fun σ H Q h => ?_
  obtain ⟨ρ, P, N, S, h⟩ := h
  exact h.val S.reg (r P N)
/-- a test of what is a bool -/
theorem test_of {g : List Sl → RE ER} (hg : ∀ ρ er, g ρ = .ok er → ∃ k, er = .val (.bl k) true) {σ : L2.St} {H : Hp} {Q : Bool → Hp → Prop} (h : tT C (fun ρ => (g ρ).bind fun x => evTr x.d) σ H Q) :
    tE C g σ H fun x H' => ∃ k, x = .bl k ∧ Q k H' := by
  obtain ⟨ρ, P, N, S, h⟩ := h
  refine ⟨ρ, P, N, S, h.bind.mono fun x P1 N1 H1 e a1 h1 v rv => ?_⟩
  obtain ⟨k, rfl⟩ := hg ρ x e
  exact ⟨k, rv, h1.now (S.adv a1).reg⟩
abbrev gChn (o p : Cop) (ga gb gc : List Sl → RE ER) : List Sl → RE ER := fun ρ => (ga ρ).bind fun x => (gb ρ).bind fun y => (evC o x.d y.d).bind fun k => if k = true then (gc ρ).bind fun z => (evC p y.d z.d).bind fun k' => ok (.bl k') else ok (.bl false)
theorem chn_imp {o p : Cop} {ga gb gc : List Sl → RE ER} {σ : L2.St} {H : Hp} {Q : VK} (h : tE C (gChn o p ga gb gc) σ H Q) : tChain (rCop C.G.K o) (rCop C.G.K p) (tE C ga) (tE C gb) (tE C gc) σ H Q := by
  obtain ⟨ρ, P, N, S, h⟩ := h
  refine ⟨ρ, P, N, S, h.bind.mono fun x P1 N1 H1 _ a1 h1 v rv => ⟨ρ, P1, N1, S.adv a1, h1.bind.mono fun y P2 N2 H2 _ a2 h2 u ru => ?_⟩⟩
  have r2 := (S.adv (a1.trans a2)).reg
  have n1 := evC_nx o x.d y.d
  cases e : evC o x.d y.d with
  | bad => rw [e] at h2; exact h2.elim
  | exc c fs => rw [e] at n1; exact n1.elim
  | ok k =>
    rw [e] at h2
    refine cop_ok o r2 ((rv.adv a2).w r2) (ru.w r2) e ⟨k, rfl, ?_⟩
    cases k with
    | false => exact h2.val r2 rfl
    | true =>
      refine iteT ⟨ρ, P2, N2, S.adv (a1.trans a2), res.mono (res.bind h2) fun z P3 N3 H3 _ a3 h3 w rw' => ?_⟩
      have r3 := (S.adv ((a1.trans a2).trans a3)).reg
      have n2 := evC_nx p y.d z.d
      cases e3 : evC p y.d z.d with
      | bad => rw [e3] at h3; exact h3.elim
      | exc c fs => rw [e3] at n2; exact n2.elim
      | ok k' =>
        rw [e3] at h3
        exact cop_ok p r3 ((ru.adv a3).w r3) (rw'.w r3) e3 (h3.val r3 rfl)
/-- a chain of two -/
theorem pe_chnD {o p : Cop} {a b c : Expr} {ga gb gc : List Sl → RE ER} {pos : Pos} (hu : X.A.units + 65 < cLine) (hK : X.K = C.G.K) (ha : PE X a (tE C ga)) (hb : PE X b (tE C gb)) (hc : PE X c (tE C gc)) (hm : lastMarks [copP o, copP p] [b, c] = false) :
    PE X (.Compare a [copP o, copP p] [b, c] pos) (tE C (gChn o p ga gb gc)) :=
  pe_mono (pe_chain (op_cop hu o) (op_cop hu p) ha hb hc hm) fun σ H Q h => by rw [hK]; exact chn_imp h
theorem pt_chnD {o p : Cop} {a b c : Expr} {ga gb gc : List Sl → RE ER} {pos : Pos} (hu : X.A.units + 65 < cLine) (hK : X.K = C.G.K) (ha : PE X a (tE C ga)) (hb : PE X b (tE C gb)) (hc : PE X c (tE C gc)) (hm : lastMarks [copP o, copP p] [b, c] = false) :
    PT X (.Compare a [copP o, copP p] [b, c] pos) (tT C fun ρ => (gChn o p ga gb gc ρ).bind fun x => evTr x.d) :=
  pt_mono (pt_chain (op_cop hu o) (op_cop hu p) ha hb hc hm) fun σ H Q h => by
    rw [hK]
    refine chn_imp (test_of (fun ρ er e => ?_) h)
    cases e1 : ga ρ <;> simp only [gChn, e1, RE.bind_ok, RE.bind_bad, RE.bind_exc] at e <;> try cases e
    cases e2 : gb ρ <;> simp only [e2, RE.bind_ok, RE.bind_bad, RE.bind_exc] at e <;> try cases e
    rename_i x y
    cases e3 : evC o x.d y.d <;> simp only [e3, RE.bind_ok, RE.bind_bad, RE.bind_exc] at e <;> try cases e
    split at e
    · cases e4 : gc ρ <;> simp only [e4, RE.bind_ok, RE.bind_bad, RE.bind_exc] at e <;> try cases e
      rename_i z
      cases e5 : evC p y.d z.d <;> simp only [e5, RE.bind_ok, RE.bind_bad, RE.bind_exc] at e <;> try cases e
      exact ⟨_, rfl⟩
    · cases e
      exact ⟨_, rfl⟩
abbrev gCmp (o : Cop) (ga gb : List Sl → RE ER) : List Sl → RE ER := fun ρ => (ga ρ).bind fun x => (gb ρ).bind fun y => (evC o x.d y.d).bind fun c => ok (.bl c)
theorem cmp_imp {o : Cop} {ga gb : List Sl → RE ER} {σ : L2.St} {H : Hp} {Q : VK} (h : tE C (gCmp o ga gb) σ H Q) : tOp (rCop C.G.K o) (tE C ga) (tE C gb) σ H Q := by
  obtain ⟨ρ, P, N, S, h⟩ := h
  refine ⟨ρ, P, N, S, h.bind.mono fun x P1 N1 H1 _ a1 h1 v rv => ⟨ρ, P1, N1, S.adv a1, h1.bind.mono fun y P2 N2 H2 _ a2 h2 u ru => ?_⟩⟩
  have r2 := (S.adv (a1.trans a2)).reg
  have n1 := evC_nx o x.d y.d
  cases e : evC o x.d y.d with
  | bad => rw [e] at h2; exact h2.elim
  | exc c fs => rw [e] at n1; exact n1.elim
  | ok k =>
    rw [e] at h2
    exact cop_ok o r2 ((rv.adv a2).w r2) (ru.w r2) e (h2.val r2 rfl)
theorem pe_cmpD {o : Cop} {a b : Expr} {ga gb : List Sl → RE ER} {pos : Pos} (hu : X.A.units + 65 < cLine) (hK : X.K = C.G.K) (ha : PE X a (tE C ga)) (hb : PE X b (tE C gb)) (hm : behindInMarks (copP o) b = false) :
    PE X (.Compare a [copP o] [b] pos) (tE C (gCmp o ga gb)) :=
  pe_mono (pe_cmpR (op_cop hu o) ha hb hm) fun σ H Q h => by rw [hK]; exact cmp_imp h
theorem pt_cmpD {o : Cop} {a b : Expr} {ga gb : List Sl → RE ER} {pos : Pos} (hu : X.A.units + 65 < cLine) (hK : X.K = C.G.K) (ha : PE X a (tE C ga)) (hb : PE X b (tE C gb)) (hm : behindInMarks (copP o) b = false) :
    PT X (.Compare a [copP o] [b] pos) (tT C fun ρ => (gCmp o ga gb ρ).bind fun x => evTr x.d) :=
  pt_mono (pt_cmpR (op_cop hu o) ha hb hm) fun σ H Q h => by
    rw [hK]
    refine cmp_imp (test_of (fun ρ er e => ?_) h)
    cases e1 : ga ρ <;> simp only [gCmp, e1, RE.bind_ok, RE.bind_bad, RE.bind_exc] at e <;> try cases e
    cases e2 : gb ρ <;> simp only [e2, RE.bind_ok, RE.bind_bad, RE.bind_exc] at e <;> try cases e
    rename_i x y
    cases e3 : evC o x.d y.d <;> simp only [e3, RE.bind_ok, RE.bind_bad, RE.bind_exc] at e <;> try cases e
    exact ⟨_, rfl⟩
theorem evTr_sound {P N H : Hp} {d : D} {b : Bool} {v : V} {k : Bool} (r : Reg C P N H) (h : ERw C P N H d b v) (e : evTr d = .ok k) : TruV C.G.K v H k := by
  cases d <;> simp only [evTr] at e <;> cases e
  · have e : v = .non := h
    subst e; rfl
  · cases h.bl; rfl
  · cases h.int; rfl
  · obtain ⟨p, xs, rfl, h1, h2⟩ := h.lst
    refine .inl ⟨xs, h1, ?_⟩
    have := h2.length
    rw [Bool.eq_iff_iff]
    simp [← List.length_eq_zero_iff, this]
  · obtain ⟨p, xs, rfl, h1, h2⟩ := h.tup r
    refine .inr (.inl ⟨xs, h1, ?_⟩)
    have := h2.length
    rw [Bool.eq_iff_iff]
    simp [← List.length_eq_zero_iff, this]
theorem evTr_nx (d : D) : noExc (evTr d) := by cases d <;> trivial
theorem tru_imp {g : List Sl → RE ER} {σ : L2.St} {H : Hp} {Q : Bool → Hp → Prop} (h : tT C (fun ρ => (g ρ).bind fun x => evTr x.d) σ H Q) : tE C g σ H fun x H' => ∃ k, TruV C.G.K x H' k ∧ Q k H' := by
  obtain ⟨ρ, P, N, S, h⟩ := h
  refine ⟨ρ, P, N, S, h.bind.mono fun x P1 N1 H1 e a1 h1 v rv => ?_⟩
  have r1 := (S.adv a1).reg
  have n1 := evTr_nx x.d
  cases e : evTr x.d with
  | bad => rw [e] at h1; exact h1.elim
  | exc c fs => rw [e] at n1; exact n1.elim
  | ok k =>
    rw [e] at h1
    exact ⟨k, evTr_sound r1 (rv.w r1) e, h1.now r1⟩
theorem pt_truD {e : Expr} {g : List Sl → RE ER} (hK : X.K = C.G.K) (h : PE X e (tE C g)) (he : ∀ whole, isTrue e X.env whole = (do let v ← whole; standAt e.pos; holding [v] (truthy v))) : PT X e (tT C fun ρ => (g ρ).bind fun x => evTr x.d) :=
  pt_mono (pt_truth h he) fun σ H Q q => by rw [hK]; exact tru_imp q
theorem ERw.non {P N H : Hp} {d : D} {b : Bool} {v : V} (h : ERw C P N H d b v) : decide (v = V.non) = d.isNon := by
  cases d with
  | non => have e : v = .non := h; subst e; rfl
  | bl _ => cases h.bl; rfl
  | int _ => cases h.int; rfl
  | str _ => cases h.str; rfl
  | lst _ => obtain ⟨p, xs, rfl, _⟩ := h; rfl
  | tup _ => obtain ⟨p, xs, rfl, _⟩ := h; rfl
  | ins _ _ => obtain ⟨p, dx, xs, rfl, _⟩ := h; rfl
  | exc _ _ => obtain ⟨_, a, rfl, _⟩ := h; rfl
abbrev gIsN (k : Bool) (g : List Sl → RE ER) : List Sl → RE ER := fun ρ => (g ρ).bind fun x => ok (.bl (if k = true then x.d.isNon else !x.d.isNon))
theorem isN_imp {k : Bool} {g : List Sl → RE ER} {σ : L2.St} {H : Hp} {Q : VK} (h : tE C (gIsN k g) σ H Q) : tE C g σ H fun x H1 => Q (.bl (if k = true then decide (x = .non) else !decide (x = .non))) H1 := by
  obtain ⟨ρ, P, N, S, h⟩ := h
  refine ⟨ρ, P, N, S, h.bind.mono fun x P1 N1 H1 e a1 h1 v rv => ?_⟩
  have r1 := (S.adv a1).reg
  show Q _ H1
  rw [(rv.w r1).non]
  exact h1.val r1 rfl
theorem isN_bl {k : Bool} {g : List Sl → RE ER} (ρ : List Sl) (er : ER) (e : gIsN k g ρ = .ok er) : ∃ k, er = .val (.bl k) true := by
  cases e1 : g ρ <;> simp only [gIsN, e1, RE.bind_ok, RE.bind_bad, RE.bind_exc] at e <;> cases e
  exact ⟨_, rfl⟩
theorem pe_isND {a : Expr} {g : List Sl → RE ER} {j : Nat} {pos pos' : Pos} (h : PE X a (tE C g)) : PE X (.Compare a [.Is] [.Constant .none j pos'] pos) (tE C (gIsN true g)) :=
  pe_mono (pe_cmp (pc_isN h)) fun σ H Q q => isN_imp q
theorem pe_notND {a : Expr} {g : List Sl → RE ER} {j : Nat} {pos pos' : Pos} (h : PE X a (tE C g)) : PE X (.Compare a [.IsNot] [.Constant .none j pos'] pos) (tE C (gIsN false g)) :=
  pe_mono (pe_cmp (pc_notN h)) fun σ H Q q => isN_imp q
theorem pt_isND {a : Expr} {g : List Sl → RE ER} {j : Nat} {pos pos' : Pos} (h : PE X a (tE C g)) : PT X (.Compare a [.Is] [.Constant .none j pos'] pos) (tT C fun ρ => (gIsN true g ρ).bind fun x => evTr x.d) :=
  pt_mono (pt_cmp (pc_isN h)) fun σ H Q q => isN_imp (test_of isN_bl q)
theorem pt_notND {a : Expr} {g : List Sl → RE ER} {j : Nat} {pos pos' : Pos} (h : PE X a (tE C g)) : PT X (.Compare a [.IsNot] [.Constant .none j pos'] pos) (tT C fun ρ => (gIsN false g ρ).bind fun x => evTr x.d) :=
  pt_mono (pt_cmp (pc_notN h)) fun σ H Q q => isN_imp (test_of isN_bl q)
/-! and, or of bools -/
abbrev gBv (c : Bool) (g g' : List Sl → RE ER) : List Sl → RE ER := fun ρ => (g ρ).bind fun x => match x.d with
    | .bl k => if k = c then g' ρ else ok (.bl k)
    | _ => .bad
def bopO (c : Bool) : BoolOp := if c = true then .And else .Or
theorem pe_bv1 {a : Expr} {c : Bool} {g : List Sl → RE ER} {pos : Pos} (h : PE X a (tE C g)) : PE X (.BoolOp (bopO c) [a] pos) (tE C (gBv c g fun _ => ok (.bl c))) := by
  refine pe_mono (pe_one h) fun σ H Q q => ?_
  obtain ⟨ρ, P, N, S, h⟩ := q
  refine ⟨ρ, P, N, S, h.bind.mono fun x P1 N1 H1 e a1 h1 v rv => ?_⟩
  have r1 := (S.adv a1).reg
  split at h1
  · rename_i k e
    have w := rv.w r1
    rw [e] at w
    cases w.bl
    split at h1
    · rename_i e; subst e; exact h1.val r1 rfl
    · exact h1.val r1 rfl
  · exact h1.elim
theorem pe_bv {a b : Expr} {rest : List Expr} {c : Bool} {g g' : List Sl → RE ER} {pos : Pos} (h : PE X a (tE C g)) (h' : PE X (.BoolOp (bopO c) (b :: rest) pos) (tE C g')) : PE X (.BoolOp (bopO c) (a :: b :: rest) pos) (tE C (gBv c g g')) := by
  have z : ∀ σ H Q, tE C (gBv c g g') σ H Q → tE C g σ H fun x H1 => ∃ k, x = .bl k ∧ if k = c then tE C g' σ H1 Q else Q (.bl k) H1 := fun σ H Q q => by
    obtain ⟨ρ, P, N, S, h⟩ := q
    refine ⟨ρ, P, N, S, h.bind.mono fun x P1 N1 H1 e a1 h1 v rv => ?_⟩
    have r1 := (S.adv a1).reg
    split at h1
    · rename_i k e
      have w := rv.w r1
      rw [e] at w
      refine ⟨k, w.bl, ?_⟩
      split at h1
      · rename_i e
        rw [if_pos e]
        exact ⟨ρ, P1, N1, S.adv a1, h1.mono fun y P2 N2 H2 _ a2 h2 v rv => h2 v (rv.from a1.hh)⟩
      · rename_i e
        rw [if_neg e]
        exact h1.val r1 rfl
    · exact h1.elim
  cases c with
  | true =>
    refine pe_mono (pe_and h h') fun σ H Q q => ?_
    obtain ⟨ρ, P, N, S, q⟩ := z σ H Q q
    refine ⟨ρ, P, N, S, q.mono fun x P1 N1 H1 e a1 h1 v rv => ?_⟩
    obtain ⟨k, e, h2⟩ := h1 v rv
    refine ⟨k, e, ?_⟩
    cases k
    · exact h2
    · exact h2
  | false =>
    refine pe_mono (pe_or h h') fun σ H Q q => ?_
    obtain ⟨ρ, P, N, S, q⟩ := z σ H Q q
    refine ⟨ρ, P, N, S, q.mono fun x P1 N1 H1 e a1 h1 v rv => ?_⟩
    obtain ⟨k, e, h2⟩ := h1 v rv
    refine ⟨k, e, ?_⟩
    cases k
    · exact h2
    · exact h2
theorem pe_bnotD {a : Expr} {g : List Sl → RE ER} {pos : Pos} (hK : X.K = C.G.K) (h : PE X a (tE C g)) : PE X (.UnaryOp .Not a pos) (tE C fun ρ => (g ρ).bind fun x => (evTr x.d).bind fun k => ok (.bl (!k))) := by
  refine pe_mono (pe_notT h) fun σ H Q q => ?_
  rw [hK]
  obtain ⟨ρ, P, N, S, h⟩ := q
  refine ⟨ρ, P, N, S, h.bind.mono fun x P1 N1 H1 e a1 h1 v rv => ?_⟩
  have r1 := (S.adv a1).reg
  have n1 := evTr_nx x.d
  cases e : evTr x.d with
  | bad => rw [e] at h1; exact h1.elim
  | exc c fs => rw [e] at n1; exact n1.elim
  | ok k =>
    rw [e] at h1
    exact ⟨k, evTr_sound r1 (rv.w r1) e, h1.val r1 rfl⟩
theorem pt_notD {a : Expr} {g : List Sl → RE Bool} {pos : Pos} (h : PT X a (tT C g)) : PT X (.UnaryOp .Not a pos) (tT C fun ρ => (g ρ).bind fun k => .ok (!k)) := by
  refine pt_mono (pt_not h) fun σ H Q q => ?_
  obtain ⟨ρ, P, N, S, h⟩ := q
  exact ⟨ρ, P, N, S, h.bind.mono fun x P1 N1 H1 e a1 h1 => h1.now (S.adv a1).reg⟩
abbrev gBs (c : Bool) (g g' : List Sl → RE Bool) : List Sl → RE Bool := fun ρ => (g ρ).bind fun k => if k = c then g' ρ else .ok k
theorem pw_mono {e : Expr} {t u : TT} (h : PW X e t) (f : ∀ σ H Q, u σ H Q → t σ H Q) : PW X e u := ⟨fun w pins s σ H Q I q => h.run w pins s σ H Q I (f _ _ _ q)⟩
theorem pw_bs1 {a : Expr} {c : Bool} {g : List Sl → RE Bool} {pos : Pos} (h : PT X a (tT C g)) : PW X (.BoolOp (bopO c) [a] pos) (tT C (gBs c g fun _ => .ok c)) := by
  have z : ∀ σ H Q, tT C (gBs c g fun _ => .ok c) σ H Q → tT C g σ H Q := fun σ H Q q => by
    obtain ⟨ρ, P, N, S, h⟩ := q
    refine ⟨ρ, P, N, S, h.bind.mono fun k P1 N1 H1 e a1 h1 => ?_⟩
    split at h1
    · rename_i e; subst e; exact h1.now (S.adv a1).reg
    · exact h1.now (S.adv a1).reg
  cases c with
  | true => exact pw_mono (pw_and1 h) z
  | false => exact pw_mono (pw_or1 h) z
theorem pw_bs {a b : Expr} {rest : List Expr} {c : Bool} {g g' : List Sl → RE Bool} {pos : Pos} (h : PT X a (tT C g)) (h' : PW X (.BoolOp (bopO c) (b :: rest) pos) (tT C g')) : PW X (.BoolOp (bopO c) (a :: b :: rest) pos) (tT C (gBs c g g')) := by
  have z : ∀ σ H Q, tT C (gBs c g g') σ H Q → tT C g σ H fun k H1 => if k = c then tT C g' σ H1 Q else Q k H1 := fun σ H Q q => by
    obtain ⟨ρ, P, N, S, h⟩ := q
    refine ⟨ρ, P, N, S, h.bind.mono fun k P1 N1 H1 e a1 h1 => ?_⟩
    split at h1
    · rename_i e; rw [if_pos e]; exact ⟨ρ, P1, N1, S.adv a1, h1⟩
    · rename_i e; rw [if_neg e]; exact h1.now (S.adv a1).reg
  cases c with
  | true =>
    refine pw_mono (pw_and h h') fun σ H Q q => ?_
    obtain ⟨ρ, P, N, S, q⟩ := z σ H Q q
    refine ⟨ρ, P, N, S, q.mono fun k P1 N1 H1 e a1 h1 => ?_⟩
    cases k <;> exact h1
  | false =>
    refine pw_mono (pw_or h h') fun σ H Q q => ?_
    obtain ⟨ρ, P, N, S, q⟩ := z σ H Q q
    refine ⟨ρ, P, N, S, q.mono fun k P1 N1 H1 e a1 h1 => ?_⟩
    cases k <;> exact h1
theorem pe_negD {a : Expr} {g : List Sl → RE ER} {pos : Pos} (h : PE X a (tE C g)) : PE X (.UnaryOp .USub a pos) (tE C fun ρ => (g ρ).bind fun x => match x.d with
    | .int i => ok (.int (-i))
    | _ => .bad) := by
  refine pe_mono (pe_un un_neg h) fun σ H Q q => ?_
  obtain ⟨ρ, P, N, S, h⟩ := q
  refine ⟨ρ, P, N, S, h.bind.mono fun x P1 N1 H1 e a1 h1 v rv => ?_⟩
  have r1 := (S.adv a1).reg
  split at h1
  · rename_i i e
    have w := rv.w r1
    rw [e] at w
    exact ⟨i, w.int, h1.val r1 rfl⟩
  · exact h1.elim
theorem pe_ifeD {c a b : Expr} {gc : List Sl → RE Bool} {ga gb : List Sl → RE ER} {pos : Pos} (hc : PT X c (tT C gc)) (ha : PE X a (tE C ga)) (hb : PE X b (tE C gb)) : PE X (.IfExp c a b pos) (tE C fun ρ => (gc ρ).bind fun k => if k = true then ga ρ else gb ρ) := by
  refine pe_mono (pe_ifExp hc ha hb) fun σ H Q q => ?_
  obtain ⟨ρ, P, N, S, h⟩ := q
  refine ⟨ρ, P, N, S, h.bind.mono fun k P1 N1 H1 e a1 h1 => ?_⟩
  split at h1
  · rename_i e
    rw [if_pos e]
    exact ⟨ρ, P1, N1, S.adv a1, h1.mono fun y P2 N2 H2 _ a2 h2 v rv => h2 v (rv.from a1.hh)⟩
  · rename_i e
    rw [if_neg e]
    exact ⟨ρ, P1, N1, S.adv a1, h1.mono fun y P2 N2 H2 _ a2 h2 v rv => h2 v (rv.from a1.hh)⟩
/-! items -/
theorem pa_nilD : PA X [] (tA C fun _ => .ok []) := by
  refine pa_mono pa_nil fun σ H Q q => ?_
  obtain ⟨ρ, P, N, S, h⟩ := q
  exact h.now S.reg [] rfl
theorem pa_consD {e : Expr} {es : List Expr} {g : List Sl → RE ER} {g' : List Sl → RE (List ER)} (h : PE X e (tE C g)) (h' : PA X es (tA C g')) (hs : starEach (e :: es) X.env = (false, eval e X.env) :: starEach es X.env) :
    PA X (e :: es) (tA C fun ρ => (g ρ).bind fun x => (g' ρ).bind fun r => .ok (x.frz :: r)) := by
  refine pa_mono (pa_cons h h' hs) fun σ H Q q => ?_
  obtain ⟨ρ, P, N, S, h⟩ := q
  refine ⟨ρ, P, N, S, h.bind.mono fun x P1 N1 H1 e a1 h1 v rv => ?_⟩
  obtain ⟨N2, a2, r2⟩ := rv.freeze a1
  have h2 : res C σ P1 N2 H1 ((g' ρ).bind fun r => .ok (x.frz :: r)) fun es P' N' H' => ∀ vs, ERs C P' N' H' H es vs → Q vs H' := by
    simp only [e, RE.bind_ok] at h
    exact res.adv a2 h
  exact ⟨ρ, P1, N2, S.adv a2, h2.bind.mono fun es P3 N3 H3 e a3 h3 vs rvs => h3.now ((S.adv a2).adv a3).reg _ ⟨v, vs, rfl, r2.adv a3, rvs.from a2.hh⟩⟩
end
end Cm

set_option Elab.async false
set_option linter.all false
set_option maxRecDepth 100000
/-! Items, places, slices, built-in functions. -/
namespace Cm
open PySem PySem.Spec PyProof.Rows L2

section
variable {C : Ctx} {X : Cx}
theorem ERs.reps {P N H H0 : Hp} : ∀ {es : List ER} {vs : List V}, ERs C P N H H0 es vs → es.all ER.isV = true → RepsB C P N (es.all ER.b) (es.map ER.d) vs
  | [], _, h, _ => h
  | e :: es, _, ⟨v, r, q, h2, h3⟩, z => by
    subst q
    simp only [List.all_cons, Bool.and_eq_true] at z
    cases e with
    | val d b => exact ⟨v, r, rfl, RepB.and1 h2, RepsB.and2 (ERs.reps h3 z.2)⟩
    | fre d b => exact absurd z.1 (by simp [ER.isV])
    | brw d b => exact absurd z.1 (by simp [ER.isV])
theorem ERs.w {P N H H0 : Hp} (r : Reg C P N H) {e : ER} {es : List ER} {vs : List V} (h : ERs C P N H H0 (e :: es) vs) : ∃ v u, vs = v :: u ∧ ERw C P N H e.d e.b v ∧ ERs C P N H H0 es u := by
  obtain ⟨v, u, q, h2, h3⟩ := h
  exact ⟨v, u, q, h2.w r, h3⟩
theorem pe_tupD {es : List Expr} {k : Nat} {g : List Sl → RE (List ER)} {pos : Pos} (h : PA X es (tA C g)) (hl : ∀ ρ r, g ρ = .ok r → r.length ≤ LIM) : PE X (.Tuple es k pos) (tE C fun ρ => (g ρ).bind fun r => dis (fun ds b => .val (.tup ds) b) r) := by
  refine pe_mono (pe_tup h) fun σ H Q q => ?_
  obtain ⟨ρ, P, N, S, h⟩ := q
  refine ⟨ρ, P, N, S, h.bind.mono fun r P1 N1 H1 e a1 h1 vs rv => ?_⟩
  have r1 := (S.adv a1).reg
  unfold dis at h1
  split at h1
  · rename_i z
    have rr := rv.reps z
    refine ⟨?_, fun p hp => h1.tup r1 rr hp⟩
    rw [rr.length, List.length_map]
    exact hl _ _ e
  · exact h1.elim
theorem pe_lstD {es : List Expr} {g : List Sl → RE (List ER)} {pos : Pos} (h : PA X es (tA C g)) (hl : ∀ ρ r, g ρ = .ok r → r.length ≤ LIM) : PE X (.List es pos) (tE C fun ρ => (g ρ).bind fun r => dis .fre r) := by
  refine pe_mono (pe_lst h) fun σ H Q q => ?_
  obtain ⟨ρ, P, N, S, h⟩ := q
  refine ⟨ρ, P, N, S, h.bind.mono fun r P1 N1 H1 e a1 h1 vs rv => ?_⟩
  have r1 := (S.adv a1).reg
  unfold dis at h1
  split at h1
  · rename_i z
    have rr := rv.reps z
    refine ⟨?_, fun p hp => h1.fre r1 a1.hh rr hp⟩
    rw [rr.length, List.length_map]
    exact hl _ _ e
  · exact h1.elim
theorem atI_rep {P N : Hp} {b : Bool} {ds : List D} {xs : List V} {i : Int} {d : D} (h : RepsB C P N b ds xs) (e : atI ds i = some d) : ∃ v, atI xs i = some v ∧ RepB C P N b d v := by
  unfold atI at e ⊢
  rw [h.length]
  cases q : ixN ds.length i with
  | none => rw [q] at e; cases e
  | some j =>
    rw [q] at e
    exact h.get e
theorem pe_idxD {a i : Expr} {ga gi : List Sl → RE ER} {pos : Pos} (hK : X.K = C.G.K) (ha : PE X a (tE C ga)) (hi : PE X i (tE C gi)) (hs : PlainIx i) : PE X (.Subscript a i pos) (tE C fun ρ => (ga ρ).bind fun x => (gi ρ).bind fun y => evIx x.d y.d x.b) := by
  refine pe_mono (pe_ix ix_seq ha hi hs) fun σ H Q q => ?_
  rw [hK]
  obtain ⟨ρ, P, N, S, h⟩ := q
  refine ⟨ρ, P, N, S, h.bind.mono fun x P1 N1 H1 _ a1 h1 v rv => ⟨ρ, P1, N1, S.adv a1, h1.bind.mono fun y P2 N2 H2 _ a2 h2 u ru => ?_⟩⟩
  have r2 := (S.adv (a1.trans a2)).reg
  have wx := (rv.adv a2).w r2
  have wy := ru.w r2
  unfold evIx at h2
  simp only [gd_if, gdO_if, leB_iff, mulB_iff, divB_iff, nzB_iff, powB_iff, nnB_iff, strB_iff, splB_iff, rg3B_iff] at h2
  split at h2
  · rename_i ds i e1 e2
    rw [e1] at wx; rw [e2] at wy
    obtain ⟨p, xs, rfl, h3, h4⟩ := wx.lst
    cases wy.int
    split at h2
    · rename_i d e
      obtain ⟨v, e', h5⟩ := atI_rep h4 e
      exact .inl ⟨p, xs, i, v, rfl, rfl, h3, e', h2.val r2 h5.nf⟩
    · exact h2.elim
  · rename_i ds i e1 e2
    rw [e1] at wx; rw [e2] at wy
    obtain ⟨p, xs, rfl, h3, h4⟩ := wx.tup r2
    cases wy.int
    split at h2
    · rename_i d e
      obtain ⟨v, e', h5⟩ := atI_rep h4 e
      exact .inr (.inl ⟨p, xs, i, v, rfl, rfl, h3, e', h2.val r2 h5.nf⟩)
    · exact h2.elim
  · rename_i s i e1 e2
    rw [e1] at wx; rw [e2] at wy
    cases wx.str
    cases wy.int
    split at h2
    · rename_i hl
      split at h2
      · rename_i c e
        refine .inr (.inr ⟨_, i, c, rfl, rfl, ?_, ?_, ?_⟩)
        · rw [str_len]; exact hl
        · exact e
        · exact h2.val r2 rfl
      · exact h2.elim
    · exact h2.elim
  · exact h2.elim
theorem po_noneD : PO X none (tO C fun _ => .ok none) := ⟨fun pins s σ H Q I q => by
  obtain ⟨ρ, P, N, S, h⟩ := q
  exact po_none.run pins s σ H Q I (h.now S.reg)⟩
theorem po_someD {e : Expr} {g : List Sl → RE ER} (h : PE X e (tE C g)) : PO X (some e) (tO C fun ρ => (g ρ).bind fun x => match x.d with
    | .int i => .ok (some i)
    | _ => .bad) := ⟨fun pins s σ H Q I q => by
  obtain ⟨ρ, P, N, S, h'⟩ := q
  refine (po_some h).run pins s σ H Q I ⟨ρ, P, N, S, h'.bind.mono fun x P1 N1 H1 _ a1 h1 v rv => ?_⟩
  have r1 := (S.adv a1).reg
  split at h1
  · rename_i i e
    have w := rv.w r1
    rw [e] at w
    exact ⟨i, w.int, h1.now r1⟩
  · exact h1.elim⟩
theorem cut_rep {P N : Hp} {b : Bool} {ds : List D} {xs : List V} (h : RepsB C P N b ds xs) (lo hi : Option Int) : RepsB C P N b (cutD ds lo hi) (cutV xs lo hi) := by
  unfold cutD cutV
  rw [h.length]
  exact Reps.take _ (Reps.drop _ h)
theorem pe_slcD {a : Expr} {lo hi : Option Expr} {ga : List Sl → RE ER} {gl gh : List Sl → RE (Option Int)} {pos p2 : Pos} (hK : X.K = C.G.K) (ha : PE X a (tE C ga)) (hl : PO X lo (tO C gl)) (hh : PO X hi (tO C gh)) :
    PE X (.Subscript a (.Slice lo hi none p2) pos) (tE C fun ρ => (ga ρ).bind fun x => (gl ρ).bind fun l => (gh ρ).bind fun h => evSl x.d l h x.b) := by
  refine pe_mono (pe_slice (sl_list.or sl_str) ha hl hh) fun σ H Q q => ?_
  rw [hK]
  obtain ⟨ρ, P, N, S, h⟩ := q
  refine ⟨ρ, P, N, S, h.bind.mono fun x P1 N1 H1 _ a1 h1 v rv => ⟨ρ, P1, N1, S.adv a1, h1.bind.mono fun l P2 N2 H2 _ a2 h2 => ⟨ρ, P2, N2, S.adv (a1.trans a2), res.mono (res.bind h2) fun u P3 N3 H3 _ a3 h3 => ?_⟩⟩⟩
  have a := (a1.trans a2).trans a3
  have r3 := (S.adv a).reg
  have wx := (rv.adv (a2.trans a3)).w r3
  unfold evSl at h3
  simp only [gd_if, gdO_if, leB_iff, mulB_iff, divB_iff, nzB_iff, powB_iff, nnB_iff, strB_iff, splB_iff, rg3B_iff] at h3
  split at h3
  · rename_i ds e1
    rw [e1] at wx
    obtain ⟨p, xs, rfl, h4, h5⟩ := wx.lst
    exact .inl ⟨p, xs, rfl, h4, fun p hp => h3.fre r3 a.hh (cut_rep h5 l u) hp⟩
  · rename_i s e1
    rw [e1] at wx
    cases wx.str
    split at h3
    · rename_i hl
      refine .inr ⟨_, rfl, ?_, ?_⟩
      · rw [str_len]; exact hl
      · exact h3.val r3 rfl
    · exact h3.elim
  · exact h3.elim
theorem pe_revD {a : Expr} {g : List Sl → RE ER} {k : Nat} {p1 p2 p3 pos : Pos} (hK : X.K = C.G.K) (h : PE X a (tE C g)) : PE X (.Subscript a (.Slice none none (some (.UnaryOp .USub (.Constant (.int 1) k p1) p2)) p3) pos) (tE C fun ρ => (g ρ).bind fun x => match x.d with
    | .lst xs => .ok (.fre xs.reverse x.b)
    | _ => .bad) := by
  refine pe_mono (pe_revL h) fun σ H Q q => ?_
  rw [hK]
  obtain ⟨ρ, P, N, S, h⟩ := q
  refine ⟨ρ, P, N, S, h.bind.mono fun x P1 N1 H1 _ a1 h1 v rv => ?_⟩
  have r1 := (S.adv a1).reg
  split at h1
  · rename_i ds e
    have w := rv.w r1
    rw [e] at w
    obtain ⟨p, xs, rfl, h4, h5⟩ := w.lst
    exact ⟨p, xs, rfl, h4, fun p hp => h1.fre r1 a1.hh (Reps.reverse h5) hp⟩
  · exact h1.elim
/-! ### built-in functions -/
def priV : Pri → Value
  | .len => .builtin "len" | .abs => .builtin "abs" | .min2 => .builtin "min" | .max2 => .builtin "max" | .min1 => .builtin "min" | .max1 => .builtin "max" | .sum => .builtin "sum" | .sorted => .builtin "sorted"
  | .all => .builtin "all" | .any => .builtin "any" | .list => .type "list" | .int => .type "int" | .str => .type "str" | .dmd => .builtin "divmod"
def priN : Pri → Str
  | .len => "len" | .abs => "abs" | .min2 => "min" | .max2 => "max" | .min1 => "min" | .max1 => "max" | .sum => "sum" | .sorted => "sorted"
  | .all => "all" | .any => "any" | .list => "list" | .int => "int" | .str => "str" | .dmd => "divmod"
def rPri (K : PySem.W.Frag) : Pri → List V → Hp → VK → Prop
  | .len => fun xs H Q => (∃ x n, xs = [x] ∧ LenV K x H n ∧ Q (.int n) H)
  | .abs => fun xs H Q => ∃ i, xs = [.int i] ∧ Q (.int (if i < 0 then -i else i)) H
  | .min2 => fun xs H Q => ∃ i j, xs = [.int i, .int j] ∧ Q (.int (if j < i then j else i)) H
  | .max2 => fun xs H Q => ∃ i j, xs = [.int i, .int j] ∧ Q (.int (if j > i then j else i)) H
  | .min1 => rMin K
  | .max1 => rMax K
  | .sum => rSum K
  | .sorted => rSortedI K
  | .all => rAll K
  | .any => rAny K
  | .list => fun xs H Q => ∃ p ys, xs = [.ref p] ∧ (SqL K H p ys ∨ SqT K H p ys) ∧ ∀ l, H l = none → Q (.ref l) (upd H l (.lst ys))
  | .int => fun xs H Q => ((∃ i, xs = [.int i] ∧ Q (.int i) H) ∨ ∃ k, xs = [.bl k] ∧ Q (.int (if k then 1 else 0)) H) ∨ ∃ a n, xs = [.str a] ∧ intText? a = some n ∧ a.length ≤ 640 ∧ Q (.int n) H
  | .dmd => fun xs H Q => ∃ i j, xs = [.int i, .int j] ∧ CDiv i j ∧ ∀ p, H p = none → Q (.ref p) (upd H p (.tup [.int (i / j), .int (i % j)]))
  | .str => fun xs H Q => ∃ i, xs = [.int i] ∧ i.natAbs.log2 < 1920 ∧ Q (.str (toString i)) H
theorem cr_pri (hc : X.calm = true) : ∀ p, CallR X (priV p) (rPri X.K p)
  | .len => call_len
  | .abs => call_abs
  | .min2 => call_min2 hc
  | .max2 => call_max2 hc
  | .min1 => cr_min hc
  | .max1 => cr_max hc
  | .sum => cr_sum hc
  | .sorted => cr_sortedI
  | .all => cr_all hc
  | .any => cr_any hc
  | .list => call_list_of
  | .int => fun pins s σ H vs us Q I r q => by
    rcases q with q | q
    · exact call_int1 pins s σ H vs us Q I r q
    · exact call_int_str pins s σ H vs us Q I r q
  | .dmd => call_divmod
  | .str => call_str_int
theorem reps_ints {P N : Hp} {b : Bool} : ∀ {ds : List D} {ns : List Int} {xs : List V}, intsD ds = some ns → RepsB C P N b ds xs → xs = ns.map V.int
  | [], ns, xs, e, h => by cases e; cases h; rfl
  | d :: ds, ns, xs, e, ⟨v, r, q, h1, h2⟩ => by
    cases d <;> simp only [intsD] at e <;> try cases e
    rename_i i
    cases e2 : intsD ds with
    | none => rw [e2] at e; cases e
    | some ms =>
      rw [e2] at e; cases e
      have q1 : v = .int i := h1
      rw [q, q1, reps_ints e2 h2]; rfl
theorem reps_bools {P N : Hp} {b : Bool} : ∀ {ds : List D} {ns : List Bool} {xs : List V}, boolsD ds = some ns → RepsB C P N b ds xs → xs = ns.map V.bl
  | [], ns, xs, e, h => by cases e; cases h; rfl
  | d :: ds, ns, xs, e, ⟨v, r, q, h1, h2⟩ => by
    cases d <;> simp only [boolsD] at e <;> try cases e
    rename_i i
    cases e2 : boolsD ds with
    | none => rw [e2] at e; cases e
    | some ms =>
      rw [e2] at e; cases e
      have q1 : v = .bl i := h1
      rw [q, q1, reps_bools e2 h2]; rfl
theorem reps_strs {P N : Hp} {b : Bool} : ∀ {ds : List D} {ns : List (List Nat)} {xs : List V}, strsD ds = some ns → RepsB C P N b ds xs → xs = (ns.map strOf).map V.str
  | [], ns, xs, e, h => by cases e; cases h; rfl
  | d :: ds, ns, xs, e, ⟨v, r, q, h1, h2⟩ => by
    cases d <;> simp only [strsD] at e <;> try cases e
    rename_i i
    cases e2 : strsD ds with
    | none => rw [e2] at e; cases e
    | some ms =>
      rw [e2] at e; cases e
      have q1 : v = .str (strOf i) := h1
      rw [q, q1, reps_strs e2 h2]; rfl
theorem minL_le : ∀ (n : Int) (ns : List Int), minL (n :: ns) ∈ n :: ns ∧ ∀ y ∈ n :: ns, minL (n :: ns) ≤ y
  | n, [] => by simp [minL]
  | n, m :: ns => by
    obtain ⟨h1, h2⟩ := minL_le m ns
    have e : minL (n :: m :: ns) = min n (minL (m :: ns)) := rfl
    rw [e]
    constructor
    · rcases Int.le_total n (minL (m :: ns)) with h | h
      · rw [Int.min_eq_left h]; simp
      · rw [Int.min_eq_right h]; exact List.mem_cons_of_mem _ h1
    · intro y hy
      rcases List.mem_cons.mp hy with rfl | hy
      · exact Int.min_le_left _ _
      · exact Int.le_trans (Int.min_le_right _ _) (h2 y hy)
theorem maxL_le : ∀ (n : Int) (ns : List Int), maxL (n :: ns) ∈ n :: ns ∧ ∀ y ∈ n :: ns, y ≤ maxL (n :: ns)
  | n, [] => by simp [maxL]
  | n, m :: ns => by
    obtain ⟨h1, h2⟩ := maxL_le m ns
    have e : maxL (n :: m :: ns) = max n (maxL (m :: ns)) := rfl
    rw [e]
    constructor
    · rcases Int.le_total n (maxL (m :: ns)) with h | h
      · rw [Int.max_eq_right h]; exact List.mem_cons_of_mem _ h1
      · rw [Int.max_eq_left h]; simp
    · intro y hy
      rcases List.mem_cons.mp hy with rfl | hy
      · exact Int.le_max_left _ _
      · exact Int.le_trans (h2 y hy) (Int.le_max_right _ _)
theorem insI_perm (x : Int) : ∀ ns : List Int, (insI x ns).Perm (x :: ns)
  | [] => .refl _
  | y :: ys => by
    unfold insI
    split
    · exact .refl _
    · exact ((insI_perm x ys).cons y).trans (List.Perm.swap x y ys)
theorem sortI_perm : ∀ ns : List Int, (sortI ns).Perm ns
  | [] => .refl _
  | x :: xs => (insI_perm x (sortI xs)).trans ((sortI_perm xs).cons x)
theorem insI_srt (x : Int) : ∀ ns : List Int, ns.Pairwise (· ≤ ·) → (insI x ns).Pairwise (· ≤ ·)
  | [], _ => by simp [insI]
  | y :: ys, h => by
    unfold insI
    have h' := List.pairwise_cons.mp h
    split
    · rename_i hxy
      refine List.pairwise_cons.mpr ⟨fun z hz => ?_, h⟩
      rcases List.mem_cons.mp hz with rfl | hz
      · exact hxy
      · exact Int.le_trans hxy (h'.1 z hz)
    · rename_i hxy
      refine List.pairwise_cons.mpr ⟨fun z hz => ?_, insI_srt x ys h'.2⟩
      rcases List.mem_cons.mp ((insI_perm x ys).mem_iff.mp hz) with rfl | hz
      · omega
      · exact h'.1 z hz
theorem sortI_srt : ∀ ns : List Int, (sortI ns).Pairwise (· ≤ ·)
  | [] => .nil
  | x :: xs => insI_srt x _ (sortI_srt xs)
theorem srt_unique : ∀ {l m : List Int}, l.Perm m → l.Pairwise (· ≤ ·) → m.Pairwise (· ≤ ·) → l = m
  | [], m, p, _, _ => (List.nil_perm.mp p).symm
  | x :: l, [], p, _, _ => (List.perm_nil.mp p)
  | x :: l, y :: m, p, h, h' => by
    have a := List.pairwise_cons.mp h
    have b := List.pairwise_cons.mp h'
    have e : x = y := by
      have h1 : x ∈ y :: m := p.mem_iff.mp (by simp)
      have h2 : y ∈ x :: l := p.mem_iff.mpr (by simp)
      rcases List.mem_cons.mp h1 with h1 | h1
      · exact h1
      · rcases List.mem_cons.mp h2 with h2 | h2
        · exact h2.symm
        · have := a.1 y h2; have := b.1 x h1; omega
    subst e
    rw [srt_unique (List.Perm.cons_inv p) a.2 b.2]
theorem pri_imp (p : Pri) {g : List Sl → RE (List ER)} {σ : L2.St} {H : Hp} {Q : VK} (h : tE C (fun ρ => (g ρ).bind (evP p)) σ H Q) : tCB (rPri C.G.K p) (tA C g) σ H Q := by
  obtain ⟨ρ, P, N, S, h⟩ := h
  refine ⟨ρ, P, N, S, h.bind.mono fun es P1 N1 H1 _ a1 h1 vs rv => ?_⟩
  have r := (S.adv a1).reg
  have hh := a1.hh
  clear h S a1
  unfold evP at h1
  simp only [gd_if, gdO_if, leB_iff, mulB_iff, divB_iff, nzB_iff, powB_iff, nnB_iff, strB_iff, splB_iff, rg3B_iff] at h1
  split at h1
  all_goals try exact h1.elim
  all_goals obtain ⟨v, u, rfl, w, rv⟩ := rv.w r
  all_goals first
    | (obtain ⟨v2, u2, rfl, w2, rv⟩ := rv.w r; cases rv)
    | cases rv
  all_goals split at h1
  all_goals try exact h1.elim
  all_goals rename_i q1
  -- len
  · rw [q1] at w
    obtain ⟨p, xs, rfl, h4, h5⟩ := w.lst
    exact ⟨_, xs.length, rfl, .inl ⟨xs, h4, rfl⟩, by rw [h5.length]; exact h1.val r rfl⟩
  · rw [q1] at w
    obtain ⟨p, xs, rfl, h4, h5⟩ := w.tup r
    exact ⟨_, xs.length, rfl, .inr ⟨xs, h4, rfl⟩, by rw [h5.length]; exact h1.val r rfl⟩
  · rw [q1] at w
    cases w.str
    split at h1
    · rename_i hl
      exact ⟨_, _, rfl, ⟨by rw [str_len]; exact hl, rfl⟩, by rw [str_len]; exact h1.val r rfl⟩
    · exact h1.elim
  -- abs
  · rw [q1] at w
    cases w.int
    exact ⟨_, rfl, h1.val r rfl⟩
  -- min2 max2
  · rename_i q2
    rw [q2] at w; rw [q1] at w2
    cases w.int; cases w2.int
    exact ⟨_, _, rfl, h1.val r rfl⟩
  · rename_i q2
    rw [q2] at w; rw [q1] at w2
    cases w.int; cases w2.int
    exact ⟨_, _, rfl, h1.val r rfl⟩
  -- min1 max1
  · rw [q1] at w
    obtain ⟨p, xs, rfl, h4, h5⟩ := w.lst
    split at h1
    · rename_i n ns q2
      have e := reps_ints q2 h5
      subst e
      obtain ⟨z1, z2⟩ := minL_le n ns
      refine ⟨p, n :: ns, rfl, h4, by simp, fun m hm hy => ?_⟩
      have : m = minL (n :: ns) := by
        have := hy _ z1
        have := z2 _ hm
        omega
      rw [this]
      exact h1.val r rfl
    · exact h1.elim
  · rw [q1] at w
    obtain ⟨p, xs, rfl, h4, h5⟩ := w.lst
    split at h1
    · rename_i n ns q2
      have e := reps_ints q2 h5
      subst e
      obtain ⟨z1, z2⟩ := maxL_le n ns
      refine ⟨p, n :: ns, rfl, h4, by simp, fun m hm hy => ?_⟩
      have : m = maxL (n :: ns) := by
        have := hy _ z1
        have := z2 _ hm
        omega
      rw [this]
      exact h1.val r rfl
    · exact h1.elim
  -- sum
  · rw [q1] at w
    obtain ⟨p, xs, rfl, h4, h5⟩ := w.lst
    split at h1
    · rename_i ns q2
      have e := reps_ints q2 h5
      subst e
      exact ⟨p, ns, rfl, h4, h1.val r rfl⟩
    · exact h1.elim
  -- sorted
  · rw [q1] at w
    obtain ⟨p, xs, rfl, h4, h5⟩ := w.lst
    split at h1
    · rename_i ns q2
      have e := reps_ints q2 h5
      subst e
      refine ⟨p, ns, rfl, h4, fun ns' p z1 z2 hp => ?_⟩
      have : ns' = sortI ns := srt_unique (z1.trans (sortI_perm ns).symm) z2 (sortI_srt ns)
      rw [this]
      exact h1.fre r hh (Reps.ints.mpr rfl) hp
    · exact h1.elim
  -- all any
  · rw [q1] at w
    obtain ⟨p, xs, rfl, h4, h5⟩ := w.lst
    split at h1
    · rename_i ns q2
      have e := reps_bools q2 h5
      subst e
      exact ⟨p, ns, rfl, h4, h1.val r rfl⟩
    · exact h1.elim
  · rw [q1] at w
    obtain ⟨p, xs, rfl, h4, h5⟩ := w.lst
    split at h1
    · rename_i ns q2
      have e := reps_bools q2 h5
      subst e
      exact ⟨p, ns, rfl, h4, h1.val r rfl⟩
    · exact h1.elim
  -- list
  · rw [q1] at w
    obtain ⟨p, xs, rfl, h4, h5⟩ := w.lst
    exact ⟨p, xs, rfl, .inl h4, fun l hl => h1.fre r hh h5 hl⟩
  · rw [q1] at w
    obtain ⟨p, xs, rfl, h4, h5⟩ := w.tup r
    exact ⟨p, xs, rfl, .inr h4, fun l hl => h1.fre r hh h5 hl⟩
  -- int
  · rw [q1] at w
    cases w.int
    exact .inl (.inl ⟨_, rfl, h1.val r rfl⟩)
  · rw [q1] at w
    cases w.bl
    exact .inl (.inr ⟨_, rfl, h1.val r rfl⟩)
  · rw [q1] at w
    cases w.str
    split at h1
    · rename_i n q2
      split at h1
      · rename_i hl
        rw [Nat.ble_eq] at hl
        exact .inr ⟨_, n, rfl, q2, by rw [str_len]; exact hl, h1.val r rfl⟩
      · exact h1.elim
    · exact h1.elim
  -- divmod
  · rename_i q2
    rw [q2] at w; rw [q1] at w2
    cases w.int; cases w2.int
    split at h1
    · rename_i hl
      rw [dmB_iff] at hl
      exact ⟨_, _, rfl, hl, fun p hp => h1.tup r ⟨_, _, rfl, rfl, _, _, rfl, rfl, rfl⟩ hp⟩
    · exact h1.elim
  -- str
  · rw [q1] at w
    cases w.int
    split at h1
    · rename_i hl
      refine ⟨_, rfl, hl, h1.val r ?_⟩
      show V.str _ = V.str _
      rfl
    · exact h1.elim
theorem boot_pri : ∀ p, bootBuiltins (priN p) = some (priV p)
  | .len => boot_len
  | .abs => by decide +kernel
  | .min2 => by decide +kernel
  | .max2 => by decide +kernel
  | .min1 => by decide +kernel
  | .max1 => by decide +kernel
  | .sum => by decide +kernel
  | .sorted => by decide +kernel
  | .all => by decide +kernel
  | .any => by decide +kernel
  | .list => by decide +kernel
  | .int => by decide +kernel
  | .str => by decide +kernel
  | .dmd => by decide +kernel
theorem priN_ok : ∀ p, priN p ≠ "__name__" ∧ (priN p == ("__debug__" : Str)) = false := by intro p; cases p <;> decide
theorem pe_callD {x : Str} {f : Value} {r : List V → Hp → VK → Prop} {e : Expr} {es : List Expr} {t : TA} {p pos : Pos} (hc : CallR X f r) (hv : bootBuiltins x = some f) (hf : (∃ id, f = .builtin id) ∨ ∃ T, f = .type T) (hg : Gl X x) (hm : X.mg x = none) (ha : PA X (e :: es) t) (hn : x ≠ "__name__") (hdb : (x == ("__debug__" : Str)) = false)
    (he : starEach (e :: es) X.env = (false, eval e X.env) :: starEach es X.env) (hpl : (backTo pos (starEach es X.env)).any (·.1) = false) : PE X (.Call (.Name x p) (e :: es) [] pos) (tCB r t) := by
  rcases hf with ⟨id, rfl⟩ | ⟨T, rfl⟩
  · exact pe_callB hc hg hm hv ha hn hdb he hpl
  · exact pe_callTy hc hg hm hv ha hn hdb he hpl
theorem pe_priD {q : Pri} {g : List Sl → RE (List ER)} {e : Expr} {es : List Expr} {p pos : Pos} (hK : X.K = C.G.K) (hc : X.calm = true) (hg : Gl X (priN q)) (hm : X.mg (priN q) = none) (ha : PA X (e :: es) (tA C g))
    (he : starEach (e :: es) X.env = (false, eval e X.env) :: starEach es X.env) (hpl : (backTo pos (starEach es X.env)).any (·.1) = false) : PE X (.Call (.Name (priN q) p) (e :: es) [] pos) (tE C fun ρ => (g ρ).bind (evP q)) :=
  pe_mono (pe_callD (cr_pri hc q) (boot_pri q) (by cases q <;> first | exact .inl ⟨_, rfl⟩ | exact .inr ⟨_, rfl⟩) hg hm ha (priN_ok q).1 (priN_ok q).2 he hpl) fun σ H Q h => by rw [hK]; exact pri_imp q h
end
end Cm

set_option Elab.async false
set_option linter.all false
set_option maxRecDepth 100000
/-! Calls. -/
namespace Cm
open PySem PySem.Spec PyProof.Rows L2

section
variable {C : Ctx} {X : Cx}
open Classical in
noncomputable def un3 (P N R H : Hp) : Hp := fun a => if P a ≠ none ∨ N a ≠ none ∨ R a ≠ none then H a else none
open Classical in
noncomputable def un2 (N N' H : Hp) : Hp := fun a => if N a ≠ none ∨ N' a ≠ none then H a else none
theorem un3_H {P N R H : Hp} : Same (un3 P N R H) H := fun a o e => by
  unfold un3 at e
  split at e
  · exact e
  · cases e
theorem un3_P {P N R H : Hp} (h : Same P H) : Same P (un3 P N R H) := fun a o e => by
  unfold un3
  rw [if_pos (.inl (by rw [e]; simp))]
  exact h _ _ e
theorem un3_N {P N R H : Hp} (h : Same N H) : Same N (un3 P N R H) := fun a o e => by
  unfold un3
  rw [if_pos (.inr (.inl (by rw [e]; simp)))]
  exact h _ _ e
theorem un3_R {P N R H : Hp} (h : Same R H) : Same R (un3 P N R H) := fun a o e => by
  unfold un3
  rw [if_pos (.inr (.inr (by rw [e]; simp)))]
  exact h _ _ e
theorem un3_or {P N R H : Hp} (hp : Same P H) (hn : Same N H) (hr : Same R H) {a : Addr} {o : HO} (e : un3 P N R H a = some o) : P a = some o ∨ N a = some o ∨ R a = some o := by
  unfold un3 at e
  split at e
  · rename_i h
    rcases h with h | h | h
    · obtain ⟨u, q⟩ := Option.ne_none_iff_exists'.mp h
      have := hp _ _ q
      rw [e] at this; cases this
      exact .inl q
    · obtain ⟨u, q⟩ := Option.ne_none_iff_exists'.mp h
      have := hn _ _ q
      rw [e] at this; cases this
      exact .inr (.inl q)
    · obtain ⟨u, q⟩ := Option.ne_none_iff_exists'.mp h
      have := hr _ _ q
      rw [e] at this; cases this
      exact .inr (.inr q)
  · cases e
theorem un3_seq {K : PySem.W.Frag} {P N R H : Hp} (hp : Same P H) (hn : Same N H) (hr : Same R H) {a : Addr} {xs : List V} (h : SqL K (un3 P N R H) a xs) : SqL K P a xs ∨ SqL K N a xs ∨ SqL K R a xs := by
  rcases h with (h | ⟨o, h⟩) | h
  · rcases un3_or hp hn hr h with h | h | h
    · exact .inl (.inl (.inl h))
    · exact .inr (.inl (.inl (.inl h)))
    · exact .inr (.inr (.inl (.inl h)))
  · rcases un3_or hp hn hr h with h | h | h
    · exact .inl (.inl (.inr ⟨o, h⟩))
    · exact .inr (.inl (.inl (.inr ⟨o, h⟩)))
    · exact .inr (.inr (.inl (.inr ⟨o, h⟩)))
  · exact .inl (.inr h)
theorem un2_H {N N' H : Hp} : Same (un2 N N' H) H := fun a o e => by
  unfold un2 at e
  split at e
  · exact e
  · cases e
theorem un2_l {N N' H : Hp} (h : Same N H) : Same N (un2 N N' H) := fun a o e => by
  unfold un2
  rw [if_pos (.inl (by rw [e]; simp))]
  exact h _ _ e
theorem un2_r {N N' H : Hp} (h : Same N' H) : Same N' (un2 N N' H) := fun a o e => by
  unfold un2
  rw [if_pos (.inr (by rw [e]; simp))]
  exact h _ _ e
/-- the callee's regions among the caller's -/
theorem Adv.back {P N H P' N' H' : Hp} (hn : Same N H) (a : Adv P (fun _ => none) H P' N' H') : Adv P N H P' (un2 N N' H') H' where
  hh := a.hh
  pp := a.pp
  nn := un2_l (hn.trans a.hh)
  pH := a.pH
  nH := un2_H
  pn := a.pn
  nw := fun q h => by
    unfold un2 at h
    split at h
    · rename_i z
      rcases z with z | z
      · exact .inl z
      · rcases a.nw q z with z | z
        · exact absurd rfl z
        · exact .inr z
    · exact absurd rfl h
theorem call_imp {P N H H0 : Hp} {σ : L2.St} {n : Nat} {g' : List D → RE ER} {Q : VK} {es : List ER} {vs : List V} (r : Reg C P N H) (e0 : L2.Same H0 H) (hv : ERs C P N H H0 es vs) (hn : es.length = n)
    (h : res C σ P N H ((g' (es.map ER.d)).bind (callR (!es.all ER.isV))) (kE C H0 Q)) : spD C.G n g' vs H Q (fun cls d H' => C.W cls d σ H') := by
  have rH := r.rH
  cases ha : es.all ER.isV with
  | true =>
    rw [ha] at h
    have hr := hv.reps ha
    refine ⟨P, un3 P N C.R H, es.map ER.d, r.pH, un3_H, Reps.mono (L2.Same.refl _) _ _ (fun a xs q => ?_) hr, by rw [List.length_map, hn], ?_⟩
    · rcases q with q | q | ⟨_, q⟩
      · exact L2.Same.seq (un3_P r.pH) q
      · exact L2.Same.seq (un3_N r.nH) q
      · exact L2.Same.seq (un3_R rH) q
    · have mono : ∀ {P' N' H' : Hp} {b : Bool}, Adv P (fun _ => none) H P' N' H' → ∀ a xs, LNb C.G.K P' N' (un3 P N C.R H) b a xs → LNb C.G.K P' (un2 N N' H') C.R b a xs := fun {P' N' H' b} ad a xs q => by
        rcases q with q | q | ⟨hb, q⟩
        · exact .inl q
        · exact .inr (.inl (L2.Same.seq (un2_r ad.nH) q))
        · rcases un3_seq r.pH r.nH rH q with q | q | q
          · exact .inl (L2.Same.seq ad.pp q)
          · exact .inr (.inl (L2.Same.seq (un2_l (r.nH.trans ad.hh)) q))
          · exact .inr (.inr ⟨hb, q⟩)
      cases e : g' (es.map ER.d) with
      | bad => rw [e] at h; exact h.elim
      | exc c fs =>
        rw [e] at h
        intro d H' P' N' ad hx
        refine h d _ _ _ (ad.back r.nH) ?_
        rcases hx with hx | ⟨dd, f, v, h1, h2, h3, h4⟩
        · exact .inl hx
        · exact .inr ⟨dd, f, v, h1, h2, h3, Rep.mono (L2.Same.refl _) _ _ (mono ad) h4⟩
      | ok er =>
        rw [e] at h
        intro v H' P' N' ad hx
        cases er with
        | brw ds b => exact h.elim
        | val d b => exact h _ _ _ (ad.back r.nH) v (RepB.nf (C := C) (Rep.mono (L2.Same.refl _) _ _ (mono ad) hx))
        | fre ds b =>
          obtain ⟨p, xs, rfl, h1, h2, h3, h4, h5⟩ := hx
          refine h _ _ _ (ad.back r.nH) _ ⟨p, xs, rfl, h1, e0.free h2, h3, ?_, Reps.mono (L2.Same.refl _) _ _ (mono ad) h5⟩
          unfold un2
          rw [if_neg]
          rintro (z | z)
          · exact z (r.nH.free h2)
          · exact z h4
  | false =>
    rw [ha] at h
    have hr : Reps C.G P (SqL C.G.K H) (es.map ER.d) vs := by
      clear h ha hn
      induction es generalizing vs with
      | nil => cases hv; rfl
      | cons e es ih =>
        obtain ⟨v, u, rfl, h1, h2⟩ := hv
        refine ⟨v, u, rfl, ?_, ih h2⟩
        have w := h1.w r
        have mm := fun a xs => LNb.seq (K := C.G.K) (b := e.b) r.pH r.nH rH a xs
        cases q : e.d with
        | lst ds =>
          rw [q] at w
          obtain ⟨p, xs, rfl, h3, h4⟩ := w
          exact ⟨p, xs, rfl, h3, Reps.mono (L2.Same.refl _) _ _ mm h4⟩
        | non => rw [q] at w; exact Rep.mono (L2.Same.refl _) _ _ mm w
        | bl _ => rw [q] at w; exact Rep.mono (L2.Same.refl _) _ _ mm w
        | int _ => rw [q] at w; exact Rep.mono (L2.Same.refl _) _ _ mm w
        | str _ => rw [q] at w; exact Rep.mono (L2.Same.refl _) _ _ mm w
        | tup _ => rw [q] at w; exact Rep.mono (L2.Same.refl _) _ _ mm w
        | ins _ _ => rw [q] at w; exact Rep.mono (L2.Same.refl _) _ _ mm w
        | exc _ _ => rw [q] at w; exact Rep.mono (L2.Same.refl _) _ _ mm w
    refine ⟨P, H, es.map ER.d, r.pH, L2.Same.refl _, hr, by rw [List.length_map, hn], ?_⟩
    have mono : ∀ {P' N' H' : Hp}, Adv P (fun _ => none) H P' N' H' → ∀ a xs, LNb C.G.K P' N' H true a xs → LNb C.G.K P' (un2 N N' H') C.R true a xs := fun {P' N' H'} ad a xs q => by
      rcases q with q | q | ⟨hb, q⟩
      · exact .inl q
      · exact .inr (.inl (L2.Same.seq (un2_r ad.nH) q))
      · cases hb
    cases e : g' (es.map ER.d) with
    | bad => rw [e] at h; exact h.elim
    | exc c fs =>
      rw [e] at h
      intro d H' P' N' ad hx
      refine h d _ _ _ (ad.back r.nH) ?_
      rcases hx with hx | ⟨dd, f, v, h1, h2, h3, h4⟩
      · exact .inl hx
      · exact .inr ⟨dd, f, v, h1, h2, h3, Rep.mono (L2.Same.refl _) _ _ (mono ad) h4⟩
    | ok er =>
      rw [e] at h
      intro v H' P' N' ad hx
      cases er with
      | brw ds b => exact h.elim
      | val d b =>
        simp only [Bool.not_false, RE.bind_ok, callR] at h
        split at h
        · rename_i z
          refine h _ _ _ (ad.back r.nH) v ?_
          cases b with
          | true => exact Rep.mono (L2.Same.refl _) _ _ (mono ad) hx
          | false => exact Rep.flat _ _ (by simpa using z) hx
        · exact h.elim
      | fre ds b =>
        simp only [Bool.not_false, RE.bind_ok, callR] at h
        obtain ⟨p, xs, rfl, h1, h2, h3, h4, h5⟩ := hx
        split at h
        · rename_i z
          refine h _ _ _ (ad.back r.nH) _ ⟨p, xs, rfl, h1, e0.free h2, h3, ?_, ?_⟩
          · unfold un2
            rw [if_neg]
            rintro (z | z)
            · exact z (r.nH.free h2)
            · exact z h4
          · cases b with
            | true => exact Reps.mono (L2.Same.refl _) _ _ (mono ad) h5
            | false => exact Reps.flat _ _ (by simpa using z) h5
        · exact h.elim
theorem run_fnW {k : Nat} {f : Addr} {fd : FuncData} {ps : List Str} {sp : Sp} {W : WX} {pins : List (Addr × Obj)} {σ : L2.St} {H : Hp} {s : Shared} {Q : VK} {us : List Value} {vs : List V} (F : FnOk X.prog X.w X.K X.mg X.base (L2.CX X.prog X.w) k f fd ps sp) (hr : Room k X.A) (hb : Binds X.K fd ps [])
    (tk : Takes X W) (I : Inv X pins σ H s) (r : Vals vs us) (h : sp vs H Q (fun cls d H' => W cls d σ H')) : wpAny (model X.prog X.w) X.A (call (.ref f) us) (EP X pins σ Q) X.xe s := by
  have hl : us.length = ps.length := by rw [← r.length]; exact F.len _ _ _ _ h
  have hb' := hb s us I.kIn (by rw [List.append_nil]; exact hl)
  rw [List.append_nil] at hb'
  refine wpAny_call (codeAny_mono (F.run X.A X.stack s H ⟨us, []⟩ us vs Q _ hr I.env0 hb' r h) fun r s' hq => ?_)
  cases r with
  | error e => exact tk e s' (XE.of_call I (fun cls d H' q => q) hq)
  | ok fl =>
    cases fl with
    | ret u => exact I.after hq
    | next => exact False.elim hq
    | brk => exact False.elim hq
    | cont => exact False.elim hq
/-- no star among the items -/
def Plain (X : Cx) (es : List Expr) : Prop := (∀ e r, es = e :: r → starEach (e :: r) X.env = (false, eval e X.env) :: starEach r X.env) ∧ ∀ pos e r, es = e :: r → (backTo pos (starEach r X.env)).any (·.1) = false
theorem pe_userD {x : Str} {k : Nat} {f : Addr} {fd : FuncData} {ps : List Str} {n : Nat} {g' : List D → RE ER} {g : List Sl → RE (List ER)} {es : List Expr} {p pos : Pos} (F : FnOk X.prog X.w X.K X.mg X.base (L2.CX X.prog X.w) k f fd ps (spD C.G n g')) (hr : Room k X.A) (hg : Gl X x) (hm : X.mg x = some (.ref f)) (hk : PySem.W.keepIn X.K (.ref f) = true)
    (hb : Binds X.K fd ps []) (tk : Takes X C.W) (ha : PA X es (tA C g)) (hdb : (x == ("__debug__" : Str)) = false) (hs : Plain X es) (hl : ∀ ρ r, g ρ = .ok r → r.length = n) (h0 : es = [] → ∀ ρ, g ρ = .ok []) :
    PE X (.Call (.Name x p) es [] pos) (tE C fun ρ => (g ρ).bind fun r => (g' (r.map ER.d)).bind (callR (!r.all ER.isV))) := by
  have body : PE X (.Call (.Name x p) es [] pos) (fun σ H Q => tA C g σ H fun vs H1 => spD C.G n g' vs H1 Q (fun cls d H' => C.W cls d σ H')) := by
    cases es with
    | nil =>
      refine ⟨fun pins s σ H Q I h => ?_⟩
      refine wpAny_Call_Name_kw (ld_glob I hg hm ?_ hdb)
      refine PySem.W.callWith_K0 I.kIn hk ?_
      obtain ⟨ρ, P, N, S, h⟩ := h
      rw [h0 rfl ρ] at h
      exact run_fnW F hr hb tk I .nil (h.now S.reg [] rfl)
    | cons e es =>
      refine ⟨fun pins s σ H Q I h => ?_⟩
      refine wpAny_Call_Name_kw (ld_glob I hg hm ?_ hdb)
      refine PySem.W.callWith_K (h₀ := X.base) I.ok.mod.kin hk (thn (ha.run pos pins s σ H _ I h) fun us s1 ⟨vs, H1, I1, r, q⟩ => ⟨I1.kIn, ?_⟩) (hs.1 _ _ rfl) (hs.2 _ _ _ rfl)
      exact run_fnW F hr hb tk I1 r q
  refine pe_mono body fun σ H Q q => ?_
  obtain ⟨ρ, P, N, S, h⟩ := q
  exact ⟨ρ, P, N, S, h.bind.mono fun r P1 N1 H1 e a1 h1 vs rv => call_imp (S.adv a1).reg a1.hh rv (hl _ _ e) h1⟩
/-- a method of some class: what is known of it -/
structure MtOk (C : Ctx) (X : Cx) (m : Str) (c : Nat) (n : Nat) (g' : List D → RE ER) : Prop where
  cls : Cls X.K (C.G.ca c)
  nf : m ∉ C.G.fl c
  fn : ∃ k f fd ps, Meth X.K (C.G.ca c) m f ∧ FnOk X.prog X.w X.K X.mg X.base (L2.CX X.prog X.w) k f fd ps (spD C.G (n + 1) g') ∧ Room k X.A ∧ Binds X.K fd ps []
theorem lookup_zip {α β : Type} [BEq α] [LawfulBEq α] {m : α} : ∀ {l : List α} {xs : List β}, m ∉ l → (l.zip xs).lookup m = none
  | [], _, _ => rfl
  | a :: l, [], _ => rfl
  | a :: l, x :: xs, h => by
    simp only [List.mem_cons, not_or] at h
    have : (m == a) = false := by simpa using h.1
    simp only [List.zip_cons_cons, List.lookup_cons, this]
    exact lookup_zip h.2
theorem pe_mthD {m : Str} {n : Nat} {mt : Nat → Option (List D → RE ER)} {o : Expr} {go : List Sl → RE ER} {g : List Sl → RE (List ER)} {es : List Expr} {apos pos : Pos} (hm : ∀ c g', mt c = some g' → MtOk C X m c n g')
    (tk : Takes X C.W) (ho : PE X o (tE C go)) (ha : PA X es (tA C g)) (hs : Plain X es) (hl : ∀ ρ r, g ρ = .ok r → r.length = n) (h0 : es = [] → ∀ ρ, g ρ = .ok [])
    {pl : Sem Bool} (ht : eval (.Call (.Attribute o m apos) es [] pos) X.env = (do
      let ov ← eval o X.env
      standAt apos.atName
      let (f, first) ← holding [ov] (getMethod ov m pl)
      callWith pos f first (backTo pos (starEach es X.env)) (backToKw pos (keywordEach [] X.env)))) :
    PE X (.Call (.Attribute o m apos) es [] pos) (tE C fun ρ => (go ρ).bind fun x => match x.d with
    | .ins c fs => match mt c with
      | some g' => (g ρ).bind fun r => (g' (.ins c fs :: r.map ER.d)).bind (callR (!r.all ER.isV))
      | none => .bad
    | _ => .bad) := by
  refine ⟨fun pins s σ H Q I h => ?_⟩
  have body : tE C go σ H fun x H1 => ∃ (a Ca dx : Addr) (fs : List (Str × V)) (f : Addr) (k : Nat) (fd : FuncData) (ps : List Str) (g' : List D → RE ER), x = .ref a ∧ H1 a = some (.ins Ca dx fs) ∧ Cls X.K Ca ∧ Meth X.K Ca m f ∧ fs.lookup m = none ∧
      FnOk X.prog X.w X.K X.mg X.base (L2.CX X.prog X.w) k f fd ps (spD C.G (n + 1) g') ∧ Room k X.A ∧ Binds X.K fd ps [] ∧
      ∃ ρ P N r0, SR C P N H1 ρ σ ∧ (r0 = g ρ) ∧ res C σ P N H1 r0 fun es' P' N' H' => ∀ vs, ERs C P' N' H' H1 es' vs → spD C.G (n + 1) g' (.ref a :: vs) H' Q (fun cls d H' => C.W cls d σ H') := by
    obtain ⟨ρ, P, N, S, h⟩ := h
    refine ⟨ρ, P, N, S, h.bind.mono fun x P1 N1 H1 e1 a1 h1 v rv => ?_⟩
    have r1 := (S.adv a1).reg
    split at h1
    · rename_i c fs q
      split at h1
      · rename_i g' q2
        obtain ⟨c1, c2, k, f, fd, ps, c3, c4, c5, c6⟩ := hm _ _ q2
        have w := rv.w r1
        rw [q] at w
        have w' := w
        obtain ⟨a, dx, xs, rfl, z1, z2, z3⟩ := w'
        refine ⟨a, C.G.ca c, dx, _, f, k, fd, ps, g', rfl, r1.pH _ _ z1, c1, c3, lookup_zip c2, c4, c5, c6, ρ, P1, N1, _, S.adv a1, rfl, ?_⟩
        refine (res.bind h1).mono fun r P2 N2 H2 e2 a2 h2 vs rvs => ?_
        have r2 := (S.adv (a1.trans a2)).reg
        refine call_imp (es := .val (.ins c fs) x.b :: r) r2 (a1.trans a2).hh ⟨_, vs, rfl, RepB.adv a2.pp a2.nn w, rvs.from a1.hh⟩ ?_ ?_
        · rw [List.length_cons, hl _ _ e2]
        · simpa [ER.isV] using h2
      · exact h1.elim
    · exact h1.elim
  refine PySem.W.methodCall_KW (pl := pl) (thn (ho.run pins s σ H _ I body) fun u s1 ⟨x, H1, I1, rx, a, Ca, dx, fs, f, k, fd, ps, g', ex, ea, c, k', l, F, hr, hb, ρ, P, N, r0, S, e0, q⟩ => ?_) ht
  subst ex
  obtain rfl : u = Value.ref a := rx
  refine getmeth_ok I1 ea c k' l ?_
  subst e0
  cases es with
  | nil =>
    refine PySem.W.callWith_K0 (first := [.ref a]) I1.kIn k'.kp ?_
    rw [h0 rfl ρ] at q
    exact run_fnW (us := [.ref a]) (vs := [.ref a]) F hr hb tk I1 (.cons rfl .nil) (q.now S.reg [] rfl)
  | cons e es =>
    refine PySem.W.callWith_K (first := [.ref a]) (h₀ := X.base) I1.ok.mod.kin k'.kp (thn (ha.run pos pins s1 σ H1 (fun vs H' => spD C.G (n + 1) g' (.ref a :: vs) H' Q (fun cls d H' => C.W cls d σ H')) I1 ⟨ρ, P, N, S, q⟩) fun us s2 ⟨vs, H2, I2, r, q2⟩ => ⟨I2.kIn, ?_⟩) (hs.1 _ _ rfl) (hs.2 _ _ _ rfl)
    exact run_fnW (us := .ref a :: us) (vs := .ref a :: vs) F hr hb tk I2 (.cons rfl r) q2
/-- a field -/
structure FdOk (C : Ctx) (X : Cx) (f : Str) (c : Nat) (k : Nat) : Prop where
  cls : Cls X.K (C.G.ca c)
  no : NoAttr X.K (C.G.ca c) f
  at_ : (C.G.fl c)[k]? = some f
  nd : (C.G.fl c).Nodup
theorem zip_lookup {f : Str} : ∀ {l : List Str} {xs : List V} {k : Nat} {v : V}, l.Nodup → l[k]? = some f → xs[k]? = some v → (l.zip xs).lookup f = some v
  | [], _, _, _, _, h, _ => by simp at h
  | a :: l, [], _, _, _, _, h => by simp at h
  | a :: l, x :: xs, 0, v, _, h, h' => by
    simp at h h'; subst h; subst h'
    simp
  | a :: l, x :: xs, k + 1, v, nd, h, h' => by
    have nd' := List.nodup_cons.mp nd
    have hl : l[k]? = some f := by simpa using h
    have : f ≠ a := fun e => nd'.1 (e ▸ List.mem_of_getElem? hl)
    have e : (f == a) = false := by simpa using this
    simp only [List.zip_cons_cons, List.lookup_cons, e]
    exact zip_lookup nd'.2 hl (by simpa using h')
theorem pe_fldD {f : Str} {fi : Nat → Option Nat} {o : Expr} {go : List Sl → RE ER} {pos : Pos} (hK : X.K = C.G.K) (hf : ∀ c k, fi c = some k → FdOk C X f c k) (ho : PE X o (tE C go)) (hb : attributeBase o f X.env (eval o X.env) = eval o X.env) :
    PE X (.Attribute o f pos) (tE C fun ρ => (go ρ).bind fun x => match x.d with
    | .ins c fs => match fi c with
      | some k => match fs[k]? with
        | some d => .ok (.val d true)
        | none => .bad
      | none => .bad
    | _ => .bad) := by
  refine pe_mono (pe_fld ho hb) fun σ H Q q => ?_
  obtain ⟨ρ, P, N, S, h⟩ := q
  refine ⟨ρ, P, N, S, h.bind.mono fun x P1 N1 H1 e1 a1 h1 v rv => ?_⟩
  have r1 := (S.adv a1).reg
  split at h1
  · rename_i c fs q
    split at h1
    · rename_i k q2
      obtain ⟨c1, c2, c3, c4⟩ := hf _ _ q2
      have w := rv.w r1
      rw [q] at w
      obtain ⟨a, dx, xs, rfl, z1, z2, z3⟩ := w
      split at h1
      · rename_i d q3
        obtain ⟨u, q4, q5⟩ := Reps.get z3 q3
        refine ⟨a, _, dx, _, u, rfl, r1.pH _ _ z1, c1, c2, zip_lookup c4 c3 q4, h1.val r1 ?_⟩
        exact Rep.mono (L2.Same.refl _) _ _ (fun _ _ z => .inl z) q5
      · exact h1.elim
    · exact h1.elim
  · exact h1.elim
end
end Cm

set_option Elab.async false
set_option linter.all false
set_option maxRecDepth 100000
/-! Methods of texts, isinstance, what is walked, comprehensions. -/
namespace Cm
open PySem PySem.Spec PyProof.Rows L2

section
variable {C : Ctx} {X : Cx}
def tyS : Ty → String
  | .bool => "bool" | .int => "int" | .str => "str" | .list => "list" | .tuple => "tuple"
def tyN : Ty → Str
  | .bool => "bool" | .int => "int" | .str => "str" | .list => "list" | .tuple => "tuple"
theorem boot_ty : ∀ t, bootBuiltins (tyN t) = some (.type (tyS t))
  | .bool => by decide +kernel
  | .int => by decide +kernel
  | .str => by decide +kernel
  | .list => by decide +kernel
  | .tuple => by decide +kernel
theorem tyN_ok : ∀ t, tyN t ≠ "__name__" ∧ (tyN t == ("__debug__" : Str)) = false := by intro t; cases t <;> decide
theorem sql_ty {K : PySem.W.Frag} {H : Hp} {a : Addr} {xs : List V} (h : SqL K H a xs) : TyX K H (.ref a) (.type "list") := by
  rcases h with (h | ⟨o, h⟩) | ⟨o, its, n, h1, h2, _⟩
  · exact .base (.lst h)
  · exact .base (.frz h)
  · exact .kList h1 h2
theorem sqt_ty {K : PySem.W.Frag} {H : Hp} {a : Addr} {xs : List V} (h : SqT K H a xs) : TyX K H (.ref a) (.type "tuple") := by
  rcases h with (h | ⟨o, h⟩) | ⟨o, its, n, h1, h2, _⟩
  · exact .base (.tup h)
  · exact .fTuple h
  · exact .kTuple h1 h2
theorem kit_ok (a b : String) (r : Bool) (h : kitB a b = some r) {K : PySem.W.Frag} : PySem.W.kitOne K (.type a) (.type b) = some r := kit_ty h
theorem isi_imp {g : List Sl → RE ER} {t : Ty} {σ : L2.St} {H : Hp} {Q : VK} (h : tE C (fun ρ => (g ρ).bind fun x => evTy x.d t) σ H Q) : tCB (rIsi C.G.K) (tCons (tE C g) (tCons (tC (.ty (tyS t))) tNil)) σ H Q := by
  obtain ⟨ρ, P, N, S, h⟩ := h
  refine ⟨ρ, P, N, S, h.bind.mono fun x P1 N1 H1 e1 a1 h1 v rv => ?_⟩
  have r1 := (S.adv a1).reg
  have w := rv.w r1
  show ∃ (x c : V) (t' u : Value) (b : Bool), [v, V.ty (tyS t)] = [x, c] ∧ ClsV c u ∧ TyX C.G.K H1 x t' ∧ PySem.W.kitOne C.G.K t' u = some b ∧ Q (.bl b) H1
  cases q : x.d with
  | non =>
    rw [q] at w h1
    obtain rfl : v = .non := w
    refine ⟨_, _, .type "NoneType", _, false, rfl, .ty _, .base .non, ?_, ?_⟩
    · cases t <;> exact kit_ok _ _ _ (by decide +kernel)
    · cases t <;> exact h1.val r1 rfl
  | bl b =>
    rw [q] at w h1
    obtain rfl := w.bl
    cases t
    · exact ⟨_, _, _, _, true, rfl, .ty _, .base (.bl b), kit_ok _ _ _ (by decide +kernel), h1.val r1 rfl⟩
    · exact ⟨_, _, _, _, true, rfl, .ty _, .base (.bl b), kit_ok _ _ _ (by decide +kernel), h1.val r1 rfl⟩
    · exact ⟨_, _, _, _, false, rfl, .ty _, .base (.bl b), kit_ok _ _ _ (by decide +kernel), h1.val r1 rfl⟩
    · exact ⟨_, _, _, _, false, rfl, .ty _, .base (.bl b), kit_ok _ _ _ (by decide +kernel), h1.val r1 rfl⟩
    · exact ⟨_, _, _, _, false, rfl, .ty _, .base (.bl b), kit_ok _ _ _ (by decide +kernel), h1.val r1 rfl⟩
  | int b =>
    rw [q] at w h1
    obtain rfl := w.int
    cases t
    · exact ⟨_, _, _, _, false, rfl, .ty _, .base (.int b), kit_ok _ _ _ (by decide +kernel), h1.val r1 rfl⟩
    · exact ⟨_, _, _, _, true, rfl, .ty _, .base (.int b), kit_ok _ _ _ (by decide +kernel), h1.val r1 rfl⟩
    · exact ⟨_, _, _, _, false, rfl, .ty _, .base (.int b), kit_ok _ _ _ (by decide +kernel), h1.val r1 rfl⟩
    · exact ⟨_, _, _, _, false, rfl, .ty _, .base (.int b), kit_ok _ _ _ (by decide +kernel), h1.val r1 rfl⟩
    · exact ⟨_, _, _, _, false, rfl, .ty _, .base (.int b), kit_ok _ _ _ (by decide +kernel), h1.val r1 rfl⟩
  | str b =>
    rw [q] at w h1
    obtain rfl := w.str
    cases t
    · exact ⟨_, _, _, _, false, rfl, .ty _, .base (.str _), kit_ok _ _ _ (by decide +kernel), h1.val r1 rfl⟩
    · exact ⟨_, _, _, _, false, rfl, .ty _, .base (.str _), kit_ok _ _ _ (by decide +kernel), h1.val r1 rfl⟩
    · exact ⟨_, _, _, _, true, rfl, .ty _, .base (.str _), kit_ok _ _ _ (by decide +kernel), h1.val r1 rfl⟩
    · exact ⟨_, _, _, _, false, rfl, .ty _, .base (.str _), kit_ok _ _ _ (by decide +kernel), h1.val r1 rfl⟩
    · exact ⟨_, _, _, _, false, rfl, .ty _, .base (.str _), kit_ok _ _ _ (by decide +kernel), h1.val r1 rfl⟩
  | lst ds =>
    rw [q] at w h1
    obtain ⟨p, xs, rfl, z, _⟩ := w.lst
    cases t
    · exact ⟨_, _, _, _, false, rfl, .ty _, sql_ty z, kit_ok _ _ _ (by decide +kernel), h1.val r1 rfl⟩
    · exact ⟨_, _, _, _, false, rfl, .ty _, sql_ty z, kit_ok _ _ _ (by decide +kernel), h1.val r1 rfl⟩
    · exact ⟨_, _, _, _, false, rfl, .ty _, sql_ty z, kit_ok _ _ _ (by decide +kernel), h1.val r1 rfl⟩
    · exact ⟨_, _, _, _, true, rfl, .ty _, sql_ty z, kit_ok _ _ _ (by decide +kernel), h1.val r1 rfl⟩
    · exact ⟨_, _, _, _, false, rfl, .ty _, sql_ty z, kit_ok _ _ _ (by decide +kernel), h1.val r1 rfl⟩
  | tup ds =>
    rw [q] at w h1
    obtain ⟨p, xs, rfl, z, _⟩ := w.tup r1
    cases t
    · exact ⟨_, _, _, _, false, rfl, .ty _, sqt_ty z, kit_ok _ _ _ (by decide +kernel), h1.val r1 rfl⟩
    · exact ⟨_, _, _, _, false, rfl, .ty _, sqt_ty z, kit_ok _ _ _ (by decide +kernel), h1.val r1 rfl⟩
    · exact ⟨_, _, _, _, false, rfl, .ty _, sqt_ty z, kit_ok _ _ _ (by decide +kernel), h1.val r1 rfl⟩
    · exact ⟨_, _, _, _, false, rfl, .ty _, sqt_ty z, kit_ok _ _ _ (by decide +kernel), h1.val r1 rfl⟩
    · exact ⟨_, _, _, _, true, rfl, .ty _, sqt_ty z, kit_ok _ _ _ (by decide +kernel), h1.val r1 rfl⟩
  | ins c fs => rw [q] at h1; exact h1.elim
  | exc c fs => rw [q] at h1; exact h1.elim
theorem boot_isi : bootBuiltins "isinstance" = some (.builtin "isinstance") := by decide +kernel
theorem pe_isiD {a : Expr} {g : List Sl → RE ER} {t : Ty} {p p2 pos : Pos} (hK : X.K = C.G.K) (hg : Gl X "isinstance") (hm : X.mg "isinstance" = none) (hg2 : Gl X (tyN t)) (hm2 : X.mg (tyN t) = none) (h : PE X a (tE C g))
    (hs : starEach [a, .Name (tyN t) p2] X.env = (false, eval a X.env) :: starEach [.Name (tyN t) p2] X.env) (hpl : (backTo pos (starEach [.Name (tyN t) p2] X.env)).any (·.1) = false) : PE X (.Call (.Name "isinstance" p) [a, .Name (tyN t) p2] [] pos) (tE C fun ρ => (g ρ).bind fun x => evTy x.d t) :=
  pe_mono (pe_callD call_isi boot_isi (.inl ⟨_, rfl⟩) hg hm (pa_cons h (pa_cons (pe_bltn (v := .ty (tyS t)) hg2 hm2 (boot_ty t) rfl (tyN_ok t).1 (tyN_ok t).2) pa_nil) hs) (by decide) (by decide) hs hpl) fun σ H Q q => by rw [hK]; exact isi_imp q
/-! ### split, join -/
theorem reps_txt {P N : Hp} {b : Bool} : ∀ ys : List Str, RepsB C P N b (ys.map fun z => .str z.cps.toList) (ys.map V.str)
  | [] => rfl
  | y :: ys => ⟨_, _, rfl, rfl, reps_txt ys⟩
def rBm (K : PySem.W.Frag) : Bme → V → List V → Hp → VK → Prop
  | .split => fun x xs H Q => ∃ a b, x = .str a ∧ xs = [.str b] ∧ (b.length == 0) = false ∧ a.length + 2 ≤ sizeLine ∧ rNewStrs (Txt.split a b) H Q
  | .join => fun x xs H Q => ∃ a p, ∃ ys : List Str, x = .str a ∧ xs = [.ref p] ∧ (SqL K H p (ys.map V.str) ∨ SqT K H p (ys.map V.str)) ∧ (ys.map (·.length)).sum + ys.length * a.length ≤ 16777216 ∧ Q (.str (Txt.join a ys)) H
  | .find => fun x xs H Q => ∃ a b, x = .str a ∧ xs = [.str b] ∧ Q (.int (Txt.find a b)) H
def bmN : Bme → Str
  | .split => "split" | .join => "join" | .find => "find"
abbrev gBm (m : Bme) (go g : List Sl → RE ER) : List Sl → RE ER := fun ρ => (go ρ).bind fun x => match x.d with
    | .str s => (g ρ).bind fun y => evM m s y.d
    | _ => .bad
theorem bm_imp {m : Bme} {go g : List Sl → RE ER} {σ : L2.St} {H : Hp} {Q : VK} (h : tE C (gBm m go g) σ H Q) : tM1 (rBm C.G.K m) (tE C go) (tE C g) σ H Q := by
  obtain ⟨ρ, P, N, S, h⟩ := h
  refine ⟨ρ, P, N, S, h.bind.mono fun x P1 N1 H1 e1 a1 h1 v rv => ?_⟩
  have r1 := (S.adv a1).reg
  split at h1
  · rename_i s q
    have w := rv.w r1
    rw [q] at w
    cases w.str
    refine ⟨⟨_, rfl⟩, ρ, P1, N1, S.adv a1, (res.bind h1).mono fun y P2 N2 H2 e2 a2 h2 u ru => ?_⟩
    have r2 := (S.adv (a1.trans a2)).reg
    have w2 := ru.w r2
    cases m with
    | split =>
      simp only [evM, gd_if, gdO_if, leB_iff, mulB_iff, divB_iff, nzB_iff, powB_iff, nnB_iff, strB_iff, splB_iff, rg3B_iff] at h2
      split at h2
      · rename_i t q2
        rw [q2] at w2
        cases w2.str
        split at h2
        · rename_i hl
          refine ⟨_, _, rfl, rfl, ?_, ?_, fun p hp => ?_⟩
          · rw [str_len]; simpa using hl.1
          · rw [str_len]; exact hl.2
          · exact h2.fre r2 (a1.trans a2).hh (reps_txt _) hp
        · exact h2.elim
      · exact h2.elim
    | join =>
      simp only [evM, gd_if, gdO_if, leB_iff, mulB_iff, divB_iff, nzB_iff, powB_iff, nnB_iff, strB_iff, splB_iff, rg3B_iff] at h2
      split at h2
      · rename_i xs q2
        rw [q2] at w2
        obtain ⟨p, us, rfl, z1, z2⟩ := w2.lst
        split at h2
        · rename_i ss q3
          have e := reps_strs q3 z2
          subst e
          split at h2
          · rename_i hl
            refine ⟨_, p, ss.map strOf, rfl, rfl, .inl z1, ?_, h2.val r2 rfl⟩
            have e1 : ((ss.map strOf).map fun z => z.length) = ss.map List.length := by
              rw [List.map_map]
              exact List.map_congr_left fun a _ => str_len a
            rw [e1, List.length_map, str_len]
            exact hl
          · exact h2.elim
        · exact h2.elim
      · exact h2.elim
    | find =>
      simp only [evM, gd_if, gdO_if, leB_iff, mulB_iff, divB_iff, nzB_iff, powB_iff, nnB_iff, strB_iff, splB_iff, rg3B_iff] at h2
      split at h2
      · rename_i t q2
        rw [q2] at w2
        cases w2.str
        exact ⟨_, _, rfl, rfl, h2.val r2 rfl⟩
      · exact h2.elim
  · exact h1.elim
theorem pe_bmD {m : Bme} {o a : Expr} {go g : List Sl → RE ER} {apos pos : Pos} (hK : X.K = C.G.K) (ho : PE X o (tE C go)) (ha : PE X a (tE C g)) (hs : starEach [a] X.env = [(false, eval a X.env)]) (hbase : attributeBase o (bmN m) X.env (eval o X.env) = eval o X.env) (hline : (apos.endLine == pos.line) = true) :
    PE X (.Call (.Attribute o (bmN m) apos) [a] [] pos) (tE C (gBm m go g)) := by
  cases m with
  | split => exact pe_mono (pe_m1 PySem.F.slot_str_split PySem.F.type_str_split mt_split ho ha hs hbase hline) fun σ H Q q => bm_imp (m := .split) q
  | join => exact pe_mono (pe_m1 PySem.F.slot_str_join PySem.F.type_str_join mt_join ho ha hs hbase hline) fun σ H Q q => by rw [hK]; exact bm_imp (m := .join) q
  | find => exact pe_mono (pe_m1 PySem.F.slot_str_find PySem.F.type_str_find mt_find ho ha hs hbase hline) fun σ H Q q => bm_imp (m := .find) q
/-! ### list(range(..)) -/
theorem rgV_ints (a b : Int) : rgV a b = (rngL a 1 (b - a).toNat).map V.int := by
  unfold rgV rngL
  rw [List.map_map]
  exact List.map_congr_left fun i _ => by simp
theorem lrng1_imp {g : List Sl → RE ER} {σ : L2.St} {H : Hp} {Q : VK} (h : tE C (fun ρ => ((g ρ).bind fun x => (RE.ok []).bind fun r => .ok (x.frz :: r)).bind fun r => (evRng r).bind fun ns => .ok (.fre (ns.map D.int) true)) σ H Q) : tLstRg (tRg1 (tE C g)) σ H Q := by
  obtain ⟨ρ, P, N, S, h⟩ := h
  refine ⟨ρ, P, N, S, (res.bind (res.bind h)).mono fun x P1 N1 H1 e1 a1 h1 v rv => ?_⟩
  have r1 := (S.adv a1).reg
  have hd : x.frz.d = x.d := by cases x <;> rfl
  have h2 : res C σ P1 N1 H1 ((evRng [x.frz]).bind fun ns => .ok (.fre (ns.map D.int) true)) (kE C H Q) := h1.now r1
  unfold evRng at h2
  simp only [hd, gd_if, gdO_if, leB_iff, mulB_iff, divB_iff, nzB_iff, powB_iff, nnB_iff, strB_iff, splB_iff, rg3B_iff] at h2
  split at h2
  · rename_i n q
    have w := rv.w r1
    rw [q] at w
    split at h2
    · rename_i hl
      have hl := rg1B_of hl
      refine ⟨n, w.int, ⟨by decide, by decide, hl.1.1, hl.1.2, by simpa [LIM] using hl.2⟩, fun p hp => ?_⟩
      rw [rgV_ints, Int.sub_zero]
      exact h2.fre r1 a1.hh (Reps.ints.mpr rfl) hp
    · exact h2.elim
  · exact h2.elim
theorem lrng2_imp {g g' : List Sl → RE ER} {σ : L2.St} {H : Hp} {Q : VK} (h : tE C (fun ρ => ((g ρ).bind fun x => ((g' ρ).bind fun y => (RE.ok []).bind fun r => .ok (y.frz :: r)).bind fun r => .ok (x.frz :: r)).bind fun r => (evRng r).bind fun ns => .ok (.fre (ns.map D.int) true)) σ H Q) : tLstRg (tRg2 (tE C g) (tE C g')) σ H Q := by
  obtain ⟨ρ, P, N, S, h⟩ := h
  refine ⟨ρ, P, N, S, (res.bind (res.bind h)).mono fun x P1 N1 H1 e1 a1 h1 v rv => ⟨ρ, P1, N1, S.adv a1, (res.bind (res.bind h1)).mono fun y P2 N2 H2 e2 a2 h2 u ru => ?_⟩⟩
  have r2 := (S.adv (a1.trans a2)).reg
  have hd : x.frz.d = x.d := by cases x <;> rfl
  have hd2 : y.frz.d = y.d := by cases y <;> rfl
  have h3 : res C σ P2 N2 H2 ((evRng [x.frz, y.frz]).bind fun ns => .ok (.fre (ns.map D.int) true)) (kE C H Q) := (h2.now r2).now r2
  unfold evRng at h3
  simp only [hd, hd2, gd_if, gdO_if, leB_iff, mulB_iff, divB_iff, nzB_iff, powB_iff, nnB_iff, strB_iff, splB_iff, rg3B_iff] at h3
  split at h3
  · rename_i i j q q2
    have w := (rv.adv a2).w r2
    rw [q] at w
    have w2 := ru.w r2
    rw [q2] at w2
    split at h3
    · rename_i hl
      have hl := rg2B_of hl
      refine ⟨i, j, w.int, w2.int, ⟨hl.1.1, hl.1.2, hl.2.1.1, hl.2.1.2, by simpa [LIM] using hl.2.2⟩, fun p hp => ?_⟩
      rw [rgV_ints]
      exact h3.fre r2 (a1.trans a2).hh (Reps.ints.mpr rfl) hp
    · exact h3.elim
  · exact h3.elim
theorem pe_blenD {o : Expr} {go : List Sl → RE ER} {apos pos : Pos} (ho : PE X o (tE C go)) (hbase : attributeBase o "bit_length" X.env (eval o X.env) = eval o X.env) (hline : (apos.endLine == pos.line) = true) : PE X (.Call (.Attribute o "bit_length" apos) [] [] pos) (tE C fun ρ => (go ρ).bind fun x => match x.d with
    | .int i => ok (.int (Builtin.Int.intBits i : Nat))
    | _ => .bad) := by
  refine pe_mono (pe_bits ho hbase hline) fun σ H Q q => ?_
  obtain ⟨ρ, P, N, S, h⟩ := q
  refine ⟨ρ, P, N, S, h.bind.mono fun x P1 N1 H1 e1 a1 h1 v rv => ?_⟩
  have r1 := (S.adv a1).reg
  split at h1
  · rename_i i q
    have w := rv.w r1
    rw [q] at w
    exact ⟨i, w.int, h1.val r1 rfl⟩
  · exact h1.elim
end
end Cm

set_option Elab.async false
set_option linter.all false
set_option maxRecDepth 100000
/-! Targets, what is walked. -/
namespace Cm
open PySem PySem.Spec PyProof.Rows L2

section
variable {C : Ctx} {X : Cx}
theorem SR.setV {P N H : Hp} {ρ : List Sl} {σ : L2.St} (S : SR C P N H ρ σ) {i : Nat} {d : D} {b : Bool} {v : V} (h : RepB C P N b d v) : SR C P N H (ρ.set i (.val d b)) (σ.set i (some v)) where
  reg := S.reg
  len := by simp [S.len]
  sl := fun j s e => by
    by_cases q : i = j
    · subst q
      have hi : i < ρ.length := by
        rcases Nat.lt_or_ge i ρ.length with z | z
        · exact z
        · rw [List.getElem?_eq_none (by simpa using z)] at e; cases e
      rw [List.getElem?_set_self hi] at e
      cases e
      exact ⟨some v, List.getElem?_set_self (by rw [S.len]; exact hi), v, rfl, h⟩
    · rw [List.getElem?_set_ne q] at e
      rw [List.getElem?_set_ne q]
      exact S.sl j s e
  ap := fun j k p ds c es c' e1 e2 e3 e4 => by
    by_cases q : i = j
    · subst q
      rcases Nat.lt_or_ge i ρ.length with z | z
      · rw [List.getElem?_set_self z] at e1; cases e1
      · rw [List.getElem?_eq_none (by simpa using z)] at e1; cases e1
    · by_cases q2 : i = k
      · subst q2
        rcases Nat.lt_or_ge i ρ.length with z | z
        · rw [List.getElem?_set_self z] at e2; cases e2
        · rw [List.getElem?_eq_none (by simpa using z)] at e2; cases e2
      · rw [List.getElem?_set_ne q] at e1 e3
        rw [List.getElem?_set_ne q2] at e2 e4
        exact S.ap j k p ds c es c' e1 e2 e3 e4
/-- names, in turn -/
def gNames : List Nat → TGs
  | [] => gNil
  | i :: is => gCons (gName i) (gNames is)
def tG (C : Ctx) (tg : List Nat) : TG := fun v σ H Q => ∃ ρ P N d b ρ', SR C P N H ρ σ ∧ RepB C P N b d v ∧ bindT tg d b ρ = some ρ' ∧ ∀ σ', SR C P N H ρ' σ' → (∀ j, j ∉ tg → σ'[j]? = σ[j]?) → σ'.length = σ.length → Q σ' H
theorem bindL_imp {P N H : Hp} {b : Bool} : ∀ {tg : List Nat} {ds : List D} {xs : List V} {ρ ρ' : List Sl} {σ : L2.St} {Q : L2.St → Hp → Prop}, SR C P N H ρ σ → RepsB C P N b ds xs → bindL tg ds b ρ = some ρ' →
    (∀ σ', SR C P N H ρ' σ' → (∀ j, j ∉ tg → σ'[j]? = σ[j]?) → σ'.length = σ.length → Q σ' H) → gNames tg xs σ H Q
  | [], [], xs, ρ, ρ', σ, Q, S, h, e, q => by
    cases h; cases e
    exact ⟨rfl, q σ S (fun _ _ => rfl) rfl⟩
  | i :: tg, d :: ds, xs, ρ, ρ', σ, Q, S, ⟨v, r, ex, h1, h2⟩, e, q => by
    refine ⟨v, r, ex, bindL_imp (S.setV (RepB.nf (C := C) h1)) h2 e fun σ' S' hj hl => q σ' S' (fun j hj' => ?_) (by rw [hl]; simp)⟩
    simp only [List.mem_cons, not_or] at hj'
    rw [hj j hj'.2, List.getElem?_set_ne (fun z => hj'.1 z.symm)]
  | [], d :: ds, xs, ρ, ρ', σ, Q, S, h, e, q => by cases e
  | i :: tg, [], xs, ρ, ρ', σ, Q, S, h, e, q => by cases e
theorem pg_mono {t : Expr} {g g' : TG} (h : PG X t g) (f : ∀ v σ H Q, g' v σ H Q → g v σ H Q) : PG X t g' := ⟨fun pins s σ H v u Q I r q => h.run pins s σ H v u Q I r (f _ _ _ _ q)⟩
theorem pg_nameD {i : Nat} {x : Str} {pos : Pos} (hN : X.N.Nodup) (hi : X.N[i]? = some x) (hx : Loc X.env.scope x) (hf : X.fn x = true ∨ X.env.scope.names.lookup x = some .local) : PG X (.Name x pos) (tG C [i]) :=
  pg_mono (pg_name hN hi hx hf) fun v σ H Q q => by
    obtain ⟨ρ, P, N, d, b, ρ', S, h, e, q⟩ := q
    cases e
    refine q _ (S.setV (RepB.nf (C := C) h)) (fun j hj => ?_) (by simp)
    rw [List.getElem?_set_ne (fun z => hj (by simp [z]))]
theorem pg_tupD {es : List Expr} {k : Nat} {tg : List Nat} {pos : Pos} (hK : X.K = C.G.K) (hc : X.calm = true) (h : PGs X es (gNames tg)) (hl : es.length = tg.length) (h2 : tg.length ≠ 1) (hn : (assignEach es X.env).length = es.length) (hst : (assignEach es X.env).findIdx? (·.1) = none) : PG X (.Tuple es k pos) (tG C tg) :=
  pg_mono (pg_tup hc h rfl hst) fun v σ H Q q => by
    obtain ⟨ρ, P, N, d, b, ρ', S, h, e, q⟩ := q
    have e' : ∃ ds, d = .tup ds ∧ bindL tg ds b ρ = some ρ' := by
      unfold bindT at e
      split at e
      · exact absurd rfl h2
      · split at e
        · exact ⟨_, rfl, e⟩
        · cases e
    clear e
    obtain ⟨ds, rfl, e⟩ := e'
    obtain ⟨a, xs, rfl, z1, z2⟩ := h
    have hlen : ∀ {tg : List Nat} {ds : List D} {ρ : List Sl}, bindL tg ds b ρ = some ρ' → ds.length = tg.length := by
      intro tg
      induction tg with
      | nil => intro ds ρ e; cases ds with
        | nil => rfl
        | cons _ _ => cases e
      | cons i tg ih => intro ds ρ e; cases ds with
        | nil => cases e
        | cons d ds => simp only [List.length_cons]; rw [ih e]
    refine ⟨a, xs, rfl, hK ▸ Same.seqT S.reg.pH z1, ?_, bindL_imp S z2 e q⟩
    rw [z2.length, hlen e, hn, hl]
/-! ### what is walked -/
def Wok (C : Ctx) (P N H : Hp) (w : Wk) (J : It) : Prop :=
  ∃ (Gd : Hp → Prop) (Y : Nat → Hp → V → Hp → Prop), Walk J w.xs.length Gd Y ∧ (∀ H2, L2.Same H H2 → Gd H2) ∧ (w.own = false → ∀ P2 N2 H2, L2.Same P P2 → L2.Same N N2 → Reg C P2 N2 H2 → Gd H2) ∧
    ∀ i P2 N2 H2 x H3, i < w.xs.length → L2.Same P P2 → L2.Same N N2 → Reg C P2 N2 H2 → Y i H2 x H3 → ∃ P3, Adv P2 N2 H2 P3 N2 H3 ∧ ∃ d, w.xs[i]? = some d ∧ RepB C P3 N2 w.b d x
def tI (C : Ctx) (g : List Sl → RE Wk) : TI := fun σ H R => ∃ ρ P N, SR C P N H ρ σ ∧ res C σ P N H (g ρ) fun w P' N' H' => ∀ J, Wok C P' N' H' w J → R J H'
theorem pi_mono {tg e : Expr} {t u : TI} (h : PI X tg e t) (f : ∀ σ H R, u σ H R → t σ H R) : PI X tg e u := ⟨fun pins s σ H R I q => h.run pins s σ H R I (f _ _ _ q)⟩
/-- a list -/
theorem wok_list {P N H : Hp} {er : ER} {ds : List D} {p : Addr} {xs : List V} (r : Reg C P N H) (hd : er.d = .lst ds) {H0 : Hp} (h : ERr C P N H H0 er.frz (.ref p)) (h2 : SqL C.G.K H p xs) (h3 : RepsB C P N er.b ds xs) (hs : er.frz.isB = false → LNb C.G.K P N C.R er.b p xs) : Wok C P N H ⟨ds, er.b, er.frz.isB⟩ (Itl C.G.K p) := by
  refine ⟨fun H => SqL C.G.K H p xs, YAt xs, ?_, fun H2 e => L2.Same.seq e h2, fun e P2 N2 H2 e1 e2 r2 => ?_, fun i P2 N2 H2 x H3 hi e1 e2 r2 y => ?_⟩
  · have := walk_list (K := C.G.K) (a := p) (xs := xs)
    rw [h3.length] at this
    exact this
  · exact LNb.seq r2.pH r2.nH r2.rH _ _ (LNb.mono e1 e2 _ _ (hs e))
  · obtain ⟨rfl, e⟩ := y
    refine ⟨P2, Adv.refl r2.pH r2.nH, ds[i]'hi, by simp, ?_⟩
    obtain ⟨v, q1, q2⟩ := Reps.get h3 (List.getElem?_eq_getElem hi)
    rw [q1] at e; cases e
    exact RepB.adv e1 e2 q2
theorem ERr.frz_lst {P N H H0 : Hp} (r : Reg C P N H) {er : ER} {ds : List D} {v : V} (hd : er.d = .lst ds) (h : ERr C P N H H0 er.frz v) : ∃ p xs, v = .ref p ∧ SqL C.G.K H p xs ∧ RepsB C P N er.b ds xs ∧ (er.frz.isB = false → LNb C.G.K P N C.R er.b p xs) := by
  cases er with
  | val d b =>
    have hd : d = .lst ds := hd
    subst hd
    obtain ⟨p, xs, e, h1, h2⟩ := h
    exact ⟨p, xs, e, LNb.seq r.pH r.nH r.rH _ _ h1, h2, fun _ => h1⟩
  | fre d b =>
    have hd : D.lst d = .lst ds := hd
    cases hd
    obtain ⟨p, xs, e, h1, h2⟩ := h
    exact ⟨p, xs, e, LNb.seq r.pH r.nH r.rH _ _ h1, h2, fun _ => h1⟩
  | brw d b =>
    have hd : D.lst d = .lst ds := hd
    cases hd
    obtain ⟨p, xs, e, h1, _, _, _, h2⟩ := h
    exact ⟨p, xs, e, .inl (.inl h1), h2, fun z => by cases z⟩
theorem frz_d (er : ER) : er.frz.d = er.d := by cases er <;> rfl
theorem frz_b (er : ER) : er.frz.b = er.b := by cases er <;> rfl
theorem frz_isB (er : ER) : er.frz.isB = er.isB := by cases er <;> rfl
def iAny (K : PySem.W.Frag) (t : TE) : TI := fun σ H R => t σ H fun v H1 => ((∃ a, v = .ref a ∧ (∃ xs, SqL K H1 a xs) ∧ R (Itl K a) H1) ∨ (∃ a, v = .ref a ∧ (∃ xs, SqT K H1 a xs) ∧ R (Itt K a) H1)) ∨ ∃ x, v = .str x ∧ R (Its x) H1
theorem pi_any {tg e : Expr} {t : TE} (h : PE X e t) : PI X tg e (iAny X.K t) := by
  refine ⟨fun pins s σ H R I q => ?_⟩
  refine thn (h.run pins s σ H _ I q) fun v s1 ⟨x, H1, I1, r1, q1⟩ => ?_
  rcases q1 with (⟨a, e, ⟨xs, sq⟩, q⟩ | ⟨a, e, ⟨xs, sq⟩, q⟩) | ⟨z, e, q⟩
  · subst e
    cases r1
    obtain ⟨vl, rw0, p, zl⟩ := I1.list sq
    refine wpAny_pyIter_list p.isList ?_
    refine ⟨s1.heap.objs.size, [s1.heap.objs.size], _, _, H1, rfl, I1.kept (t' := s1.toks) fun b o e => Heap.get?_push_of_some _ e, turn_list a _, ⟨_, Heap.get?_push_size _ rfl, rfl, rfl⟩, fun b hb0 => ?_, q⟩
    have eb : b = s1.heap.objs.size := by simpa using hb0
    subst eb
    exact I1.fpOk (Nat.le_refl s1.heap.objs.size) (I1.hok.fresh (Nat.le_refl s1.heap.objs.size))
  · subst e
    cases r1
    obtain ⟨vl, rw0, p, zl⟩ := I1.tuple sq
    refine wpAny_pyIter_tuple (show s1.heap.IsTuple a vl.toArray from p) ?_
    refine ⟨s1.heap.objs.size, [s1.heap.objs.size], _, _, H1, rfl, I1.kept (t' := s1.toks) fun b o e => Heap.get?_push_of_some _ e, turn_tuple a _, ⟨_, Heap.get?_push_size _ rfl, rfl, rfl⟩, fun b hb0 => ?_, q⟩
    have eb : b = s1.heap.objs.size := by simpa using hb0
    subst eb
    exact I1.fpOk (Nat.le_refl s1.heap.objs.size) (I1.hok.fresh (Nat.le_refl s1.heap.objs.size))
  · subst e
    obtain ⟨t, rfl⟩ := r1
    cases ha : z.cps.all (· < 128)
    · exact wpAny_pyIter_wide ha (pi_one (tk := s1.toks) I1 _ (turn_str _ z t "str_iterator" (.inr rfl)) ⟨_, Heap.get?_push_size _ rfl, rfl, rfl⟩ q)
    · exact wpAny_pyIter_ascii ha (pi_one (tk := s1.toks) I1 _ (turn_str _ z t "str_ascii_iterator" (.inl rfl)) ⟨_, Heap.get?_push_size _ rfl, rfl, rfl⟩ q)
theorem any_imp {g : List Sl → RE ER} {σ : L2.St} {H : Hp} {R : It → Hp → Prop} (h : tI C (fun ρ => (g ρ).bind evAny) σ H R) : iAny C.G.K (tE C g) σ H R := by
  obtain ⟨ρ, P, N, S, h⟩ := h
  refine ⟨ρ, P, N, S, h.bind.mono fun x P1 N1 H1 e1 a1 h1 v rv => ?_⟩
  obtain ⟨N2, a2, rv⟩ := rv.freeze a1
  have r2 := (S.adv a2).reg
  have h2 : res C σ P1 N2 H1 (evAny x) fun w P' N' H' => ∀ J, Wok C P' N' H' w J → R J H' := by
    simp only [e1, RE.bind_ok] at h
    exact res.adv a2 h
  unfold evAny at h2
  split at h2
  · rename_i ds q
    obtain ⟨p, xs, rfl, z1, z2, z3⟩ := rv.frz_lst r2 q
    have := wok_list r2 q rv z1 z2 z3
    rw [frz_isB] at this
    exact .inl (.inl ⟨p, rfl, ⟨xs, z1⟩, h2.now r2 _ this⟩)
  · rename_i ds q
    have w := rv.w r2
    rw [frz_d, q] at w
    have w0 := w
    obtain ⟨p, xs, rfl, z1, z2⟩ := w
    rw [frz_b] at z2
    refine .inl (.inr ⟨p, rfl, ⟨xs, Same.seqT r2.pH z1⟩, h2.now r2 _ ⟨fun H => SqT C.G.K H p xs, YAt xs, ?_, fun H2 e => Same.seqT (r2.pH.trans e) z1, fun _ P2 N2 H2 e1 e2 r3 => Same.seqT (e1.trans r3.pH) z1, fun i P2 N2 H2 x H3 hi e1 e2 r2 y => ?_⟩⟩)
    · have := walk_tup (K := C.G.K) (a := p) (xs := xs)
      rw [z2.length] at this
      exact this
    · obtain ⟨rfl, e⟩ := y
      refine ⟨P2, Adv.refl r2.pH r2.nH, ds[i]'hi, by simp, ?_⟩
      obtain ⟨v, q1, q2⟩ := Reps.get z2 (List.getElem?_eq_getElem hi)
      rw [q1] at e; cases e
      exact RepB.adv e1 e2 q2
  · rename_i s q
    have w := rv.w r2
    rw [frz_d, q] at w
    cases w.str
    refine .inr ⟨_, rfl, h2.now r2 _ ⟨fun _ => True, fun i H v H' => H' = H ∧ ∃ c, s[i]? = some c ∧ v = .str ⟨#[c]⟩, ?_, fun _ _ => trivial, fun _ _ _ _ _ _ _ => trivial, fun i P2 N2 H2 x H3 hi e1 e2 r2 y => ?_⟩⟩
    · have := walk_str (z := (⟨s.toArray⟩ : Str))
      simpa using this
    · obtain ⟨rfl, c, e, rfl⟩ := y
      refine ⟨P2, Adv.refl r2.pH r2.nH, .str [c], ?_, rfl⟩
      simp [e]
  · exact h2.elim
theorem pi_anyD {tg e : Expr} {g : List Sl → RE ER} (hK : X.K = C.G.K) (h : PE X e (tE C g)) : PI X tg e (tI C fun ρ => (g ρ).bind evAny) :=
  pi_mono (pi_any h) fun σ H R q => by rw [hK]; exact any_imp q
/-! ranges -/
theorem wok_rng {P N H : Hp} (i : Int) (n : Nat) : Wok C P N H ⟨(rngL i 1 n).map D.int, true, false⟩ (Itr i n) := by
  refine ⟨fun _ => True, YFn fun k => .int (i + k), ?_, fun _ _ => trivial, fun _ _ _ _ _ _ _ => trivial, fun k P2 N2 H2 x H3 hi e1 e2 r2 y => ?_⟩
  · have := walk_range (lo := i) (n := n)
    simpa [rngL] using this
  · obtain ⟨rfl, rfl⟩ := y
    have hk : k < n := by simpa [rngL] using hi
    refine ⟨P2, Adv.refl r2.pH r2.nH, .int (i + k), ?_, rfl⟩
    simp [rngL, hk]
theorem wok_rngC {P N H : Hp} (i c : Int) (n : Nat) : Wok C P N H ⟨(rngL i c n).map D.int, true, false⟩ (Itc i c n) := by
  refine ⟨fun _ => True, YFn fun k => .int (i + (k : Nat) * c), ?_, fun _ _ => trivial, fun _ _ _ _ _ _ _ => trivial, fun k P2 N2 H2 x H3 hi e1 e2 r2 y => ?_⟩
  · have := walk_rangeC (lo := i) (c := c) (n := n)
    simpa [rngL] using this
  · obtain ⟨rfl, rfl⟩ := y
    have hk : k < n := by simpa [rngL] using hi
    refine ⟨P2, Adv.refl r2.pH r2.nH, .int (i + k * c), ?_, rfl⟩
    simp [rngL, hk]
abbrev gRng (g : List Sl → RE (List ER)) : List Sl → RE Wk := fun ρ => (g ρ).bind fun r => (evRng r).bind fun ns => .ok ⟨ns.map D.int, true, false⟩
theorem pi_rng1D {tg a : Expr} {g : List Sl → RE (List ER)} {p pos : Pos} (hg : Gl X "range") (hm : X.mg "range" = none) (ha : PA X [a] (tA C g)) (hl : ∀ ρ r, g ρ = .ok r → r.length = 1) (hs : starEach [a] X.env = [(false, eval a X.env)]) : PI X tg (.Call (.Name "range" p) [a] [] pos) (tI C (gRng g)) :=
  pi_mono (pi_range1 hg hm ha hs) fun σ H R q => by
    obtain ⟨ρ, P, N, S, h⟩ := q
    refine ⟨ρ, P, N, S, h.bind.mono fun r P1 N1 H1 e1 a1 h1 vs rv => ?_⟩
    have r1 := (S.adv a1).reg
    match r, hl _ _ e1, rv, h1 with
    | [x], _, rv, h1 =>
      obtain ⟨v, u, rfl, w, rv⟩ := rv.w r1
      cases rv
      simp only [evRng, gd_if, gdO_if, leB_iff, mulB_iff, divB_iff, nzB_iff, powB_iff, nnB_iff, strB_iff, splB_iff, rg3B_iff] at h1
      split at h1
      · rename_i n q
        rw [q] at w
        split at h1
        · rename_i hl
          have hl := rg1B_of hl
          refine ⟨n, by rw [w.int], hl.1.1, hl.1.2, ?_⟩
          exact h1.now r1 _ (wok_rng 0 n.toNat)
        · exact h1.elim
      · exact h1.elim
theorem pi_rng2D {tg a b : Expr} {g : List Sl → RE (List ER)} {p pos : Pos} (hg : Gl X "range") (hm : X.mg "range" = none) (ha : PA X [a, b] (tA C g)) (hl : ∀ ρ r, g ρ = .ok r → r.length = 2) (hs : starEach [a, b] X.env = [(false, eval a X.env), (false, eval b X.env)]) (hs2 : starEach [b] X.env = [(false, eval b X.env)]) :
    PI X tg (.Call (.Name "range" p) [a, b] [] pos) (tI C (gRng g)) :=
  pi_mono (pi_range2 hg hm ha hs hs2) fun σ H R q => by
    obtain ⟨ρ, P, N, S, h⟩ := q
    refine ⟨ρ, P, N, S, h.bind.mono fun r P1 N1 H1 e1 a1 h1 vs rv => ?_⟩
    have r1 := (S.adv a1).reg
    match r, hl _ _ e1, rv, h1 with
    | [x, y], _, rv, h1 =>
      obtain ⟨v, u, rfl, w, rv⟩ := rv.w r1
      obtain ⟨v2, u2, rfl, w2, rv⟩ := rv.w r1
      cases rv
      simp only [evRng, gd_if, gdO_if, leB_iff, mulB_iff, divB_iff, nzB_iff, powB_iff, nnB_iff, strB_iff, splB_iff, rg3B_iff] at h1
      split at h1
      · rename_i i j q q2
        rw [q] at w
        rw [q2] at w2
        split at h1
        · rename_i hl
          have hl := rg2B_of hl
          refine ⟨i, j, by rw [w.int, w2.int], ⟨hl.1.1, hl.1.2, hl.2.1.1, hl.2.1.2⟩, ?_⟩
          exact h1.now r1 _ (wok_rng i (j - i).toNat)
        · exact h1.elim
      · exact h1.elim
theorem rgC_of {i j c : Int} (h : c ≠ 0 ∧ c.natAbs < 1073741824 ∧ Builtin.Range.small i j c = true ∧ 0 ≤ Builtin.Range.rangeSize i j c ∧ rngN i j c ≤ LIM) : RgC i j c (rngN i j c) :=
  ⟨h.1, h.2.1, h.2.2.1, (Int.toNat_of_nonneg h.2.2.2.1).symm⟩
theorem pi_rng3D {tg a b c : Expr} {g : List Sl → RE (List ER)} {p pos : Pos} (hg : Gl X "range") (hm : X.mg "range" = none) (ha : PA X [a, b, c] (tA C g)) (hl : ∀ ρ r, g ρ = .ok r → r.length = 3) (hs : starEach [a, b, c] X.env = (false, eval a X.env) :: starEach [b, c] X.env) (hpl : (backTo pos (starEach [b, c] X.env)).any (·.1) = false) :
    PI X tg (.Call (.Name "range" p) [a, b, c] [] pos) (tI C (gRng g)) :=
  pi_mono (pi_range3 hg hm ha hs hpl) fun σ H R q => by
    obtain ⟨ρ, P, N, S, h⟩ := q
    refine ⟨ρ, P, N, S, h.bind.mono fun r P1 N1 H1 e1 a1 h1 vs rv => ?_⟩
    have r1 := (S.adv a1).reg
    match r, hl _ _ e1, rv, h1 with
    | [x, y, z], _, rv, h1 =>
      obtain ⟨v, u, rfl, w, rv⟩ := rv.w r1
      obtain ⟨v2, u2, rfl, w2, rv⟩ := rv.w r1
      obtain ⟨v3, u3, rfl, w3, rv⟩ := rv.w r1
      cases rv
      simp only [evRng, gd_if, gdO_if, leB_iff, mulB_iff, divB_iff, nzB_iff, powB_iff, nnB_iff, strB_iff, splB_iff, rg3B_iff] at h1
      split at h1
      · rename_i i j c q q2 q3
        rw [q] at w
        rw [q2] at w2
        rw [q3] at w3
        split at h1
        · rename_i hl
          exact ⟨i, j, c, _, by rw [w.int, w2.int, w3.int], rgC_of hl, h1.now r1 _ (wok_rngC i c _)⟩
        · exact h1.elim
      · exact h1.elim
/-! zip, enumerate, reversed -/
theorem pair_new {P N H H' : Hp} (r : Reg C P N H) {T : Addr} {x y : V} {d e : D} {b : Bool} (hT : H T = none) (eH : H' = upd H T (.tup [x, y])) (h : RepB C P N b d x) (h' : RepB C P N b e y) : ∃ P3, Adv P N H P3 N H' ∧ RepB C P3 N b (.tup [d, e]) (.ref T) := by
  subst eH
  have sp := same_upd (o := .tup [x, y]) (r.pH.free hT)
  exact ⟨upd P T (.tup [x, y]), (Adv.refl r.pH r.nH).newP hT, T, [x, y], rfl, .inl (.inl upd_same), x, [y], rfl, RepB.adv sp (L2.Same.refl _) h, y, [], rfl, RepB.adv sp (L2.Same.refl _) h', rfl⟩
theorem pi_enD {a : Expr} {elts : List Expr} {kk : Nat} {g : List Sl → RE ER} {p pos tpos : Pos} (hK : X.K = C.G.K) (hg : Gl X "enumerate") (hm : X.mg "enumerate" = none) (h : PE X a (tE C g)) (hs : starEach [a] X.env = [(false, eval a X.env)]) :
    PI X (.Tuple elts kk tpos) (.Call (.Name "enumerate" p) [a] [] pos) (tI C fun ρ => (g ρ).bind fun x => match x.d with
    | .lst xs => .ok ⟨xs.zipIdx.map fun p => .tup [.int p.2, p.1], x.b, x.isB⟩
    | _ => .bad) :=
  pi_mono (pi_enum hg hm (pa_cons h pa_nil hs) hs) fun σ H R q => by
    rw [hK]
    obtain ⟨ρ, P, N, S, h⟩ := q
    refine ⟨ρ, P, N, S, h.bind.mono fun x P1 N1 H1 e1 a1 h1 v rv => ?_⟩
    obtain ⟨N2, a2, rv⟩ := rv.freeze a1
    have r2 := (S.adv a2).reg
    cases q : x.d with
    | lst ds =>
      simp only [e1, RE.bind_ok, q] at h
      have h2 := res.adv a2 h
      obtain ⟨p, xs, rfl, z1, z2, z3⟩ := rv.frz_lst r2 q
      refine ⟨p, xs, rfl, z1, h2.now r2 _ ⟨fun H => SqL C.G.K H p xs, YPair (fun i => some (.int (i : Nat))) (fun i => xs[i]?), ?_, fun H2 e => L2.Same.seq e z1, fun e P2 N2 H2 e1 e2 r2 => ?_, fun i P2 N2 H2 x H3 hi e1 e2 r2 y => ?_⟩⟩
      · have := walk_enum (K := C.G.K) (a := p) (xs := xs)
        rw [z2.length] at this
        simpa using this
      · exact LNb.seq r2.pH r2.nH r2.rH _ _ (LNb.mono e1 e2 _ _ (z3 (by rw [frz_isB]; exact e)))
      · obtain ⟨T, x, y, rfl, hT, eH, ex, ey⟩ := y
        cases ex
        have hi : i < ds.length := by simpa using hi
        obtain ⟨v, q1, q2⟩ := Reps.get z2 (List.getElem?_eq_getElem hi)
        replace ey : xs[i]? = some y := ey
        rw [q1] at ey; cases ey
        obtain ⟨P3, q3, q4⟩ := pair_new r2 hT eH (d := .int i) rfl (RepB.adv e1 e2 q2)
        exact ⟨P3, q3, _, by simp [hi], q4⟩
    | _ => simp only [q] at h1; exact h1.elim
theorem pi_rvD {tg a : Expr} {g : List Sl → RE ER} {p pos : Pos} (hK : X.K = C.G.K) (hg : Gl X "reversed") (hm : X.mg "reversed" = none) (h : PE X a (tE C g)) (hs : starEach [a] X.env = [(false, eval a X.env)]) :
    PI X tg (.Call (.Name "reversed" p) [a] [] pos) (tI C fun ρ => (g ρ).bind fun x => match x.d with
    | .lst xs => .ok ⟨xs.reverse, x.b, x.isB⟩
    | _ => .bad) :=
  pi_mono (pi_reversed hg hm (pa_cons h pa_nil hs) hs) fun σ H R q => by
    rw [hK]
    obtain ⟨ρ, P, N, S, h⟩ := q
    refine ⟨ρ, P, N, S, h.bind.mono fun x P1 N1 H1 e1 a1 h1 v rv => ?_⟩
    obtain ⟨N2, a2, rv⟩ := rv.freeze a1
    have r2 := (S.adv a2).reg
    cases q : x.d with
    | lst ds =>
      simp only [e1, RE.bind_ok, q] at h
      have h2 := res.adv a2 h
      obtain ⟨p, xs, rfl, z1, z2, z3⟩ := rv.frz_lst r2 q
      refine ⟨p, xs, rfl, z1, h2.now r2 _ ⟨fun H => SqL C.G.K H p xs, fun i H x H' => H' = H ∧ xs[xs.length - 1 - i]? = some x, ?_, fun H2 e => L2.Same.seq e z1, fun e P2 N2 H2 e1 e2 r2 => ?_, fun i P2 N2 H2 x H3 hi e1 e2 r2 y => ?_⟩⟩
      · have := walk_rev (K := C.G.K) (a := p) (xs := xs)
        have e := z2.length
        simp only [List.length_reverse]
        rw [← e]
        exact this
      · exact LNb.seq r2.pH r2.nH r2.rH _ _ (LNb.mono e1 e2 _ _ (z3 (by rw [frz_isB]; exact e)))
      · obtain ⟨rfl, ex⟩ := y
        have hi : i < ds.length := by simpa using hi
        have hj : ds.length - 1 - i < ds.length := by omega
        rw [z2.length] at ex
        obtain ⟨v, q1, q2⟩ := Reps.get z2 (List.getElem?_eq_getElem hj)
        rw [q1] at ex; cases ex
        refine ⟨P2, Adv.refl r2.pH r2.nH, _, ?_, RepB.adv e1 e2 q2⟩
        rw [List.getElem?_reverse hi, List.getElem?_eq_getElem]
    | _ => simp only [q] at h1; exact h1.elim
theorem pi_zpD {a a' : Expr} {elts : List Expr} {kk : Nat} {g g' : List Sl → RE ER} {p pos tpos : Pos} (hK : X.K = C.G.K) (hg : Gl X "zip") (hm : X.mg "zip" = none) (h : PE X a (tE C g)) (h' : PE X a' (tE C g')) (hs : starEach [a, a'] X.env = (false, eval a X.env) :: starEach [a'] X.env) (hs2 : starEach [a'] X.env = [(false, eval a' X.env)]) (hpl : (backTo pos (starEach [a'] X.env)).any (·.1) = false) :
    PI X (.Tuple elts kk tpos) (.Call (.Name "zip" p) [a, a'] [] pos) (tI C fun ρ => (g ρ).bind fun x => (g' ρ).bind fun y => match x.d, y.d with
    | .lst xs, .lst ys => .ok ⟨List.zipWith (fun u v => .tup [u, v]) xs ys, x.b && y.b, x.isB || y.isB⟩
    | _, _ => .bad) :=
  pi_mono (pi_zip hg hm (pa_cons h (pa_cons h' pa_nil hs2) hs) hs hpl) fun σ H R q => by
    rw [hK]
    obtain ⟨ρ, P, N, S, h⟩ := q
    refine ⟨ρ, P, N, S, h.bind.mono fun x P1 N1 H1 e1 a1 h1 v rv => ?_⟩
    obtain ⟨N2, a2, rv⟩ := rv.freeze a1
    simp only [e1, RE.bind_ok] at h
    have h2 := res.adv a2 h
    refine ⟨ρ, P1, N2, S.adv a2, (res.bind h2).mono fun y P3 N3 H3 e3 a3 h3 u ru => ?_⟩
    obtain ⟨N4, a4, ru⟩ := ru.freeze a3
    have r4 := ((S.adv a2).adv a4).reg
    simp only [e3, RE.bind_ok] at h2
    have h4 := res.adv a4 h2
    have rv4 := rv.adv a4
    split at h4
    · rename_i ds es q q2
      obtain ⟨p, xs, rfl, z1, z2, z3⟩ := rv4.frz_lst r4 q
      obtain ⟨p2, ys, rfl, y1, y2, y3⟩ := ru.frz_lst r4 q2
      refine ⟨p, p2, xs, ys, rfl, z1, y1, h4.now r4 _ ⟨fun H => SqL C.G.K H p xs ∧ SqL C.G.K H p2 ys, YPair (fun i => xs[i]?) (fun i => ys[i]?), ?_, fun H2 e => ⟨L2.Same.seq e z1, L2.Same.seq e y1⟩, fun e P2 N2 H2 e1 e2 r2 => ?_, fun i P2 N2 H2 x H3 hi e1 e2 r2 y => ?_⟩⟩
      · have := walk_zip (K := C.G.K) (a := p) (b := p2) (xs := xs) (ys := ys) rfl
        rw [z2.length, y2.length] at this
        simpa using this
      · simp only [Bool.or_eq_false_iff] at e
        exact ⟨LNb.seq r2.pH r2.nH r2.rH _ _ (LNb.mono e1 e2 _ _ (z3 (by rw [frz_isB]; exact e.1))), LNb.seq r2.pH r2.nH r2.rH _ _ (LNb.mono e1 e2 _ _ (y3 (by rw [frz_isB]; exact e.2)))⟩
      · obtain ⟨T, x, y, rfl, hT, eH, ex, ey⟩ := y
        have hi' : i < ds.length ∧ i < es.length := by
          have : i < min ds.length es.length := by simpa using hi
          omega
        replace ex : xs[i]? = some x := ex
        replace ey : ys[i]? = some y := ey
        obtain ⟨v, q1, q2⟩ := Reps.get z2 (List.getElem?_eq_getElem hi'.1)
        rw [q1] at ex; cases ex
        obtain ⟨v, q5, q6⟩ := Reps.get y2 (List.getElem?_eq_getElem hi'.2)
        rw [q5] at ey; cases ey
        obtain ⟨P3, q3, q4⟩ := pair_new r2 hT eH (RepB.adv e1 e2 (RepB.and1 q2)) (RepB.adv e1 e2 (RepB.and2 q6))
        exact ⟨P3, q3, _, by rw [List.getElem?_zipWith, List.getElem?_eq_getElem hi'.1, List.getElem?_eq_getElem hi'.2], q4⟩
    · exact h4.elim
end
end Cm

set_option Elab.async false
set_option linter.all false
set_option maxRecDepth 100000
/-! Comprehensions. -/
namespace Cm
open PySem PySem.Spec PyProof.Rows L2

/-- nothing is wished for of what is raised -/
def Ctx.nx (C : Ctx) : Ctx := { C with W := fun _ _ _ _ => False }
section
variable {C : Ctx} {X : Cx}
theorem Reg.nx {P N H : Hp} (r : Reg C P N H) : Reg C.nx P N H := ⟨r.pH, r.nH, r.bH, r.rB, r.p0, r.pn, r.nw⟩
theorem Reg.unx {P N H : Hp} (r : Reg C.nx P N H) : Reg C P N H := ⟨r.pH, r.nH, r.bH, r.rB, r.p0, r.pn, r.nw⟩
theorem SlR.nx {P N H : Hp} {s : Sl} {o : Option V} (h : SlR C P N H s o) : SlR C.nx P N H s o := by cases s <;> exact h
theorem SR.nx {P N H : Hp} {ρ : List Sl} {σ : L2.St} (S : SR C P N H ρ σ) : SR C.nx P N H ρ σ := ⟨S.reg.nx, S.len, fun i s e => by
  obtain ⟨o, h1, h2⟩ := S.sl i s e
  exact ⟨o, h1, h2.nx⟩, S.ap⟩
theorem ERr.unx {P N H H0 : Hp} {er : ER} {v : V} (h : ERr C.nx P N H H0 er v) : ERr C P N H H0 er v := by cases er <;> exact h
theorem wipe_get {σ : L2.St} : ∀ {vs : List Nat} {j : Nat}, j ∉ vs → (wipe σ vs)[j]? = σ[j]?
  | [], _, _ => rfl
  | v :: vs, j, h => by
    simp only [List.mem_cons, not_or] at h
    unfold wipe
    rw [List.getElem?_set_ne (fun z => h.1 z.symm)]
    exact wipe_get h.2
theorem wipe_in {σ : L2.St} : ∀ {vs : List Nat} {j : Nat}, j ∈ vs → j < σ.length → (wipe σ vs)[j]? = some none
  | v :: vs, j, h, hj => by
    unfold wipe
    by_cases q : v = j
    · subst q
      rw [List.getElem?_set_self (by rw [wipe_length]; exact hj)]
    · rw [List.getElem?_set_ne q]
      rcases List.mem_cons.mp h with h | h
      · exact absurd h.symm q
      · exact wipe_in h hj
theorem wipe_eq {σ σ' : L2.St} {vs : List Nat} (hl : σ'.length = σ.length) (h : ∀ j, j ∉ vs → σ'[j]? = σ[j]?) : wipe σ' vs = wipe σ vs := by
  apply List.ext_getElem?
  intro j
  by_cases q : j ∈ vs
  · by_cases hj : j < σ.length
    · rw [wipe_in q hj, wipe_in q (by rw [hl]; exact hj)]
    · rw [List.getElem?_eq_none (by rw [wipe_length]; omega), List.getElem?_eq_none (by rw [wipe_length]; omega)]
  · rw [wipe_get q, wipe_get q, h j q]
theorem wipe_wipe {σ : L2.St} {vs : List Nat} : wipe (wipe σ vs) vs = wipe σ vs := by
  refine wipe_eq (wipe_length _ _) fun j h => wipe_get h
theorem wipeS_len {ρ : List Sl} : ∀ {vs : List Nat}, (wipeS ρ vs).length = ρ.length
  | [] => rfl
  | v :: vs => by unfold wipeS; rw [List.length_set]; exact wipeS_len
theorem wipeS_get {ρ : List Sl} : ∀ {vs : List Nat} {j : Nat} {s : Sl}, (wipeS ρ vs)[j]? = some s → s = .non ∨ (j ∉ vs ∧ ρ[j]? = some s)
  | [], _, _, h => .inr ⟨by simp, h⟩
  | v :: vs, j, s, h => by
    unfold wipeS at h
    by_cases q : v = j
    · subst q
      by_cases hv : v < (wipeS ρ vs).length
      · rw [List.getElem?_set_self hv] at h; cases h; exact .inl rfl
      · rw [List.getElem?_eq_none (by simpa using hv)] at h; cases h
    · rw [List.getElem?_set_ne q] at h
      rcases wipeS_get h with h | h
      · exact .inl h
      · exact .inr ⟨by simp only [List.mem_cons, not_or]; exact ⟨fun z => q z.symm, h.1⟩, h.2⟩
theorem SR.wiped {P N H : Hp} {ρ : List Sl} {σ : L2.St} (S : SR C P N H ρ σ) (vs : List Nat) : SR C P N H (wipeS ρ vs) (wipe σ vs) where
  reg := S.reg
  len := by rw [wipe_length, wipeS_len, S.len]
  sl := fun i s e => by
    rcases wipeS_get e with rfl | ⟨h1, h2⟩
    · have hi : i < (wipeS ρ vs).length := by
        rcases Nat.lt_or_ge i (wipeS ρ vs).length with z | z
        · exact z
        · rw [List.getElem?_eq_none z] at e; cases e
      rw [wipeS_len, ← S.len, ← wipe_length σ vs] at hi
      exact ⟨_, List.getElem?_eq_getElem hi, trivial⟩
    · rw [wipe_get h1]
      exact S.sl i s h2
  ap := fun i j p ds b es c e1 e2 e3 e4 => by
    rcases wipeS_get e1 with z | ⟨h1, h2⟩
    · cases z
    rcases wipeS_get e2 with z | ⟨h3, h4⟩
    · cases z
    rw [wipe_get h1] at e3
    rw [wipe_get h3] at e4
    exact S.ap i j p ds b es c h2 h4 e3 e4
/-- the length of what is walked -/
def tIl (C : Ctx) (g : List Sl → RE Wk) : TI := fun σ H R => ∃ ρ P N, SR C P N H ρ σ ∧ res C σ P N H (g ρ) fun w P' N' H' => ∀ J, Wok C P' N' H' w J → w.xs.length ≤ sizeLine → R J H'
theorem sm_lt : LIM = sizeLine := rfl
abbrev gLc (own tg : List Nat) (gi : List Sl → RE Wk) (gc : List Sl → RE Bool) (ge : List Sl → RE ER) : List Sl → RE ER := fun ρ => (gi ρ).bind fun xs => gd (leB xs.xs.length) ((lcl (fun x => match bindT tg x xs.b (wipeS ρ own) with
      | some ρ' => noX ((gc ρ').bind fun k => if k = true then (ge ρ').bind fun y => match y with
        | .brw _ _ => .bad
        | y => .ok (some (y.d, y.b)) else .ok none)
      | none => .bad) xs.xs).bind fun r => .ok (.fre r.1 r.2))
theorem lcl_cons {f : D → RE (Option (D × Bool))} {x : D} {xs : List D} {r : List D × Bool} (h : lcl f (x :: xs) = .ok r) : ∃ a q, f x = .ok a ∧ lcl f xs = .ok q ∧ r = match a with
    | none => q
    | some y => (y.1 :: q.1, y.2 && q.2) := by
  unfold lcl at h
  cases e : f x with
  | bad => rw [e] at h; cases h
  | exc c fs => rw [e] at h; cases h
  | ok a =>
    rw [e] at h
    cases e2 : lcl f xs with
    | bad => rw [e2] at h; cases h
    | exc c fs => rw [e2] at h; cases h
    | ok q =>
      rw [e2] at h
      refine ⟨a, q, rfl, rfl, ?_⟩
      cases a <;> cases h <;> rfl
theorem lcl_nx {f : D → RE (Option (D × Bool))} (hf : ∀ x, noExc (f x)) : ∀ xs, noExc (lcl f xs)
  | [] => trivial
  | x :: xs => by
    unfold lcl
    have h1 := hf x
    have h2 := lcl_nx hf xs
    cases e : f x with
    | bad => trivial
    | exc c fs => rw [e] at h1; exact h1.elim
    | ok a =>
      cases e2 : lcl f xs with
      | bad => trivial
      | exc c fs => rw [e2] at h2; exact h2.elim
      | ok q => cases a <;> trivial
theorem noX_nx {α : Type} (r : RE α) : noExc (noX r) := by cases r <;> trivial
theorem noX_ok {α : Type} {r : RE α} {a : α} (h : noX r = .ok a) : r = .ok a := by
  cases r with
  | bad => cases h
  | ok b => exact h
  | exc c fs => cases h
/-- within the block what is raised is not wished for -/
theorem lc_imp {own tg : List Nat} {gi : List Sl → RE Wk} {gc : List Sl → RE Bool} {ge : List Sl → RE ER} (hsub : ∀ i ∈ tg, i ∈ own) {σ : L2.St} {H : Hp} {Q : VK} (h : tE C (gLc own tg gi gc ge) σ H Q) :
    tLc (tI C gi) (tG C.nx tg) (tT C.nx gc) (tE C.nx ge) own σ H Q := by
  obtain ⟨ρ, P, N, S, h⟩ := h
  refine ⟨ρ, P, N, S, h.bind.mono fun w P1 N1 H1 e1 a1 h1 J wj D hD => ?_⟩
  have S1 := S.adv a1
  simp only [gd_if, leB_iff] at h1
  split at h1
  case isFalse => exact h1.elim
  rename_i hlen
  generalize hf : (fun x => match bindT tg x w.b (wipeS ρ own) with
      | some ρ' => noX ((gc ρ').bind fun k => if k = true then (ge ρ').bind fun y => match y with
        | .brw _ _ => .bad
        | y => .ok (some (y.d, y.b)) else .ok none)
      | none => .bad) = f at h1
  have fnx : ∀ x, noExc (f x) := fun x => by
    subst hf
    simp only
    split
    · exact noX_nx _
    · trivial
  cases e2 : lcl f w.xs with
  | bad => rw [e2] at h1; exact h1.elim
  | exc c fs => have := lcl_nx fnx w.xs; rw [e2] at this; exact this.elim
  | ok tot =>
    rw [e2] at h1
    obtain ⟨Gd, Y, wk, grow, _, item⟩ := wj
    refine lc_it wk (Pv := fun i Hi => ∃ (P N : Hp) (acc : List V) (ds : List Cm.D) (b : Bool) (rest : List Cm.D × Bool), Adv P1 N1 H1 P N Hi ∧ Hi D = some (.lst acc) ∧ P D = none ∧ N D = none ∧ RepsB C P N b ds acc ∧ ds.length ≤ i ∧ lcl f (w.xs.drop i) = .ok rest ∧ tot.1 = ds ++ rest.1 ∧ tot.2 = (b && rest.2)) ?_ (fun i Hi hi p => ?_) (fun i x Hi H' hi p y => ?_) (fun Hi p => ?_)
    · exact ⟨P1, N1, [], [], true, tot, (Adv.refl S1.reg.pH S1.reg.nH).heap (same_upd hD), upd_same, S1.reg.pH.free hD, S1.reg.nH.free hD, rfl, Nat.le_refl _, by simpa using e2, rfl, by simp⟩
    · obtain ⟨P, N, acc, ds, b, rest, a, _⟩ := p
      exact grow Hi a.hh
    · obtain ⟨P2, N2, acc, ds, b, rest, a, hDi, pD, nD, rr, hdl, el, et, eb⟩ := p
      obtain ⟨P3, a3, d, ed, rd⟩ := item i P2 N2 Hi x H' hi a.pp a.nn (S1.adv a).reg y
      have hdrop : w.xs.drop i = d :: w.xs.drop (i + 1) := by
        obtain ⟨hi', e⟩ := List.getElem?_eq_some_iff.mp ed
        rw [List.drop_eq_getElem_cons hi', e]
      rw [hdrop] at el
      obtain ⟨r1, q, ef, eq, er⟩ := lcl_cons el
      have aa := a.trans a3
      have hD' := a3.hh _ _ hDi
      have pD3 := a3.off hDi pD
      subst hf
      simp only at ef
      split at ef
      case h_2 => cases ef
      rename_i ρ' eb'
      have ef := noX_ok ef
      refine ⟨wipeS ρ own, P3, N2, d, w.b, ρ', ((S1.adv aa).wiped own).nx, rd, eb', fun σ' S' hj hl => ⟨?_, ?_⟩⟩
      · rw [wipe_eq (σ := wipe σ own) hl fun j h => hj j fun z => h (hsub j z), wipe_wipe]
      · cases e5 : gc ρ' with
        | bad => rw [e5] at ef; cases ef
        | exc c fs => rw [e5] at ef; cases ef
        | ok k =>
          rw [e5, RE.bind_ok] at ef
          refine ⟨ρ', P3, N2, S', ?_⟩
          rw [e5]
          intro P4 N4 H4 a4
          have hD4 := a4.hh _ _ hD'
          have pD4 := a4.off hD' pD3
          have nD4 := a4.offN hD' nD
          cases k with
          | false =>
            simp only [Bool.false_eq_true, if_false] at ef ⊢
            cases ef
            have er' : rest = q := er
            exact ⟨P4, N4, acc, ds, b, q, aa.trans a4, hD4, pD4, nD4, RepsB.adv (a3.pp.trans a4.pp) a4.nn rr, Nat.le_succ_of_le hdl, eq, by rw [et, er'], by rw [eb, er']⟩
          | true =>
            simp only [if_true] at ef ⊢
            cases e6 : ge ρ' with
            | bad => rw [e6] at ef; cases ef
            | exc c fs => rw [e6] at ef; cases ef
            | ok y =>
              rw [e6, RE.bind_ok] at ef
              refine ⟨ρ', P4, N4, S'.adv a4, ?_⟩
              rw [e6]
              intro P5 N5 H5 a5 v rv
              have rv := rv.unx
              obtain ⟨N6, a6, rv6⟩ := rv.freeze a5
              have hD6 := a6.hh _ _ hD4
              have pD6 := a6.off hD4 pD4
              have nD6 := a6.offN hD4 nD4
              have ry : r1 = some (y.d, y.b) ∧ RepB C P5 N6 y.b y.d v := by
                cases y with
                | val d' b' => exact ⟨(RE.ok.inj ef).symm, rv6⟩
                | fre d' b' => exact ⟨(RE.ok.inj ef).symm, rv6⟩
                | brw d' b' => cases ef
              obtain ⟨rfl, rv7⟩ := ry
              have er' : rest = (y.d :: q.1, y.b && q.2) := er
              have full := ((a.trans a3).trans a4).trans a6
              have hl2 : acc.length = ds.length := rr.length
              refine ⟨acc, hD6, ?_, P5, N6, acc ++ [v], ds ++ [y.d], b && y.b, q, ⟨?_, full.pp, full.nn, same_off full.pH pD6, same_off full.nH nD6, full.pn, full.nw⟩, upd_same, pD6, nD6, ?_, ?_, eq, ?_, ?_⟩
              · have : w.xs.length ≤ sizeLine := hlen
                omega
              · exact same_off full.hh hD
              · exact Reps.append (RepsB.and1 (RepsB.adv ((a3.pp.trans a4.pp).trans a6.pp) (a4.nn.trans a6.nn) rr)) (Reps.one (RepB.and2 rv7))
              · simp only [List.length_append, List.length_singleton]; omega
              · rw [et, er']; simp
              · rw [eb, er']; simp [Bool.and_assoc]
    · obtain ⟨P2, N2, acc, ds, b, rest, a, hDi, pD, nD, rr, hdl, el, et, eb⟩ := p
      rw [List.drop_length] at el
      cases el
      have et' : tot.1 = ds := by simpa using et
      have eb' : tot.2 = b := by simpa using eb
      refine h1 P2 N2 Hi a _ ⟨D, acc, rfl, hDi, a1.hh.free hD, pD, nD, ?_⟩
      rw [et', eb']
      exact rr
end
end Cm

set_option Elab.async false
set_option linter.all false
set_option maxRecDepth 100000
/-! Statements. -/
namespace Cm
open PySem PySem.Spec PyProof.Rows L2

section
variable (C : Ctx)
/-- P0 N0: the regions at the start, which only grow -/
def outS (P0 N0 : Hp) (D : Ends) (o : Out) : Prop :=
  match o with
  | .bad => False
  | .nx ρ => ∀ σ P N H, SR C P N H ρ σ → L2.Same P0 P → L2.Same N0 N → D.nx σ H
  | .brk ρ => ∀ σ P N H, SR C P N H ρ σ → L2.Same P0 P → L2.Same N0 N → D.bk σ H
  | .cnt ρ => ∀ σ P N H, SR C P N H ρ σ → L2.Same P0 P → L2.Same N0 N → D.ct σ H
  | .ret er => ∀ v P N H, Reg C P N H → ERr C P N H C.B er v → D.rt v H
  | .exc c fs => ∀ σ d P N H, Reg C P N H → ExR C P N H fs d → C.W (.ref (C.G.ca c)) d σ H
def tS (g : List Sl → Out) : TS := fun D σ H => ∃ ρ P N, SR C P N H ρ σ ∧ outS C P N D (g ρ)
end
section
variable {C : Ctx} {X : Cx}
theorem outS.res {α : Type} {D : Ends} {σ : L2.St} {P N H : Hp} {r : RE α} {f : α → Out} (rg : Reg C P N H) (h : outS C P N D (r.out f)) : res C σ P N H r fun a _ _ _ => outS C P N D (f a) := by
  cases r with
  | bad => exact h
  | ok a => exact fun _ _ _ _ => h
  | exc c fs => exact fun d P' N' H' a x => h σ d P' N' H' (rg.adv a) x
theorem outS.adv {P N P' N' : Hp} {D : Ends} {o : Out} (h : outS C P N D o) (hp : L2.Same P P') (hn : L2.Same N N') : outS C P' N' D o := by
  cases o with
  | bad => exact h
  | nx ρ => exact fun σ P2 N2 H S e1 e2 => h σ P2 N2 H S (hp.trans e1) (hn.trans e2)
  | brk ρ => exact fun σ P2 N2 H S e1 e2 => h σ P2 N2 H S (hp.trans e1) (hn.trans e2)
  | cnt ρ => exact fun σ P2 N2 H S e1 e2 => h σ P2 N2 H S (hp.trans e1) (hn.trans e2)
  | ret er => exact h
  | exc c fs => exact h
theorem outS.mono {P0 N0 : Hp} {D D' : Ends} {o : Out} (h : outS C P0 N0 D o) (h1 : ∀ σ H, D.nx σ H → D'.nx σ H) (h2 : ∀ v H, D.rt v H → D'.rt v H) (h3 : ∀ σ H, D.bk σ H → D'.bk σ H) (h4 : ∀ σ H, D.ct σ H → D'.ct σ H) : outS C P0 N0 D' o := by
  cases o with
  | bad => exact h
  | nx ρ => exact fun σ P N H S e1 e2 => h1 _ _ (h σ P N H S e1 e2)
  | brk ρ => exact fun σ P N H S e1 e2 => h3 _ _ (h σ P N H S e1 e2)
  | cnt ρ => exact fun σ P N H S e1 e2 => h4 _ _ (h σ P N H S e1 e2)
  | ret er => exact fun v P N H S e => h2 _ _ (h v P N H S e)
  | exc c fs => exact h
theorem ps_mono {s : Stmt} {t u : TS} (h : PS X s t) (f : ∀ D σ H, u D σ H → t D σ H) : PS X s u := ⟨fun pins s σ H D I q => h.run pins s σ H D I (f _ _ _ q)⟩
theorem pss_mono {s : List Stmt} {t u : TS} (h : PSs X s t) (f : ∀ D σ H, u D σ H → t D σ H) : PSs X s u := ⟨fun pins s σ H D I q => h.run pins s σ H D I (f _ _ _ q)⟩
theorem ps_nevD {s : Stmt} : PS X s (tS C fun _ => .bad) := ps_mono ps_never fun D σ H q => by obtain ⟨ρ, P, N, S, h⟩ := q; exact h
theorem pss_nilD : PSs X [] (tS C fun ρ => .nx ρ) := pss_mono pss_nil fun D σ H q => by obtain ⟨ρ, P, N, S, h⟩ := q; exact h σ P N H S (L2.Same.refl _) (L2.Same.refl _)
theorem pss_consD {s : Stmt} {ss : List Stmt} {g g' : List Sl → Out} (h : PS X s (tS C g)) (h' : PSs X ss (tS C g')) : PSs X (s :: ss) (tS C fun ρ => (g ρ).seq g') :=
  pss_mono (pss_cons h h') fun D σ H q => by
    obtain ⟨ρ, P, N, S, h⟩ := q
    refine ⟨ρ, P, N, S, ?_⟩
    show outS C P N { D with nx := tS C g' D } (g ρ)
    cases e : g ρ with
    | nx ρ' => simp only [e, Out.seq_nx] at h; exact fun σ P' N' H S e1 e2 => ⟨ρ', P', N', S, h.adv e1 e2⟩
    | bad => simp only [e] at h; exact h
    | brk ρ' => simp only [e] at h; exact h
    | cnt ρ' => simp only [e] at h; exact h
    | ret er => simp only [e] at h; exact h
    | exc c fs => simp only [e] at h; exact h
theorem ps_passD {pos : Pos} : PS X (.Pass pos) (tS C fun ρ => .nx ρ) := ps_mono ps_pass fun D σ H q => by obtain ⟨ρ, P, N, S, h⟩ := q; exact h σ P N H S (L2.Same.refl _) (L2.Same.refl _)
theorem ps_docD {x : Str} {j : Nat} {pos pos' : Pos} : PS X (.Expr (.Constant (.str x) j pos) pos') (tS C fun ρ => .nx ρ) := ps_mono ps_doc fun D σ H q => by obtain ⟨ρ, P, N, S, h⟩ := q; exact h σ P N H S (L2.Same.refl _) (L2.Same.refl _)
theorem ps_brkD {pos : Pos} : PS X (.Break pos) (tS C fun ρ => .brk ρ) := ps_mono ps_break fun D σ H q => by obtain ⟨ρ, P, N, S, h⟩ := q; exact h σ P N H S (L2.Same.refl _) (L2.Same.refl _)
theorem ps_cntD {pos : Pos} : PS X (.Continue pos) (tS C fun ρ => .cnt ρ) := ps_mono ps_continue fun D σ H q => by obtain ⟨ρ, P, N, S, h⟩ := q; exact h σ P N H S (L2.Same.refl _) (L2.Same.refl _)
theorem ps_retND {pos : Pos} : PS X (.Return none pos) (tS C fun _ => .ret (.val .non true)) := ps_mono ps_retN fun D σ H q => by obtain ⟨ρ, P, N, S, h⟩ := q; exact h .non P N H S.reg rfl
theorem ps_retD {e : Expr} {g : List Sl → RE ER} {pos : Pos} (h : PE X e (tE C g)) : PS X (.Return (some e) pos) (tS C fun ρ => (g ρ).out fun x => .ret (retE x)) :=
  ps_mono (ps_ret h) fun D σ H q => by
    obtain ⟨ρ, P, N, S, h⟩ := q
    refine ⟨ρ, P, N, S, (h.res S.reg).mono fun x P1 N1 H1 _ a1 h1 v rv => ?_⟩
    have r1 := (S.adv a1).reg
    refine h1 v P1 N1 H1 r1 ?_
    cases x with
    | val d b => exact rv
    | fre ds b => exact rv.from S.reg.bH
    | brw ds b =>
      obtain ⟨p, xs, e, z1, z2, z3, z4, z5⟩ := rv
      exact ⟨p, xs, e, z1, z4, z2, z3, z5⟩
theorem ps_exprD {e : Expr} {g : List Sl → RE ER} {pos : Pos} (h : PE X e (tE C g)) (hs : swapsWith e none pos.line X.env = pure false) : PS X (.Expr e pos) (tS C fun ρ => (g ρ).out fun _ => .nx ρ) :=
  ps_mono (ps_expr h hs) fun D σ H q => by
    obtain ⟨ρ, P, N, S, h⟩ := q
    exact ⟨ρ, P, N, S, (h.res S.reg).mono fun x P1 N1 H1 _ a1 h1 v rv => h1 σ P1 N1 H1 (S.adv a1) a1.pp a1.nn⟩
theorem ps_iffD {c : Expr} {a b : List Stmt} {gc : List Sl → RE Bool} {ga gb : List Sl → Out} {pos : Pos} (hc : PT X c (tT C gc)) (ha : PSs X a (tS C ga)) (hb : PSs X b (tS C gb)) : PS X (.If c a b pos) (tS C fun ρ => (gc ρ).out fun k => if k = true then ga ρ else gb ρ) :=
  ps_mono (ps_if hc ha hb) fun D σ H q => by
    obtain ⟨ρ, P, N, S, h⟩ := q
    refine ⟨ρ, P, N, S, (h.res S.reg).mono fun k P1 N1 H1 _ a1 h1 => ?_⟩
    cases k
    · exact ⟨ρ, P1, N1, S.adv a1, h1.adv a1.pp a1.nn⟩
    · exact ⟨ρ, P1, N1, S.adv a1, h1.adv a1.pp a1.nn⟩
/-! ### a name bound -/
theorem ERr.held {P1 N1 H0 P N H : Hp} {er : ER} {v : V} {f : Cm.D → Bool → Out} {D : Ends} (a : Adv P1 N1 H0 P N H) (h : ERr C P N H H0 er v) (o : outS C P1 N1 D (held er f)) : ∃ N2 d b, Adv P1 N1 H0 P N2 H ∧ RepB C P N2 b d v ∧ outS C P1 N1 D (f d b) := by
  cases er with
  | brw ds b => exact o.elim
  | val d b => exact ⟨N, d, b, a, h, o⟩
  | fre ds b =>
    obtain ⟨N2, a2, r2⟩ := h.freeze a
    exact ⟨N2, .lst ds, b, a2, r2, o⟩
theorem asg_imp {i : Nat} {g : List Sl → RE ER} {D : Ends} {σ : L2.St} {H : Hp} (q : tS C (fun ρ => (g ρ).out fun x => held x fun d b => .nx (ρ.set i (.val d b))) D σ H) : tAsg (tE C g) (gName i) D σ H := by
  obtain ⟨ρ, P, N, S, h⟩ := q
  refine ⟨ρ, P, N, S, (h.res S.reg).mono fun x P1 N1 H1 _ a1 h1 v rv => ?_⟩
  obtain ⟨N2, d, b, a2, r2, o⟩ := rv.held a1 h1
  exact o _ P1 N2 H1 ((S.adv a2).setV r2) a2.pp a2.nn
theorem SR.setO {P0 N0 H0 P N H : Hp} {ρ : List Sl} {σ : L2.St} (S0 : SR C P0 N0 H0 ρ σ) (S : SR C P N H ρ σ) {i : Nat} {ds : List Cm.D} {b : Bool} {p : Addr} {xs : List V} (h0 : H0 p = none) (hp : H p = some (.lst xs)) (pP : P p = none) (pN : N p = none) (h : RepsB C P N b ds xs) : SR C P N H (ρ.set i (.own ds b)) (σ.set i (some (.ref p))) where
  reg := S.reg
  len := by simp [S.len]
  sl := fun j s e => by
    by_cases q : i = j
    · subst q
      have hi : i < ρ.length := by
        rcases Nat.lt_or_ge i ρ.length with z | z
        · exact z
        · rw [List.getElem?_eq_none (by simpa using z)] at e; cases e
      rw [List.getElem?_set_self hi] at e
      cases e
      exact ⟨_, List.getElem?_set_self (by rw [S.len]; exact hi), p, xs, rfl, hp, pP, pN, S0.reg.bH.free h0, h⟩
    · rw [List.getElem?_set_ne q] at e
      rw [List.getElem?_set_ne q]
      exact S.sl j s e
  ap := fun j k r ds' c es c' e1 e2 e3 e4 => by
    have old : ∀ {m : Nat} {r : Addr} {es : List Cm.D} {c : Bool}, i ≠ m → (ρ.set i (.own ds b))[m]? = some (.own es c) → (σ.set i (some (.ref p)))[m]? = some (some (.ref r)) → H0 r ≠ none := fun {m r es c} hm e1 e2 => by
      rw [List.getElem?_set_ne hm] at e1 e2
      obtain ⟨o, z1, q, ys, z2, z3, _⟩ := S0.sl m _ e1
      rw [z1] at e2
      cases e2
      cases z2
      rw [z3]; simp
    have here : ∀ {m : Nat} {r : Addr}, i = m → m < σ.length → (σ.set i (some (.ref p)))[m]? = some (some (.ref r)) → r = p := fun {m r} hm hl e => by
      subst hm
      rw [List.getElem?_set_self hl] at e
      cases e; rfl
    have lt : ∀ {m : Nat} {o : Option V}, (σ.set i (some (.ref p)))[m]? = some o → m < σ.length := fun {m o} e => by
      rcases Nat.lt_or_ge m σ.length with z | z
      · exact z
      · rw [List.getElem?_eq_none (by simpa using z)] at e; cases e
    by_cases q : i = j
    · by_cases q2 : i = k
      · omega
      · have := here q (lt e3) e3
        subst this
        exact absurd h0 (old q2 e2 e4)
    · by_cases q2 : i = k
      · have := here q2 (lt e4) e4
        subst this
        exact absurd h0 (old q e1 e3)
      · rw [List.getElem?_set_ne q] at e1 e3
        rw [List.getElem?_set_ne q2] at e2 e4
        exact S.ap j k r ds' c es c' e1 e2 e3 e4
theorem own_imp {i : Nat} {g : List Sl → RE ER} {D : Ends} {σ : L2.St} {H : Hp} (q : tS C (fun ρ => (g ρ).out fun x => match x with
    | .fre ds b => .nx (ρ.set i (.own ds b))
    | _ => .bad) D σ H) : tAsg (tE C g) (gName i) D σ H := by
  obtain ⟨ρ, P, N, S, h⟩ := q
  refine ⟨ρ, P, N, S, (h.res S.reg).mono fun x P1 N1 H1 _ a1 h1 v rv => ?_⟩
  cases x with
  | fre ds b =>
    obtain ⟨p, xs, rfl, z1, z2, z3, z4, z5⟩ := rv
    exact h1 _ P1 N1 H1 (S.setO (S.adv a1) z2 z1 z3 z4 z5) a1.pp a1.nn
  | val _ _ => exact h1.elim
  | brw _ _ => exact h1.elim
theorem ps_asgTD {t e : Expr} {tg : List Nat} {g : List Sl → RE ER} {pos : Pos} (h : PE X e (tE C g)) (ht : PG X t (tG C tg)) (hs : swapsWithSole [t] e pos.line X.env = pure false) (hw : swappedStores [t] e X.env = pure none) (h1 : (assignEach [t] X.env).map (·.2) = [assign t X.env]) :
    PS X (.Assign [t] e pos) (tS C fun ρ => (g ρ).out fun x => held x fun d b => onB (bindT tg d b ρ) .nx) :=
  ps_mono (ps_asg h ht hs hw h1) fun D σ H q => by
    obtain ⟨ρ, P, N, S, h⟩ := q
    refine ⟨ρ, P, N, S, (h.res S.reg).mono fun x P1 N1 H1 _ a1 h1 v rv => ?_⟩
    obtain ⟨N2, d, b, a2, r2, o⟩ := rv.held a1 h1
    cases e : bindT tg d b ρ with
    | some ρ' =>
      rw [e] at o
      exact ⟨ρ, P1, N2, d, b, ρ', S.adv a2, r2, e, fun σ' S' _ _ => o σ' P1 N2 H1 S' a2.pp a2.nn⟩
    | none => rw [e] at o; exact o.elim
/-! ### a slot's own list written -/
theorem ownAt_of {P N : Hp} {D : Ends} {ρ : List Sl} {i : Nat} {f : List Cm.D → Bool → Out} (h : outS C P N D (ownAt ρ i f)) : ∃ ds b, ρ[i]? = some (.own ds b) ∧ outS C P N D (f ds b) := by
  unfold ownAt at h
  split at h
  · rename_i ds b e
    exact ⟨ds, b, e, h⟩
  · exact h.elim
/-- the list at its root, changed -/
theorem SR.write {P N H : Hp} {ρ : List Sl} {σ : L2.St} (S : SR C P N H ρ σ) {i : Nat} {ds ds' : List Cm.D} {b b' : Bool} {p : Addr} {xs' : List V} (e : ρ[i]? = some (.own ds b)) (eσ : σ[i]? = some (some (.ref p))) (h : RepsB C P N b' ds' xs') : SR C P N (upd H p (.lst xs')) (ρ.set i (.own ds' b')) σ := by
  obtain ⟨o, z1, q, xs, z2, z3, z4, z5, z6, z7⟩ := S.sl i _ e
  rw [z1] at eσ; cases eσ; cases z2
  have hi : i < ρ.length := (List.getElem?_eq_some_iff.mp e).1
  refine ⟨⟨same_off S.reg.pH z4, same_off S.reg.nH z5, same_off S.reg.bH z6, S.reg.rB, S.reg.p0, S.reg.pn, S.reg.nw⟩, by simp [S.len], fun j s ej => ?_, fun j k r ds1 c es c' e1 e2 e3 e4 => ?_⟩
  · by_cases q : i = j
    · subst q
      rw [List.getElem?_set_self hi] at ej
      cases ej
      exact ⟨_, z1, p, xs', rfl, upd_same, z4, z5, z6, h⟩
    · rw [List.getElem?_set_ne q] at ej
      obtain ⟨o, y1, y2⟩ := S.sl j s ej
      refine ⟨o, y1, ?_⟩
      cases s with
      | non => trivial
      | val d b => exact y2
      | own es c =>
        obtain ⟨r, ys, y3, y4, y5⟩ := y2
        have hr : r ≠ p := fun er => q (S.ap i j p ds b es c e ej z1 (by rw [y1, y3, er]))
        exact ⟨r, ys, y3, by rw [upd_ne hr]; exact y4, y5⟩
      | slf c fs =>
        obtain ⟨r, dx, ys, y3, y4, y5⟩ := y2
        have hr : r ≠ p := fun er => by rw [er, z3] at y4; cases y4
        exact ⟨r, dx, ys, y3, by rw [upd_ne hr]; exact y4, y5⟩
  · have un : ∀ {m : Nat} {es : List Cm.D} {c : Bool}, (ρ.set i (.own ds' b'))[m]? = some (.own es c) → ∃ es' c', ρ[m]? = some (.own es' c') := fun {m es c} em => by
      by_cases q : i = m
      · subst q; exact ⟨_, _, e⟩
      · rw [List.getElem?_set_ne q] at em; exact ⟨_, _, em⟩
    obtain ⟨_, _, f1⟩ := un e1
    obtain ⟨_, _, f2⟩ := un e2
    exact S.ap j k r _ _ _ _ f1 f2 e3 e4
/-- the root of an own slot -/
theorem SR.root {P N H : Hp} {ρ : List Sl} {σ : L2.St} (S : SR C P N H ρ σ) {i : Nat} {ds : List Cm.D} {b : Bool} (e : ρ[i]? = some (.own ds b)) : ∃ p xs, σ[i]? = some (some (.ref p)) ∧ H p = some (.lst xs) ∧ P p = none ∧ N p = none ∧ C.B p = none ∧ RepsB C P N b ds xs := by
  obtain ⟨o, z1, p, xs, rfl, z2⟩ := S.sl i _ e
  exact ⟨p, xs, z1, z2⟩
theorem frz_imp {i : Nat} {g : List Sl → Out} {D : Ends} {σ : L2.St} {H : Hp} (q : tS C (fun ρ => ownAt ρ i fun ds b => g (ρ.set i (.val (.lst ds) b))) D σ H) : tS C g D σ H := by
  obtain ⟨ρ, P, N, S, h⟩ := q
  obtain ⟨ds, b, e, o⟩ := ownAt_of h
  obtain ⟨p, xs, z1, z2, z3, z4, z5, z6⟩ := S.root e
  have hi : i < ρ.length := (List.getElem?_eq_some_iff.mp e).1
  have sn : L2.Same N (upd N p (.lst xs)) := same_upd z4
  refine ⟨ρ.set i (.val (.lst ds) b), P, upd N p (.lst xs), ⟨⟨S.reg.pH, same_in S.reg.nH z2, S.reg.bH, S.reg.rB, S.reg.p0, S.reg.pn, fun a ha => ?_⟩, by simp [S.len], fun j s ej => ?_, fun j k r ds1 c es c' e1 e2 e3 e4 => ?_⟩, o.adv (L2.Same.refl _) sn⟩
  · by_cases q : a = p
    · rw [q]; exact z5
    · rw [upd_ne q] at ha; exact S.reg.nw a ha
  · by_cases q : i = j
    · subst q
      rw [List.getElem?_set_self hi] at ej
      cases ej
      exact ⟨_, z1, _, rfl, p, xs, rfl, .inr (.inl (.inl (.inl upd_same))), RepsB.adv (L2.Same.refl _) sn z6⟩
    · rw [List.getElem?_set_ne q] at ej
      obtain ⟨o, y1, y2⟩ := S.sl j s ej
      refine ⟨o, y1, ?_⟩
      cases s with
      | non => trivial
      | val d b => obtain ⟨v, y3, y4⟩ := y2; exact ⟨v, y3, RepB.adv (L2.Same.refl _) sn y4⟩
      | own es c =>
        obtain ⟨r, ys, y3, y4, y5, y6, y7, y8⟩ := y2
        have hr : r ≠ p := fun er => q (S.ap i j p ds b es c e ej z1 (by rw [y1, y3, er]))
        exact ⟨r, ys, y3, y4, y5, by rw [upd_ne hr]; exact y6, y7, RepsB.adv (L2.Same.refl _) sn y8⟩
      | slf c fs =>
        obtain ⟨r, dx, ys, y3, y4, y5, y6, y7, y8, y9⟩ := y2
        have hr : r ≠ p := fun er => by rw [er, z2] at y4; cases y4
        exact ⟨r, dx, ys, y3, y4, y5, by rw [upd_ne hr]; exact y6, y7, y8, RepsB.adv (L2.Same.refl _) sn y9⟩
  · have un : ∀ {m : Nat} {es : List Cm.D} {c : Bool}, (ρ.set i (.val (.lst ds) b))[m]? = some (.own es c) → ρ[m]? = some (.own es c) := fun {m es c} em => by
      by_cases q : i = m
      · subst q; rw [List.getElem?_set_self hi] at em; cases em
      · rw [List.getElem?_set_ne q] at em; exact em
    exact S.ap j k r _ _ _ _ (un e1) (un e2) e3 e4
theorem pss_frzD {i : Nat} {ss : List Stmt} {g : List Sl → Out} (h : PSs X ss (tS C g)) : PSs X ss (tS C fun ρ => ownAt ρ i fun ds b => g (ρ.set i (.val (.lst ds) b))) := pss_mono h fun D σ H q => frz_imp q
end
end Cm

set_option Elab.async false
set_option linter.all false
set_option maxRecDepth 100000
/-! Lists written, loops. -/
namespace Cm
open PySem PySem.Spec PyProof.Rows L2

section
variable {C : Ctx} {X : Cx}
theorem ty_own {P N H : Hp} {ρ : List Sl} {σ : L2.St} {p : Addr} {xs : List V} (K : PySem.W.Frag) (h : H p = some (.lst xs)) : tyV K "list" (.ref p) H := .inl ⟨rfl, xs, .inl (.inl h)⟩
theorem app_imp {i : Nat} {g : List Sl → RE ER} {D : Ends} {σ : L2.St} {H : Hp} {K : PySem.W.Frag} (q : tS C (fun ρ => ownAt ρ i fun ds c => (g ρ).out fun x => held x fun d b => gdO (leB (ds.length + 1)) (.nx (ρ.set i (.own (ds ++ [d]) (b && c))))) D σ H) :
    tDrop (tBM K "list" rAppend (tVar i) (tCons (tE C g) tNil)) D σ H := by
  obtain ⟨ρ, P, N, S, h⟩ := q
  obtain ⟨ds, c, e, o⟩ := ownAt_of h
  obtain ⟨p, xs, z1, z2, z3, z4, z5, z6⟩ := S.root e
  refine ⟨_, z1, .inl ⟨rfl, xs, .inl (.inl z2)⟩, ρ, P, N, S, (o.res S.reg).mono fun x P1 N1 H1 _ a1 h1 v rv => ?_⟩
  obtain ⟨N2, d, b, a2, r2, o⟩ := rv.held a1 h1
  simp only [gdO_if, leB_iff] at o
  split at o
  · rename_i hl
    refine ⟨p, xs, v, rfl, rfl, a1.hh _ _ z2, by rw [z6.length]; exact hl, ?_⟩
    exact o _ P1 N2 _ ((S.adv a2).write e z1 (Reps.append (RepsB.and2 (RepsB.adv a2.pp a2.nn z6)) (Reps.one (RepB.and1 r2)))) a2.pp a2.nn
  · exact o.elim
theorem ext_imp {i : Nat} {g : List Sl → RE ER} {D : Ends} {σ : L2.St} {H : Hp} {K : PySem.W.Frag} (q : tS C (fun ρ => ownAt ρ i fun ds c => (g ρ).out fun x => match x with
    | .fre es b => gdO (leB (ds.length + es.length)) (.nx (ρ.set i (.own (ds ++ es) (b && c))))
    | _ => .bad) D σ H) :
    tDrop (tBM K "list" rExtend (tVar i) (tCons (tE C g) tNil)) D σ H := by
  obtain ⟨ρ, P, N, S, h⟩ := q
  obtain ⟨ds, c, e, o⟩ := ownAt_of h
  obtain ⟨p, xs, z1, z2, z3, z4, z5, z6⟩ := S.root e
  refine ⟨_, z1, .inl ⟨rfl, xs, .inl (.inl z2)⟩, ρ, P, N, S, (o.res S.reg).mono fun x P1 N1 H1 _ a1 h1 v rv => ?_⟩
  cases x with
  | fre es b =>
    obtain ⟨q, ys, rfl, y1, y2, y3, y4, y5⟩ := rv
    simp only [gdO_if, leB_iff] at h1
    split at h1
    · rename_i hl
      refine ⟨p, q, xs, ys, rfl, rfl, a1.hh _ _ z2, y1, by rw [z6.length, y5.length]; exact hl, ?_⟩
      exact h1 _ P1 N1 _ ((S.adv a1).write e z1 (Reps.append (RepsB.and2 (RepsB.adv a1.pp a1.nn z6)) (RepsB.and1 y5))) a1.pp a1.nn
    · exact h1.elim
  | val _ _ => exact h1.elim
  | brw _ _ => exact h1.elim
theorem clr_imp {i : Nat} {D : Ends} {σ : L2.St} {H : Hp} {K : PySem.W.Frag} (q : tS C (fun ρ => ownAt ρ i fun _ _ => .nx (ρ.set i (.own [] true))) D σ H) : tDrop (tBM0 K "list" rClear (tVar i)) D σ H := by
  obtain ⟨ρ, P, N, S, h⟩ := q
  obtain ⟨ds, c, e, o⟩ := ownAt_of h
  obtain ⟨p, xs, z1, z2, z3, z4, z5, z6⟩ := S.root e
  exact ⟨_, z1, .inl ⟨rfl, xs, .inl (.inl z2)⟩, p, xs, rfl, rfl, z2, o _ P N _ (S.write e z1 rfl) (L2.Same.refl _) (L2.Same.refl _)⟩
theorem reps_last {P N : Hp} {b : Bool} : ∀ {ds : List Cm.D} {xs : List V} {d : Cm.D}, RepsB C P N b ds xs → ds.getLast? = some d → ∃ v, xs[xs.length - 1]? = some v ∧ RepB C P N b d v := fun {ds xs d} h e => by
  rw [List.getLast?_eq_getElem?] at e
  rw [h.length]
  exact h.get e
theorem reps_dropLast {P N : Hp} {b : Bool} {ds : List Cm.D} {xs : List V} (h : RepsB C P N b ds xs) : RepsB C P N b ds.dropLast xs.dropLast := by
  rw [List.dropLast_eq_take, List.dropLast_eq_take, h.length]
  exact Reps.take _ h
theorem popv_imp {i j : Nat} {D : Ends} {σ : L2.St} {H : Hp} {K : PySem.W.Frag} (q : tS C (fun ρ => ownAt ρ i fun ds c => match ds.getLast? with
    | some d => .nx ((ρ.set i (.own ds.dropLast c)).set j (.val d c))
    | none => .bad) D σ H) : tAsg (tBM0 K "list" rPop (tVar i)) (gName j) D σ H := by
  obtain ⟨ρ, P, N, S, h⟩ := q
  obtain ⟨ds, c, e, o⟩ := ownAt_of h
  obtain ⟨p, xs, z1, z2, z3, z4, z5, z6⟩ := S.root e
  split at o
  · rename_i d e2
    obtain ⟨v, q1, q2⟩ := reps_last z6 e2
    refine ⟨_, z1, .inl ⟨rfl, xs, .inl (.inl z2)⟩, p, xs, v, rfl, rfl, z2, q1, ?_⟩
    exact o _ P N _ ((S.write e z1 (reps_dropLast z6)).setV q2) (L2.Same.refl _) (L2.Same.refl _)
  · exact o.elim
theorem put_imp {i : Nat} {g gi : List Sl → RE ER} {D : Ends} {σ : L2.St} {H : Hp} (q : tS C (fun ρ => (g ρ).out fun x => held x fun d b => ownAt ρ i fun ds c => (gi ρ).out fun k => match k.d with
    | .int k => match ixN ds.length k with
      | some j => .nx (ρ.set i (.own (ds.set j d) (b && c)))
      | none => .bad
    | _ => .bad) D σ H) : tAsg (tE C g) (gSub (tVar i) (tE C gi) rSetL) D σ H := by
  obtain ⟨ρ, P, N, S, h⟩ := q
  refine ⟨ρ, P, N, S, (h.res S.reg).mono fun x P1 N1 H1 _ a1 h1 v rv => ?_⟩
  obtain ⟨N2, d, b, a2, r2, o⟩ := rv.held a1 h1
  have S2 := S.adv a2
  obtain ⟨ds, c, e, o⟩ := ownAt_of o
  obtain ⟨p, xs, z1, z2, z3, z4, z5, z6⟩ := S2.root e
  refine ⟨_, z1, ρ, P1, N2, S2, ((o.adv a2.pp a2.nn).res S2.reg).mono fun k P3 N3 H3 _ a3 h3 u ru => ?_⟩
  have r3 := (S2.adv a3).reg
  split at h3
  · rename_i k' ek
    have w := ru.w r3
    rw [ek] at w
    cases w.int
    split at h3
    · rename_i j ej
      refine ⟨p, xs, k', j, rfl, rfl, a3.hh _ _ z2, by rw [z6.length]; exact ej, ?_⟩
      exact h3 _ P3 N3 _ ((S2.adv a3).write e z1 (Reps.set (RepB.and1 (RepB.adv a3.pp a3.nn r2)) j (RepsB.and2 (RepsB.adv a3.pp a3.nn z6)))) a3.pp a3.nn
    · exact h3.elim
  · exact h3.elim
/-! ### loops -/
theorem for_imp {gi : List Sl → RE Wk} {tg : List Nat} {gb : List Sl → Out} {D : Ends} {σ : L2.St} {H : Hp} (q : tS C (fun ρ => (gi ρ).out fun w => if w.own = true then .bad else forGo (fun x ρ => onB (bindT tg x w.b ρ) gb) w.xs ρ) D σ H) : tFor (tI C gi) (tG C tg) (tS C gb) D σ H := by
  obtain ⟨ρ, P, N, S, h⟩ := q
  refine ⟨ρ, P, N, S, (h.res S.reg).mono fun w P1 N1 H1 _ a1 h1 J wj => ?_⟩
  split at h1
  · exact h1.elim
  rename_i how
  have how : w.own = false := by simpa using how
  obtain ⟨Gd, Y, wk, _, stay, item⟩ := wj
  generalize hf : (fun x ρ => onB (bindT tg x w.b ρ) gb) = f at h1
  have r1 := (S.adv a1).reg
  refine for_it wk (Pv := fun i σ' H' => ∃ ρ' P' N', SR C P' N' H' ρ' σ' ∧ L2.Same P1 P' ∧ L2.Same N1 N' ∧ outS C P1 N1 D (forGo f (w.xs.drop i) ρ')) ?_ (fun i σ' H' hi p => ?_) (fun i x σ' H' H'' hi p y => ?_) (fun σ' H' p => ?_)
  · exact ⟨ρ, P1, N1, S.adv a1, L2.Same.refl _, L2.Same.refl _, by simpa using h1.adv a1.pp a1.nn⟩
  · obtain ⟨ρ', P', N', S', s1, s2, _⟩ := p
    exact stay how P' N' H' s1 s2 S'.reg
  · obtain ⟨ρ', P', N', S', s1, s2, o⟩ := p
    obtain ⟨P3, a3, d, ed, rd⟩ := item i P' N' H' x H'' hi s1 s2 S'.reg y
    have hdrop : w.xs.drop i = d :: w.xs.drop (i + 1) := by
      obtain ⟨hi', e⟩ := List.getElem?_eq_some_iff.mp ed
      rw [List.drop_eq_getElem_cons hi', e]
    rw [hdrop] at o
    have o2 : outS C P1 N1 D (match f d ρ' with
      | .nx ρ' => forGo f (w.xs.drop (i + 1)) ρ'
      | .cnt ρ' => forGo f (w.xs.drop (i + 1)) ρ'
      | .brk ρ' => .nx ρ'
      | o => o) := o
    have ef : f d ρ' = onB (bindT tg d w.b ρ') gb := by rw [← hf]
    cases eb : bindT tg d w.b ρ' with
    | none => rw [ef, eb] at o2; exact o2.elim
    | some ρ2 =>
      rw [ef, eb, onB_some] at o2
      refine ⟨ρ', P3, N', d, w.b, ρ2, S'.adv a3, rd, eb, fun σ2 S2 _ _ => ⟨ρ2, P3, N', S2, ?_⟩⟩
      have t1 := s1.trans a3.pp
      cases e3 : gb ρ2 with
      | bad => simp only [e3] at o2; exact o2
      | nx ρ3 => simp only [e3] at o2; exact fun σ4 P4 N4 H4 S4 e1 e2 => ⟨ρ3, P4, N4, S4, t1.trans e1, s2.trans e2, o2⟩
      | cnt ρ3 => simp only [e3] at o2; exact fun σ4 P4 N4 H4 S4 e1 e2 => ⟨ρ3, P4, N4, S4, t1.trans e1, s2.trans e2, o2⟩
      | brk ρ3 => simp only [e3] at o2; exact fun σ4 P4 N4 H4 S4 e1 e2 => o2 σ4 P4 N4 H4 S4 (t1.trans e1) (s2.trans e2)
      | ret er => simp only [e3] at o2; exact o2
      | exc c fs => simp only [e3] at o2; exact o2
  · obtain ⟨ρ', P', N', S', s1, s2, o⟩ := p
    rw [List.drop_length] at o
    exact o σ' P' N' H' S' s1 s2
theorem whl_imp {gc : List Sl → RE Bool} {gb : List Sl → Out} {n : Nat} {D : Ends} {σ : L2.St} {H : Hp} (q : tS C (fun ρ => whlGo gc gb n ρ) D σ H) : tWhile (tT C gc) (tS C gb) D σ H := by
  obtain ⟨ρ, P, N, S, h⟩ := q
  refine ⟨fun m σ' H' => ∃ ρ' P' N', SR C P' N' H' ρ' σ' ∧ L2.Same P P' ∧ L2.Same N N' ∧ outS C P N D (whlGo gc gb m ρ'), ⟨n, ρ, P, N, S, L2.Same.refl _, L2.Same.refl _, h⟩, fun m σ' H' p => ?_⟩
  obtain ⟨ρ', P', N', S', s1, s2, o⟩ := p
  cases m with
  | zero => exact o.elim
  | succ m =>
    have o2 : outS C P N D ((gc ρ').out fun k => if k = true then (match gb ρ' with
      | .nx ρ' => whlGo gc gb m ρ'
      | .cnt ρ' => whlGo gc gb m ρ'
      | .brk ρ' => .nx ρ'
      | o => o) else .nx ρ') := o
    refine ⟨ρ', P', N', S', ((o2.adv s1 s2).res S'.reg).mono fun k P1 N1 H1 _ a1 h1 => ?_⟩
    cases k with
    | false => exact h1 σ' P1 N1 H1 (S'.adv a1) a1.pp a1.nn
    | true =>
      simp only [if_true] at h1 ⊢
      refine ⟨fun σ' H' => ∃ ρ' P' N', SR C P' N' H' ρ' σ' ∧ L2.Same P P' ∧ L2.Same N N' ∧ outS C P N D (whlGo gc gb m ρ'), fun σ2 H2 z => ⟨m, Nat.lt_succ_self m, z⟩, ρ', P1, N1, S'.adv a1, ?_⟩
      have t1 := s1.trans a1.pp
      have t2 := s2.trans a1.nn
      have o3 : gc ρ' = .ok true := by assumption
      rw [o3] at o2
      simp only [RE.out_ok, if_true] at o2
      cases e3 : gb ρ' with
      | bad => simp only [e3] at o2; exact o2
      | nx ρ3 => simp only [e3] at o2; exact fun σ4 P4 N4 H4 S4 e1 e2 => ⟨ρ3, P4, N4, S4, t1.trans e1, t2.trans e2, o2⟩
      | cnt ρ3 => simp only [e3] at o2; exact fun σ4 P4 N4 H4 S4 e1 e2 => ⟨ρ3, P4, N4, S4, t1.trans e1, t2.trans e2, o2⟩
      | brk ρ3 => simp only [e3] at o2; exact fun σ4 P4 N4 H4 S4 e1 e2 => o2 σ4 P4 N4 H4 S4 (t1.trans e1) (t2.trans e2)
      | ret er => simp only [e3] at o2; exact o2
      | exc c fs => simp only [e3] at o2; exact o2
end
end Cm

set_option Elab.async false
set_option linter.all false
set_option maxRecDepth 100000
/-! A text's expressions told to be those of the small language. -/
namespace Cm
open PySem PySem.Spec PyProof.Rows L2

/-- the names of a module that the small language's numbers stand for -/
structure Tb where
  N : List Str
  fn : List (Str × Nat)
  gc : List Str
  mn : List (Str × Nat)
  fs : List Str
  nw : List (Str × Nat) := []
  /-- classes by name; whether the module's own -/
  ck : List (Str × Bool) := []
  xk : List Str := []
def visB (sc : Scope) (x : Str) : Bool := match sc.names.lookup x with
  | some .local => true
  | some .cell => true
  | some .free => true
  | _ => false
def glB (sc : Scope) (x : Str) : Bool := match sc.names.lookup x with
  | some .globalImplicit => true
  | _ => false
def tgB (fc : Option Scope) (sc : Scope) (x : Str) : Bool := match sc.names.lookup x with
  | some .local => true
  | some .cell => (match fc with
    | none => true
    | some so => so.names.lookup x == some .cell)
  | _ => false
def nmB (x : Str) : Bool := !(x == ("__debug__" : Str)) && !(x == ("__classdict__" : Str))
def notStar : Expr → Bool
  | .Starred _ _ => false
  | _ => true
def notSlice : Expr → Bool
  | .Slice _ _ _ _ => false
  | _ => true
/-- the base of an attribute is no super() -/
def baseB : Expr → Bool
  | .Call (.Name _ _) [] [] _ => false
  | _ => true
def notSet : Expr → Bool
  | .Set _ _ _ => false
  | _ => true
def notComp : Expr → Bool
  | .ListComp _ _ _ _ => false
  | .SetComp _ _ _ _ => false
  | .DictComp _ _ _ _ _ => false
  | _ => true
theorem star_cons {e : Expr} {es : List Expr} {env : PySem.Env} (h : notStar e = true) : starEach (e :: es) env = (false, eval e env) :: starEach es env := by
  cases e <;> first | rfl | cases h
theorem star_any {env : PySem.Env} {pos : Pos} : ∀ {es : List Expr}, es.all notStar = true → (backTo pos (starEach es env)).any (·.1) = false
  | [], _ => rfl
  | e :: es, h => by
    simp only [List.all_cons, Bool.and_eq_true] at h
    rw [star_cons h.1]
    have := star_any (env := env) (pos := pos) h.2
    unfold backTo at this ⊢
    simpa using this
theorem star_len {env : PySem.Env} : ∀ {es : List Expr}, (starEach es env).length = es.length
  | [] => rfl
  | e :: es => by cases e <;> simp [starEach, star_len (es := es)]
theorem plain_of {X : Cx} {es : List Expr} (h : es.all notStar = true) : Plain X es := ⟨fun e r q => by
  subst q
  simp only [List.all_cons, Bool.and_eq_true] at h
  exact star_cons h.1, fun pos e r q => by
  subst q
  simp only [List.all_cons, Bool.and_eq_true] at h
  exact star_any h.2⟩
theorem base_of {o : Expr} {m : Str} {env : PySem.Env} {w : Sem Value} (h : baseB o = true) : attributeBase o m env w = w := by
  cases o with
  | Call f as ks p =>
    cases f with
    | Name x q =>
      cases as with
      | nil =>
        cases ks with
        | nil => cases h
        | cons _ _ => rfl
      | cons _ _ => rfl
    | _ => rfl
  | _ => rfl
theorem mcall_eq {o : Expr} {m : Str} {apos pos : Pos} {es : List Expr} {env : PySem.Env} (hb : baseB o = true) (hs : es.all notStar = true) (hn : es.length < 20) (hl : (apos.endLine == pos.line) = true) :
    eval (.Call (.Attribute o m apos) es [] pos) env = (do
      let ov ← eval o env
      standAt apos.atName
      let (f, first) ← holding [ov] (getMethod ov m (plainOf o env))
      callWith pos f first (backTo pos (starEach es env)) (backToKw pos (keywordEach [] env))) := by
  have e1 : eval (.Call (.Attribute o m apos) es [] pos) env = (do
      let ov ← attributeBase o m env (eval o env)
      standAt apos.atName
      methodCall o m apos pos env ov (es.length + ([] : List Keyword).length) (backTo pos (starEach es env)) (backToKw pos (keywordEach [] env))) := by
    rfl
  rw [e1, base_of hb]
  have hf : methodCallForm (es.length + ([] : List Keyword).length) (backTo pos (starEach es env)) (backToKw pos (keywordEach [] env)) = true := by
    unfold methodCallForm
    have := star_any (env := env) (pos := pos) hs
    have e : (backTo pos (starEach es env)).all (fun x => !x.1) = true := by
      rw [List.all_eq_not_any_not]
      simpa using this
    rw [e]
    simp [backToKw, keywordEach]
    omega
  have : ∀ ov, methodCall o m apos pos env ov (es.length + ([] : List Keyword).length) (backTo pos (starEach es env)) (backToKw pos (keywordEach [] env)) = _ := fun ov => mcall_line hf hl
  simp only [this]
theorem tru_of {e : Expr} {env : PySem.Env} (h : (match e with
    | .UnaryOp .Not _ _ => false
    | .BoolOp _ _ _ => false
    | .IfExp _ _ _ _ => false
    | .Compare _ _ _ _ => false
    | _ => true) = true) : ∀ whole, isTrue e env whole = (do let v ← whole; standAt e.pos; holding [v] (truthy v)) := by
  cases e with
  | UnaryOp o a p => cases o <;> first | (intro _; rfl) | cases h
  | BoolOp _ _ _ => cases h
  | IfExp _ _ _ _ => cases h
  | Compare _ _ _ _ => cases h
  | _ => intro _; rfl
theorem swap_none {e : Expr} {t : Option Expr} {l : Nat} {env : PySem.Env} (h : notComp e = true) : swapsWith e t l env = pure false := by
  cases e <;> first | rfl | cases h
theorem fold_of {e : Expr} {env : PySem.Env} (h : notSet e = true) : ∀ x, foldedSetIterable e env x = pure x := by
  cases e <;> first | (intro _; rfl) | cases h
theorem ix_of {e : Expr} (h : notSlice e = true) : PlainIx e := by
  cases e <;> first | (intro _ _; rfl) | cases h
end Cm

set_option Elab.async false
set_option linter.all false
set_option maxRecDepth 100000
set_option maxHeartbeats 1000000
/-! More expressions and statements: index, sets' sizes, instances made, fields set. -/
namespace Cm
open PySem PySem.Spec PyProof.Rows L2

section
variable {C : Ctx} {X : Cx}
/-! ### .index -/
theorem idxD_spec {P N : Hp} {b c : Bool} {y : D} {u : V} (hy : RepB C P N b y u) (fy : y.fit 0 = true) : ∀ {ds : List D} {xs : List V} {j : Nat}, RepsB C P N c ds xs → D.fits ds 0 = true → idxD y ds = some j →
    ∃ z, xs[j]? = some z ∧ eqV z u = true ∧ ∀ (m : Nat) (z' : V), m < j → xs[m]? = some z' → eqV z' u = false
  | [], _, _, _, _, e => by cases e
  | d :: ds, xs, j, ⟨v, r, ex, h1, h2⟩, f, e => by
    subst ex
    simp only [D.fits, Bool.and_eq_true] at f
    have q := eqV_eqb h1 hy f.1 fy
    unfold idxD at e
    split at e
    · rename_i t
      cases e
      exact ⟨v, rfl, by rw [q]; exact t, fun m _ hm _ => absurd hm (Nat.not_lt_zero m)⟩
    · rename_i t
      cases k : idxD y ds with
      | none => rw [k] at e; cases e
      | some i =>
        rw [k] at e
        cases e
        obtain ⟨z, z1, z2, z3⟩ := idxD_spec hy fy h2 f.2 k
        refine ⟨z, by simpa using z1, z2, fun m z' hm hz => ?_⟩
        cases m with
        | zero =>
          simp at hz
          subst hz
          rw [q]
          simpa using t
        | succ m => exact z3 m z' (Nat.lt_of_succ_lt_succ hm) (by simpa using hz)
abbrev gInxL (go g : List Sl → RE ER) : List Sl → RE ER := fun ρ => (go ρ).bind fun x => match x.d with
    | .lst xs => (g ρ).bind fun y => evInxL xs y.d
    | _ => .bad
abbrev gInxS (go g : List Sl → RE ER) : List Sl → RE ER := fun ρ => (go ρ).bind fun x => match x.d with
    | .str s => (g ρ).bind fun y => evInxS s y.d
    | _ => .bad
theorem inxL_imp {go g : List Sl → RE ER} {σ : L2.St} {H : Hp} {Q : VK} (h : tE C (gInxL go g) σ H Q) : tBM C.G.K "list" (rIndex C.G.K) (tE C go) (tCons (tE C g) tNil) σ H Q := by
  obtain ⟨ρ, P, N, S, h⟩ := h
  refine ⟨ρ, P, N, S, h.bind.mono fun x P1 N1 H1 _ a1 h1 v rv => ?_⟩
  have r1 := (S.adv a1).reg
  split at h1
  · rename_i ds hd
    have w := rv.w r1
    rw [hd] at w
    obtain ⟨p, xs, rfl, z1, z2⟩ := w
    refine ⟨.inl ⟨rfl, xs, z1⟩, ρ, P1, N1, S.adv a1, (res.bind h1).mono fun y P2 N2 H2 _ a2 h2 u ru => ?_⟩
    have r2 := (S.adv (a1.trans a2)).reg
    unfold evInxL at h2
    split at h2
    · rename_i f
      simp only [Bool.and_eq_true] at f
      split at h2
      · rename_i j e
        have wy := ru.w r2
        have ry : RepB C P2 N2 y.b y.d u := by
          cases q : y.d with
          | lst es => rw [q] at f; have := f.1; simp [D.fit] at this
          | _ => rw [q] at wy; exact wy
        have z3 := RepsB.adv a2.pp a2.nn z2
        obtain ⟨z, y1, y2, y3⟩ := idxD_spec ry f.1 z3 f.2 e
        exact ⟨p, xs, u, j, z, rfl, rfl, L2.Same.seq a2.hh z1, fit0_flat (H := H2) ry f.1, fits0_flat (H := H2) z3 f.2, y1, y2, y3, h2.val r2 rfl⟩
      · exact h2.elim
    · exact h2.elim
  · exact h1.elim
theorem pe_inxLD {o a : Expr} {go g : List Sl → RE ER} {apos pos : Pos} (hK : X.K = C.G.K) (ho : PE X o (tE C go)) (ha : PE X a (tE C g)) (hs : notStar a = true) (hbase : attributeBase o "index" X.env (eval o X.env) = eval o X.env) (hline : (apos.endLine == pos.line) = true)
    (hf : ((backTo pos (starEach [a] X.env)).all (fun x => !x.1) && (backToKw pos (keywordEach [] X.env)).all (fun x => x.1.isSome)
      && decide ([a].length + ([] : List Keyword).length + (if ([] : List Keyword).isEmpty then 0 else 1) < 30)) = true) :
    PE X (.Call (.Attribute o "index" apos) [a] [] pos) (tE C (gInxL go g)) :=
  pe_mono (pe_bm PySem.F.plainAttrs_list PySem.F.slot_list_index PySem.F.type_list_index mt_index ho (pa_cons ha pa_nil (star_cons hs)) hbase hf hline (star_cons hs) rfl) fun σ H Q q => by rw [hK]; exact inxL_imp q
theorem inxS_imp {go g : List Sl → RE ER} {σ : L2.St} {H : Hp} {Q : VK} (h : tE C (gInxS go g) σ H Q) : tM1 (fun x xs H Q => ∃ a b i rest, x = .str a ∧ xs = [.str b] ∧ Builtin.Str.occurrences a b 0 a.length 1 = i :: rest ∧ Q (.int (i : Nat)) H) (tE C go) (tE C g) σ H Q := by
  obtain ⟨ρ, P, N, S, h⟩ := h
  refine ⟨ρ, P, N, S, h.bind.mono fun x P1 N1 H1 _ a1 h1 v rv => ?_⟩
  have r1 := (S.adv a1).reg
  split at h1
  · rename_i s q
    have w := rv.w r1
    rw [q] at w
    cases w.str
    refine ⟨⟨_, rfl⟩, ρ, P1, N1, S.adv a1, (res.bind h1).mono fun y P2 N2 H2 _ a2 h2 u ru => ?_⟩
    have r2 := (S.adv (a1.trans a2)).reg
    have w2 := ru.w r2
    unfold evInxS at h2
    split at h2
    · rename_i t q2
      rw [q2] at w2
      cases w2.str
      split at h2
      · rename_i j rest e
        exact ⟨strOf s, strOf t, j, rest, rfl, rfl, by rw [show (strOf s).length = s.length from str_len s]; exact e, h2.val r2 rfl⟩
      · exact h2.elim
    · exact h2.elim
  · exact h1.elim
theorem pe_inxSD {o a : Expr} {go g : List Sl → RE ER} {apos pos : Pos} (ho : PE X o (tE C go)) (ha : PE X a (tE C g)) (hs : notStar a = true) (hbase : attributeBase o "index" X.env (eval o X.env) = eval o X.env) (hline : (apos.endLine == pos.line) = true) :
    PE X (.Call (.Attribute o "index" apos) [a] [] pos) (tE C (gInxS go g)) :=
  pe_mono (pe_m1 PySem.F.slot_str_index PySem.F.type_str_index mt_sindex ho ha (star_cons hs) hbase hline) fun σ H Q q => inxS_imp q
/-! ### len(set(..)) -/
theorem pe_lsetD {a : Expr} {g : List Sl → RE ER} {p p2 q pos : Pos} (hK : X.K = C.G.K) (hc : X.calm = true) (hg : Gl X "len") (hm : X.mg "len" = none) (hg2 : Gl X "set") (hm2 : X.mg "set" = none) (ha : PE X a (tE C g))
    (na : notStar a = true) : PE X (.Call (.Name "len" p) [.Call (.Name "set" p2) [a] [] q] [] pos) (tE C fun ρ => (g ρ).bind fun x => evLset x.d) := by
  have na := star_cons (es := []) (env := X.env) na
  refine ⟨fun pins s σ H Q I h => Call_ (ld_blt I hg hm PySem.boot_len (PyProof.Rows.callWith_builtin1 (PyProof.Rows.args_cons ?_ rfl) rfl rfl))⟩
  refine Call_ (ld_blt I hg2 hm2 PyProof.Rows.boot_set (PyProof.Rows.callWith_type1 (PyProof.Rows.args_cons ?_ na) na rfl))
  have body : tE C g σ H fun x H1 => ∃ (l : Addr) (ns : List Int), x = V.ref l ∧ SqL X.K H1 l (ns.map V.int) ∧ ns.length ≤ 1000 ∧ Q (.int (cntI ns)) H1 := by
    obtain ⟨ρ, P, N, S, h⟩ := h
    refine ⟨ρ, P, N, S, h.bind.mono fun x P1 N1 H1 _ a1 h1 v rv => ?_⟩
    have r1 := (S.adv a1).reg
    unfold evLset at h1
    split at h1
    · rename_i ds hd
      split at h1
      · rename_i ns hn
        have w := rv.w r1
        rw [hd] at w
        obtain ⟨l, xs, rfl, z1, z2⟩ := w
        rw [gd_if] at h1
        split at h1
        · rename_i hl
          rw [Nat.ble_eq] at hl
          exact ⟨l, ns, rfl, by rw [hK, ← reps_ints hn z2]; exact z1, hl, h1.val r1 rfl⟩
        · exact h1.elim
      · exact h1.elim
    · exact h1.elim
  refine thn (ha.run pins s σ H _ I body) fun v s1 ⟨x, H1, I1, r1, q1⟩ => PyProof.Rows.args_nil ?_
  obtain ⟨l, ns, rfl, hq, hl, q1⟩ := q1
  cases r1
  obtain ⟨its, r, pl, _⟩ := I1.list hq
  have hz : its.toArray.size = ns.length := by rw [List.size_toArray, ← r.length, List.length_map]
  refine call_set_list (I1.ok.hd hc) pl.isList (ns := ns) (by simpa using r.ints) (by unfold scanBound; omega) fun h' tk hS hk => PyProof.Rows.args_nil ?_
  rw [hz] at hS
  obtain ⟨o, es, ep, t, ho, hex, hd, _, _, _, hf, hn⟩ := hS
  have I2 : Inv X pins σ H1 { s1 with heap := h', toks := tk } := I1.kept fun b o e => hk b o (Heap.lt_size e) e
  have le : cntI ns ≤ ns.length := PyProof.Rows.firstMet_length_le (fun i => ns.getD i 0) ns.length
  have hn' : es.size = cntI ns := hn
  exact call_len_set ho hex hd hf (by rw [hn']; omega) ⟨.int (cntI ns), H1, I2.tok _, ⟨_, by rw [hn']⟩, q1⟩
/-! ### an item taken out of a list put behind another one -/
theorem ixN_seq {n : Nat} {k : Int} {m : Nat} (h : ixN n k = some m) (hn : n ≤ 16777216) : seqIndex? k n = some m ∧ -(2 ^ 63) ≤ k ∧ k < 2 ^ 63 := by
  unfold ixN at h
  unfold seqIndex?
  split at h
  · rename_i h0
    split at h
    · rename_i h1
      cases h
      have e : ¬ k < 0 := by omega
      refine ⟨?_, by omega, by omega⟩
      simp only [e, if_false]
      rw [if_pos (by simp; omega)]
    · cases h
  · rename_i h0
    split at h
    · rename_i h1
      cases h
      have e : k < 0 := by omega
      refine ⟨?_, by omega, by omega⟩
      simp only [e, if_true]
      rw [if_pos (by simp; omega)]
    · cases h
theorem apop_imp {i j : Nat} {g : List Sl → RE ER} {D : Ends} {σ : L2.St} {H : Hp} {K : PySem.W.Frag} (q : tS C (fun ρ => if i = j then .bad else ownAt ρ i fun ds c => ownAt ρ j fun es c2 => (g ρ).out fun k => match k.d with
    | .int k => match ixN es.length k with
      | some m => match es[m]? with
        | some d => gdO (leB es.length) (gdO (leB (ds.length + 1)) (.nx ((ρ.set j (.own (es.eraseIdx m) c2)).set i (.own (ds ++ [d]) (c2 && c)))))
        | none => .bad
      | none => .bad
    | _ => .bad) D σ H) :
    tDrop (tBM K "list" rAppend (tVar i) (tCons (tBM K "list" rPopAt (tVar j) (tCons (tE C g) tNil)) tNil)) D σ H := by
  obtain ⟨ρ, P, N, S, h⟩ := q
  split at h
  · exact h.elim
  rename_i hij
  obtain ⟨ds, c, e, o⟩ := ownAt_of h
  obtain ⟨es, c2, e2, o⟩ := ownAt_of o
  obtain ⟨p, xs, z1, z2, z3, z4, z5, z6⟩ := S.root e
  obtain ⟨p2, xs2, y1, y2, y3, y4, y5, y6⟩ := S.root e2
  refine ⟨_, z1, .inl ⟨rfl, xs, .inl (.inl z2)⟩, _, y1, .inl ⟨rfl, xs2, .inl (.inl y2)⟩, ρ, P, N, S, (o.res S.reg).mono fun k P1 N1 H1 _ a1 h1 v rv => ?_⟩
  have S1 := S.adv a1
  split at h1
  · rename_i k' ek
    have w := rv.w S1.reg
    rw [ek] at w
    cases w.int
    split at h1
    · rename_i m em
      split at h1
      · rename_i d ed
        simp only [gdO_if, leB_iff] at h1
        split at h1
        case isFalse => exact h1.elim
        rename_i le2
        split at h1
        · rename_i hl
          have r2 := RepsB.adv a1.pp a1.nn y6
          have r1 := RepsB.adv a1.pp a1.nn z6
          obtain ⟨w, w1, w2⟩ := r2.get ed
          have hne : p ≠ p2 := fun z => hij (S.ap i j p ds c es c2 e e2 z1 (by rw [z]; exact y1))
          have le2 : xs2.length ≤ 16777216 := by rw [y6.length]; exact le2
          rw [← y6.length] at em
          obtain ⟨b1, b2, b3⟩ := ixN_seq em le2
          refine ⟨p2, xs2, k', m, w, rfl, rfl, a1.hh _ _ y2, b2, b3, b1, w1, ?_⟩
          have Sw := S1.write e2 y1 (b' := c2) (xs' := xs2.eraseIdx m) (Reps.eraseIdx m r2)
          have e' : (ρ.set j (.own (es.eraseIdx m) c2))[i]? = some (.own ds c) := by rw [List.getElem?_set_ne (fun z => hij z.symm)]; exact e
          have Sw2 := Sw.write e' z1 (b' := c2 && c) (xs' := xs ++ [w]) (Reps.append (RepsB.and2 r1) (Reps.one (RepB.and1 w2)))
          refine ⟨p, xs, w, rfl, rfl, by rw [upd_ne hne]; exact a1.hh _ _ z2, by rw [z6.length]; exact hl, h1 _ P1 N1 _ Sw2 a1.pp a1.nn⟩
        · exact h1.elim
      · exact h1.elim
    · exact h1.elim
  · exact h1.elim
/-! ### an instance under way -/
theorem sfd_imp {i : Nat} {f : Str} {fi : Nat → Option Nat} {σ : L2.St} {H : Hp} {Q : VK} (hf : ∀ c k, fi c = some k → FdOk C X f c k) (h : tE C (fun ρ => match ρ[i]? with
    | some (.slf c fs) => match fi c with
      | some k => match fs[k]? with
        | some d => .ok (.val d true)
        | none => .bad
      | none => .bad
    | _ => .bad) σ H Q) : tFld X.K (tVar i) f σ H Q := by
  obtain ⟨ρ, P, N, S, h⟩ := h
  dsimp only at h
  split at h
  · rename_i c fs e
    split at h
    · rename_i k ek
      split at h
      · rename_i d ed
        obtain ⟨o, z1, p, dx, xs, ⟨ep, rfl⟩, z2, z3, z4, z5, z6, z7⟩ := S.sl i _ e
        obtain ⟨c1, c2, c3, c4⟩ := hf _ _ ek
        obtain ⟨u, q4, q5⟩ := Reps.get z7 ed
        exact ⟨_, z1, p, _, dx, _, u, rfl, z2, c1, c2, zip_lookup c4 c3 q4, h.val S.reg q5⟩
      · exact h.elim
    · exact h.elim
  · exact h.elim
theorem putF_zip {f : Str} {v : V} : ∀ {l : List Str} {xs : List V}, l[xs.length]? = some f → f ∉ l.take xs.length → putF f v (l.zip xs) = l.zip (xs ++ [v])
  | [], _, h, _ => by simp at h
  | g :: l, [], h, _ => by
    simp at h
    subst h
    simp [putF]
  | g :: l, x :: xs, h, hn => by
    simp only [List.length_cons, List.take_succ_cons, List.mem_cons, not_or] at hn
    simp only [List.zip_cons_cons, List.cons_append, putF]
    rw [if_neg (fun e => hn.1 e.symm), putF_zip (by simpa using h) hn.2]
theorem nodup_take {f : Str} : ∀ {l : List Str} {k : Nat}, l.Nodup → l[k]? = some f → f ∉ l.take k
  | [], _, _, h => by simp at h
  | g :: l, 0, _, _ => by simp
  | g :: l, k + 1, hn, h => by
    simp only [List.nodup_cons] at hn
    simp only [List.take_succ_cons, List.mem_cons, not_or]
    have h' : l[k]? = some f := by simpa using h
    exact ⟨fun e => hn.1 (e ▸ List.mem_of_getElem? h'), nodup_take hn.2 h'⟩
theorem noSlf_get : ∀ {ρ : List Sl} {j c : Nat} {fs : List Cm.D}, noSlf ρ = true → ρ[j]? ≠ some (.slf c fs)
  | [], j, c, fs, _, e => by simp at e
  | s :: ρ, 0, c, fs, h, e => by
    simp at e
    subst e
    cases h
  | s :: ρ, j + 1, c, fs, h, e => by
    refine noSlf_get (ρ := ρ) (j := j) (c := c) (fs := fs) ?_ (by simpa using e)
    cases s <;> first | exact h | cases h
theorem ERr.heldF {P1 N1 H0 P N H : Hp} {er : ER} {v : V} {f : Cm.D → Out} {D : Ends} (a : Adv P1 N1 H0 P N H) (h : ERr C P N H H0 er v) (o : outS C P1 N1 D (heldF er f)) : ∃ N2 d, Adv P1 N1 H0 P N2 H ∧ RepB C P N2 true d v ∧ outS C P1 N1 D (f d) := by
  cases er with
  | brw ds b => exact o.elim
  | val d b =>
    simp only [Cm.heldF, gdO_if] at o
    split at o
    · rename_i z
      exact ⟨N, d, a, by have := RepB.nf (C := C) h; rw [z] at this; exact this, o⟩
    · exact o.elim
  | fre ds b =>
    simp only [Cm.heldF, gdO_if] at o
    split at o
    · rename_i z
      obtain ⟨p, xs, rfl, h1, h2, h3, h4, h5⟩ := h
      have sn : L2.Same N (upd N p (.lst xs)) := same_upd h4
      refine ⟨upd N p (.lst xs), .lst ds, a.holdN h2 h1 h4, ⟨p, xs, rfl, .inr (.inl (.inl (.inl upd_same))), ?_⟩, o⟩
      have h6 := RepsB.adv (C := C) (L2.Same.refl P) sn h5
      cases b with
      | true => exact h6
      | false => exact Reps.flat _ _ (by simpa using z) h6
    · exact o.elim
theorem fset_imp {f : Str} {fi : Nat → Option Nat} {g : List Sl → RE ER} {D : Ends} {σ : L2.St} {H : Hp} (hf : ∀ c k, fi c = some k → FdOk C X f c k) (q : tS C (fun ρ => (g ρ).out fun x => heldF x fun d => slfAt ρ fun c fs r => match fi c with
    | some k => if k = fs.length then gdO (Nat.ble k 900) (.nx (.slf c (fs ++ [d]) :: r)) else .bad
    | none => .bad) D σ H) : sFld X.K (tVar 0) (tE C g) f D σ H := by
  obtain ⟨ρ, P, N, S, h⟩ := q
  refine ⟨ρ, P, N, S, (h.res S.reg).mono fun x P1 N1 H1 _ a1 h1 v rv => ?_⟩
  obtain ⟨N2, d, a2, r2, o⟩ := ERr.heldF a1 rv h1
  have S2 := S.adv a2
  unfold slfAt at o
  split at o
  · rename_i c fs r zz
    split at o
    · rename_i hn
      dsimp only at o
      split at o
      · rename_i k ek
        split at o
        · rename_i hk
          rw [gdO_if] at o
          split at o
          case isFalse => exact o.elim
          rename_i hk9
          rw [Nat.ble_eq] at hk9
          obtain ⟨o', z1, p, dx, xs, ⟨ep, rfl⟩, z2, z3, z4, z5, z6, z7⟩ := S2.sl 0 _ rfl
          obtain ⟨c1, c2, c3, c4⟩ := hf _ _ ek
          have lx : xs.length = fs.length := z7.length
          have lf : (C.G.fl c)[xs.length]? = some f := by rw [lx, ← hk]; exact c3
          have lt : fs.length < (C.G.fl c).length := by
            have := (List.getElem?_eq_some_iff.mp lf).1
            omega
          have few : ((C.G.fl c).zip xs).length < 1000 := by
            rw [List.length_zip]; omega
          refine ⟨_, z1, p, _, dx, _, rfl, z2, c1, c2, few, ?_⟩
          rw [putF_zip lf (nodup_take c4 lf)]
          refine o _ P1 N2 _ ⟨⟨same_off S2.reg.pH z3, same_off S2.reg.nH z4, same_off S2.reg.bH z5, S2.reg.rB, S2.reg.p0, S2.reg.pn, S2.reg.nw⟩, by simpa using S2.len, fun j s ej => ?_, fun j l r ds1 c es c' e1 e2 e3 e4 => ?_⟩ a2.pp a2.nn
          · cases j with
            | zero =>
              simp at ej
              subst ej
              exact ⟨_, z1, p, dx, xs ++ [v], ⟨ep, rfl⟩, upd_same, z3, z4, z5, by simp only [List.length_append, List.length_cons, List.length_nil]; omega, Reps.append z7 (Reps.one r2)⟩
            | succ j =>
              have ej' : r[j]? = some s := by simpa using ej
              obtain ⟨o, y1, y2⟩ := S2.sl (j + 1) s (by simpa using ej')
              refine ⟨o, y1, ?_⟩
              cases s with
              | non => trivial
              | val d b => exact y2
              | own es c =>
                obtain ⟨q, ys, y3, y4, y5⟩ := y2
                have hr : q ≠ p := fun er => by rw [er, z2] at y4; cases y4
                exact ⟨q, ys, y3, by rw [upd_ne hr]; exact y4, y5⟩
              | slf c fs => exact absurd ej' (noSlf_get hn)
          · cases j with
            | zero => simp at e1
            | succ j =>
              cases l with
              | zero => simp at e2
              | succ l => exact S2.ap (j + 1) (l + 1) r ds1 c es c' (by simpa using e1) (by simpa using e2) e3 e4
        · exact o.elim
      · exact o.elim
    · exact o.elim
  · exact o.elim
/-! ### an instance made -/
/-- values handed in, by whatever lists stand -/
theorem ers_all {P N H H0 : Hp} (r : Reg C P N H) : ∀ {es : List ER} {vs : List V}, ERs C P N H H0 es vs → Reps C.G P (SqL C.G.K H) (es.map ER.d) vs
  | [], _, h => by cases h; rfl
  | e :: es, _, ⟨v, u, ex, h1, h2⟩ => by
    subst ex
    refine ⟨v, u, rfl, ?_, ers_all r h2⟩
    have w := h1.w r
    have mm := fun a xs => LNb.seq (K := C.G.K) (b := e.b) r.pH r.nH r.rH a xs
    cases q : e.d with
    | lst ds =>
      rw [q] at w
      obtain ⟨p, xs, rfl, h3, h4⟩ := w
      exact ⟨p, xs, rfl, h3, Reps.mono (L2.Same.refl _) _ _ mm h4⟩
    | non => rw [q] at w; exact Rep.mono (L2.Same.refl _) _ _ mm w
    | bl _ => rw [q] at w; exact Rep.mono (L2.Same.refl _) _ _ mm w
    | int _ => rw [q] at w; exact Rep.mono (L2.Same.refl _) _ _ mm w
    | str _ => rw [q] at w; exact Rep.mono (L2.Same.refl _) _ _ mm w
    | tup _ => rw [q] at w; exact Rep.mono (L2.Same.refl _) _ _ mm w
    | ins _ _ => rw [q] at w; exact Rep.mono (L2.Same.refl _) _ _ mm w
    | exc _ _ => rw [q] at w; exact Rep.mono (L2.Same.refl _) _ _ mm w
theorem new_imp {P N H H0 : Hp} {σ : L2.St} {c n : Nat} {g : List Cm.D → RE (List Cm.D)} {Q : VK} {es : List ER} {vs : List V} (r : Reg C P N H) (hv : ERs C P N H H0 es vs) (hn : es.length = n)
    (h : res C σ P N H ((g (es.map ER.d)).bind fun fs => .ok (.val (.ins c fs) true)) (kE C H0 Q)) : ∀ x dx, H x = none → H dx = none → dx ≠ x →
    spI C.G c n g (.ref x :: vs) (upd (upd H dx (.own x)) x (.ins (C.G.ca c) dx [])) (fun v H2 => v = .non ∧ Q (.ref x) H2) (fun cls d H' => C.W cls d σ H') := by
  intro x dx hx hdx _
  refine ⟨x, dx, H, P, H, es.map ER.d, vs, rfl, rfl, hx, hdx, r.pH, L2.Same.refl _, ers_all r hv, by rw [List.length_map, hn], ?_⟩
  cases e : g (es.map ER.d) with
  | bad => rw [e] at h; exact h.elim
  | ok fs =>
    rw [e] at h
    intro H' P' hh pp pH pn hr
    exact ⟨rfl, h P' N H' ⟨hh, pp, L2.Same.refl _, pH, r.nH.trans hh, pn, fun _ q => .inl q⟩ _ hr⟩
  | exc c' fs =>
    rw [e] at h
    intro d H' P' N' ad hx
    refine h d _ _ _ (ad.back r.nH) ?_
    have mono : ∀ a xs, LNb C.G.K P' N' H true a xs → LNb C.G.K P' (un2 N N' H') C.R true a xs := fun a xs q => by
      rcases q with q | q | ⟨hb, q⟩
      · exact .inl q
      · exact .inr (.inl (L2.Same.seq (un2_r ad.nH) q))
      · cases hb
    rcases hx with hx | ⟨dd, f, v, h1, h2, h3, h4⟩
    · exact .inl hx
    · exact .inr ⟨dd, f, v, h1, h2, h3, Rep.mono (L2.Same.refl _) _ _ mono h4⟩
theorem run_makeW {k : Nat} {f K0 : Addr} {fd : FuncData} {ps : List Str} {sp : Sp} {W : WX} {pins : List (Addr × Obj)} {σ : L2.St} {H : Hp} {s : Shared} {Q : VK} {us : List Value} {vs : List V} (M : Mk X.K K0 f) (F : FnOk X.prog X.w X.K X.mg X.base (L2.CX X.prog X.w) k f fd ps sp) (hr : Room (k + 1) X.A) (hb : Binds X.K fd ps [])
    (tk : Takes X W) (I : Inv X pins σ H s) (r : Vals vs us)
    (h : ∀ x dx, H x = none → H dx = none → dx ≠ x → sp (.ref x :: vs) (upd (upd H dx (.own x)) x (.ins K0 dx [])) (fun v H2 => v = .non ∧ Q (.ref x) H2) (fun cls d H' => W cls d σ H')) :
    wpAny (model X.prog X.w) X.A (call (.ref K0) us) (EP X pins σ Q) X.xe s := by
  have lt := Nat.lt_succ_self s.heap.objs.size
  have hq := h _ _ (I.hok.fresh (Nat.le_of_lt lt)) (I.hok.fresh (Nat.le_refl _)) (Nat.ne_of_lt lt)
  have J := Inv.made (C := K0) I
  have rr : Vals (V.ref (s.heap.objs.size + 1) :: vs) (Value.ref (s.heap.objs.size + 1) :: us) := .cons rfl r
  have hl : (Value.ref (s.heap.objs.size + 1) :: us).length = ps.length := by
    rw [← rr.length]
    exact F.len _ _ _ _ hq
  have hb' := hb _ (Value.ref (s.heap.objs.size + 1) :: us) J.kIn (by rw [List.append_nil]; exact hl)
  rw [List.append_nil] at hb'
  refine wpAny_call (make_map (f := f) I.kIn M.makes M.init (beq_iff_eq.mp M.fn) (codeAny_mono (F.run _ X.stack _ _ ⟨Value.ref (s.heap.objs.size + 1) :: us, []⟩ _ _ _ _ (hr.make K0 us []) (J.env0.make K0 us []) hb' rr hq) fun res s' hq' => ?_))
  cases res with
  | error e => exact tk e s' (XE.of_call J (fun cls d H' q => q) hq')
  | ok fl =>
    cases fl with
    | ret u =>
      obtain ⟨v, H', J2, rv, ev, q3⟩ := J.after hq'
      subst ev
      exact ⟨rv, V.ref _, H', J2, rfl, q3⟩
    | next => exact False.elim hq'
    | brk => exact False.elim hq'
    | cont => exact False.elim hq'
/-- a class that is made by an __init__ -/
structure NwOk (C : Ctx) (X : Cx) (x : Str) (c n : Nat) (g : List Cm.D → RE (List Cm.D)) : Prop where
  ex : ∃ k f fd ps, Mk X.K (C.G.ca c) f ∧ FnOk X.prog X.w X.K X.mg X.base (L2.CX X.prog X.w) k f fd ps (spI C.G c n g) ∧ Room (k + 1) X.A ∧ X.mg x = some (.ref (C.G.ca c)) ∧ Binds X.K fd ps []
theorem pe_newD {x : Str} {c n : Nat} {g' : List Cm.D → RE (List Cm.D)} {g : List Sl → RE (List ER)} {es : List Expr} {p pos : Pos} (nw : NwOk C X x c n g') (hg : Gl X x)
    (tk : Takes X C.W) (ha : PA X es (tA C g)) (hdb : (x == ("__debug__" : Str)) = false) (hs : Plain X es) (hl : ∀ ρ r, g ρ = .ok r → r.length = n) (h0 : es = [] → ∀ ρ, g ρ = .ok []) :
    PE X (.Call (.Name x p) es [] pos) (tE C fun ρ => (g ρ).bind fun r => (g' (r.map ER.d)).bind fun fs => .ok (.val (.ins c fs) true)) := by
  obtain ⟨k, f, fd, ps, M, F, hr, hm, hb⟩ := nw.ex
  have body : PE X (.Call (.Name x p) es [] pos) (fun σ H Q => tA C g σ H fun vs H1 => ∀ x dx, H1 x = none → H1 dx = none → dx ≠ x →
      spI C.G c n g' (.ref x :: vs) (upd (upd H1 dx (.own x)) x (.ins (C.G.ca c) dx [])) (fun v H2 => v = .non ∧ Q (.ref x) H2) (fun cls d H' => C.W cls d σ H')) := by
    cases es with
    | nil =>
      refine ⟨fun pins s σ H Q I h => wpAny_Call_Name_kw (ld_glob I hg hm ?_ hdb)⟩
      refine PySem.W.callWith_K0 I.kIn M.kp ?_
      obtain ⟨ρ, P, N, S, h⟩ := h
      rw [h0 rfl ρ] at h
      exact run_makeW (us := []) M F hr hb tk I .nil (h.now S.reg [] rfl)
    | cons e es =>
      refine ⟨fun pins s σ H Q I h => wpAny_Call_Name_kw (ld_glob I hg hm ?_ hdb)⟩
      refine PySem.W.callWith_K (h₀ := X.base) I.ok.mod.kin M.kp (thn (ha.run pos pins s σ H _ I h) fun us s1 ⟨vs, H1, I1, r, q⟩ => ⟨I1.kIn, ?_⟩) (hs.1 _ _ rfl) (hs.2 _ _ _ rfl)
      exact run_makeW M F hr hb tk I1 r q
  refine pe_mono body fun σ H Q q => ?_
  obtain ⟨ρ, P, N, S, h⟩ := q
  exact ⟨ρ, P, N, S, h.bind.mono fun r P1 N1 H1 e a1 h1 vs rv => new_imp (S.adv a1).reg rv (hl _ _ e) h1⟩
end
end Cm

set_option Elab.async false
set_option linter.all false
set_option maxRecDepth 100000
set_option maxHeartbeats 2000000
/-! Exceptions: an error caught and kept, isinstance of it. -/
namespace Cm
open PySem PySem.Spec PyProof.Rows L2

/-- what the clause 'except x as n_i: n_j = n_i' wishes of an exception of the body: the error is kept -/
def wK (K : PySem.W.Frag) (c : Value) (i j : Nat) (Wout : WX) (D : Ends) : WX := fun cls d σ H =>
  ∃ b, PySem.W.exmOne K cls c = some b ∧ (b = true → d = none ∧ ∀ a, H a = none → D.nx ((σ.set j (some (.ref a))).set i none) (upd H a (exK cls a))) ∧ (b = false → Wout cls d σ H)
section
variable {X : Cx} {pins : List (Addr × Obj)} {σ : L2.St} {H : Hp} {s : Shared}
/-- a pinned object is tracked from now on -/
theorem inv_track {a : Addr} {oe : Obj} {o : HO} (I : Inv X ((a, oe) :: pins) σ H s) (hn : H a = none) (h0 : X.s_0.heap.get? a = none) (hp : ∀ p ∈ X.pn ++ pins, p.1 ≠ a) (hc : ∀ x c, X.env.cells.lookup x = some c → c ≠ a) (new : ObjOk X.prog X.w (upd H a o) s.heap a o) : Inv X pins σ (upd H a o) s where
  ok := I.ok
  os := I.os
  bare := I.bare
  base := by
    have b := I.base
    refine ⟨fun x o' e n hb hx => b.keep x o' e n hb hx, fun x o' e n hb hx => b.slot x o' e n hb hx, fun x o' e n hx => ?_, fun x o' e hx => b.there x o' e hx, fun x xs q => ?_, fun x u xs q => ?_, fun x ps q => ?_⟩
    · rw [upd_ne (fun z => by rw [z, h0] at e; cases e)]; exact b.free x o' e n hx
    · have z := b.tups x xs q; rw [upd_ne (ne_of_none z hn)]; exact z
    · have z := b.frzs x u xs q; rw [upd_ne (ne_of_none z hn)]; exact z
    · obtain ⟨m, z⟩ := b.tbls x ps q; exact ⟨m, by rw [upd_ne (ne_of_none z hn)]; exact z⟩
  loc := I.loc
  cell := I.cell
  free := by
    have hL : X.env.locals ≠ a := fun z => by
      obtain ⟨_, _, ne, _, _⟩ := I.pin (a, oe) (List.mem_append.mpr (.inr List.mem_cons_self))
      exact ne z.symm
    rw [upd_ne hL]; exact I.free
  freeC := fun x c e => by rw [upd_ne (hc x c e)]; exact I.freeC x c e
  pin := fun p hp' => by
    obtain ⟨e, n, ne, nf, d⟩ := I.pin p (by
      rcases List.mem_append.mp hp' with z | z
      · exact List.mem_append.mpr (.inl z)
      · exact List.mem_append.mpr (.inr (List.mem_cons_of_mem _ z)))
    exact ⟨e, by rw [upd_ne (hp p hp')]; exact n, ne, nf, d⟩
  hok := HOk.laidN (h := s.heap) I.hok (fun _ _ q => q) hn new
  len := I.len
end
section
variable {X : Cx} {x n m : Str} {c : Value} {i j : Nat} {body : List Stmt} {np p1 p2 pa pos pos' : Pos} {tb : WX → TS} {Wout : WX}
theorem ps_tryK (hs : X.stack = X.env :: X.outer) (hf : X.env.frame = some X.env.locals) (hex : X.ex = []) (hN : X.N.Nodup) (hi : X.N[i]? = some n) (hj : X.N[j]? = some m) (hln : X.env.kindOf n = some .local) (hlm : X.env.kindOf m = some .local) (hd : (n == ("__debug__" : Str)) = false ∧ (n == ("__classdict__" : Str)) = false)
    (hc : Names X x c) (tk : Takes X Wout) (hij : i ≠ j)
    (hb : ∀ (W : WX) (pn : List (Addr × Obj)) (xe : Value → Shared → Prop), Takes (X.tr pn xe) W → PassesOwn (model X.prog X.w) X.A X.env xe → PSs (X.tr pn xe) body (tb W)) :
    PS X (.Try body [.ExceptHandler (some (.Name x np)) (some n) [.Assign [.Name m p1] (.Name n p2) pa] pos'] [] [] pos) (fun D σ H => tb (wK X.K c i j Wout D) D σ H) := by
  refine ⟨fun pins s σ H D I h => ?_⟩
  have ok := I.ok
  have hfr : X.A.frames = some (X.env :: X.outer) := by rw [ok.frames, hs]
  have hloc : Loc X.env.scope n := .inl hln
  refine wpAny_Try_except ?_
  refine wpAny_mono ((hb (wK X.K c i j Wout D) (X.pn ++ pins) (fun e s₁ => wpAny (model X.prog X.w) X.A (noteFrame e X.env) (fun _ s₂ => wpAny (model X.prog X.w) X.A (setFlight e none) (fun _ s₃ =>
    wpAny (model X.prog X.w) X.A (handleBy e X.env [.ExceptHandler (some (.Name x np)) (some n) [.Assign [.Name m p1] (.Name n p2) pa] pos']) (SP X pins D) X.xe s₃) X.xe s₂) X.xe s₁) (fun u s' xx => ?_) PassesOwn.looking).run [] s σ H D (I.toTry _) h) (fun f s1 hsp => ?_) (fun e s1 he => he)
  · -- the catch
    obtain ⟨a, B, sI, pins', σ', H', cls, d, rfl, J', nb, up, sky, na, os, ag, b, hb1, hyes, hno⟩ := xx
    have J : Inv X pins σ' H' sI := J'.ofTry ok
    have sky' : Sky B (X.env :: X.outer) a (Zc cls d) X.env.locals s'.heap := by rw [← hs]; exact sky
    show wpAny (model X.prog X.w) X.A (noteFrame (.ref a) X.env) _ _ _
    refine Sky.land Zc.steady hfr hf sky' fun h3 fl3 up3 => ?_
    have J3 : Inv X pins σ' H' { s' with heap := h3 } := J.landed nb fl3.1 (up.trans up3) os ag
    obtain ⟨oe3, vs3, he3, hz3, hd3⟩ := fl3.there
    have notFr : ∀ {h : Heap} {o : Obj} {vs : Array Value}, h.FunFrames B (X.env :: X.outer) → h.get? a = some o → o.data = .fields vs → a ∉ frs (X.env :: X.outer) := fun {h o vs} ff e dd hm => by
      obtain ⟨_, o', e', hnf⟩ := ff.mem hm
      rw [e] at e'; cases e'
      exact hnf _ dd
    have nfr := notFr fl3.2.2.1 he3 hd3
    have nL : a ≠ X.env.locals := fun z => nfr (List.mem_filterMap.mpr ⟨X.env, List.mem_cons_self, by rw [hf, z]⟩)
    have nF : a ∉ X.fs := fun hm => by
      obtain ⟨e, he, q⟩ := List.mem_filterMap.mp hm
      exact nfr (List.mem_filterMap.mpr ⟨e, List.mem_cons_of_mem _ he, q⟩)
    -- it is new
    have nfr' : a ∉ frs X.stack := by rw [hs]; exact nfr
    have aI : ∀ o, sI.heap.get? a ≠ some o := fun o e => by
      have z := nb a o e nfr'
      rw [fl3.2.1] at z
      cases z
    have n0 : X.s_0.heap.get? a = none := by
      cases e : X.s_0.heap.get? a with
      | none => rfl
      | some o =>
        obtain ⟨o', e'⟩ := J.base.there a o e (by
          intro z
          first
            | exact nF z
            | (rw [hex] at z; cases z)
            | (rcases List.mem_append.mp z with z | z
               · exact nF z
               · rw [hex] at z; cases z))
        exact absurd e' (aI o')
    have np' : ∀ p ∈ X.pn ++ pins, p.1 ≠ a := fun p hp z => by
      obtain ⟨e, _⟩ := J.pin p hp
      rw [z] at e
      exact aI _ e
    have nc' : ∀ x c, X.env.cells.lookup x = some c → c ≠ a := fun x c e z => by
      obtain ⟨v, o, ho, _⟩ := J.cell x c e
      rw [z] at ho
      exact aI _ ho
    have S3 := J3.suite he3 hd3 na nL nF
    refine wpAny_handleBy_cons (codeAny_handlers_test ?_) (by intro q; cases q)
    have LT : PySem.W.Looks (model X.prog X.w) h3 (typeOf (.ref a)) cls := fun A Q E s k q => wpAny_typeOf_ref (k _ _ he3) (by rw [hz3.1]; exact q)
    have LM := PySem.W.exm_one (M := model X.prog X.w) (J3.kIn) LT hb1
    have test : ∀ {Q : Value → Shared → Prop} {E : Value → Shared → Prop}, Q c { s' with heap := h3 } → wpAny (model X.prog X.w) (X.A.mark (some (.ref a))) (eval (.Name x np) X.env) Q E { s' with heap := h3 } := fun {Q E} q => by
      obtain ⟨hg, hdbg, hm | ⟨hm, hv, hnn⟩⟩ := hc
      · exact ld_glob (X := X.suite a ((a, oe3) :: (X.pn ++ pins))) S3 hg hm q hdbg
      · exact ld_blt (X := X.suite a ((a, oe3) :: (X.pn ++ pins))) S3 hg hm hv q hnn hdbg
    refine test (LM.here ?_)
    cases b with
    | true =>
      refine codeAny_handlers_suite_as ?_
      refine HandSPX.lands_againZ fl3 fun h4 fl4 up4 => ?_
      have J4 : Inv X pins σ' H' { s' with heap := h4 } := J.landed nb fl4.1 ((up.trans up3).trans up4) os ag
      obtain ⟨oe4, vs4, he4, hz4, hd4⟩ := fl4.there
      have S4 := J4.suite he4 hd4 na nL nF
      refine store_ok (X := X.suite a ((a, oe4) :: (X.pn ++ pins))) (v := .ref a) S4 hN hi hloc rfl (fun s5 S5 => ?_) (.inr hln)
      have ts : PSs (X.suite a ((a, oe4) :: (X.pn ++ pins))) [.Assign [.Name m p1] (.Name n p2) pa] _ :=
        pss_cons (ps_set (X := X.suite a ((a, oe4) :: (X.pn ++ pins))) hN hj (.inl hlm) (pe_var (X := X.suite a ((a, oe4) :: (X.pn ++ pins))) hi (.inl hln) hd.1 hd.2) rfl (.inr hlm)) pss_nil
      have hil : i < σ'.length := by
        rw [J.len]
        exact (List.getElem?_eq_some_iff.mp hi).1
      have hjl : j < σ'.length := by
        rw [J.len]
        exact (List.getElem?_eq_some_iff.mp hj).1
      obtain ⟨hdn, hy2⟩ := hyes rfl
      subst hdn
      refine wpAny_mono (ts.run [] s5 _ H' { nx := fun σ6 H6 => σ6 = (σ'.set i (some (.ref a))).set j (some (.ref a)) ∧ H6 = H', rt := fun _ _ => False, bk := fun _ _ => False, ct := fun _ _ => False } S5 ?_) (fun f s6 hsp => ?_) (fun _ _ z => False.elim z)
      · exact ⟨.ref a, by rw [List.getElem?_set_self hil], rfl, rfl⟩
      · cases f with
        | next =>
          obtain ⟨σ6, H6, S6, rfl, rfl⟩ := hsp
          have S6' : Inv X ((a, oe4) :: pins) ((σ'.set i (some (.ref a))).set j (some (.ref a))) H6 s6 := ⟨ok, S6.os, S6.bare, S6.base, S6.loc, S6.cell, S6.free, S6.freeC, fun p hp => S6.pin p (by
            rcases List.mem_append.mp hp with z | z
            · exact List.mem_append.mpr (.inl (List.mem_cons_of_mem _ (List.mem_append.mpr (.inl z))))
            · rcases List.mem_cons.mp z with z | z
              · rw [z]; exact List.mem_append.mpr (.inl List.mem_cons_self)
              · exact List.mem_append.mpr (.inl (List.mem_cons_of_mem _ (List.mem_append.mpr (.inr z))))), S6.hok, S6.len⟩
          refine gone_ok S6' hN hi hln fun s7 J7 => ?_
          obtain ⟨e7, n7, _⟩ := J7.pin (a, oe4) (List.mem_append.mpr (.inr List.mem_cons_self))
          have J8 := inv_track (o := exK cls a) J7 n7 n0 np' nc' (exK_ok e7 hz4 hd4)
          have es : ((σ'.set i (some (V.ref a))).set j (some (.ref a))).set i none = (σ'.set j (some (.ref a))).set i none := by
            rw [List.set_comm _ _ hij, List.set_set]
          rw [es] at J8
          exact ⟨_, _, J8, hy2 a na⟩
        | brk => obtain ⟨_, _, _, z⟩ := hsp; exact z.elim
        | cont => obtain ⟨_, _, _, z⟩ := hsp; exact z.elim
        | ret u => obtain ⟨_, _, _, _, _, z⟩ := hsp; exact z.elim
    | false =>
      show wpAny _ X.A (handleBy (.ref a) X.env []) _ _ _
      refine wpAny_handleBy_nil ?_
      obtain ⟨k1, k2, k3, oe, vs, T, oT, ts', he, hz, hd, h1, hr⟩ := id fl3
      unfold PySem.passOn
      refine wpAny_bind (wpAny_field he hd h1 ?_)
      rw [if_neg (show ¬ ((Value.ref T == Value.none) = true) from by simp)]
      have fin : wpAny (model X.prog X.w) X.A (setFlight (.ref a) X.env.frame) (fun _ s4 => wpAny (model X.prog X.w) X.A (throw (.ref a) : Sem Flow) (SP X pins D) X.xe s4) X.xe { s' with heap := h3 } := by
        rw [hf]
        refine HandSPX.setFlight_upZ fl3 fun h4 hh4 up4 => wpAny_throw (tk _ _ ?_)
        exact ⟨a, B, sI, pins, σ', H', cls, d, rfl, J, nb, (up.trans up3).trans up4, .inr (.inr (by rw [hs]; exact hh4)), na, os, ag, hno rfl⟩
      first
        | exact wpAny_bind (wpAny_pure (wpAny_bind fin))
        | exact wpAny_bind fin
  · cases f with
    | next =>
      obtain ⟨σ', H', J', q⟩ := hsp
      exact wpAny_execs_nil ⟨σ', H', J'.ofTry ok, q⟩
    | brk =>
      obtain ⟨σ', H', J', q⟩ := hsp
      exact ⟨σ', H', J'.ofTry ok, q⟩
    | cont =>
      obtain ⟨σ', H', J', q⟩ := hsp
      exact ⟨σ', H', J'.ofTry ok, q⟩
    | ret u =>
      obtain ⟨v, σ', H', J', r, q⟩ := hsp
      exact ⟨v, σ', H', J'.ofTry ok, r, q⟩
end
/-- isinstance(x, c): x an error that was kept, or an instance, or data -/
def rIsX (K : PySem.W.Frag) : List V → Hp → VK → Prop := fun xs H Q => rIsi K xs H Q ∨ ∃ (a D : Addr) (c : V) (u : Value) (b : Bool), xs = [.ref a, c] ∧ ClsV c u ∧ H a = some (exK (.ref D) a) ∧ ExcC K D ∧ PySem.W.kitOne K (.ref D) u = some b ∧ Q (.bl b) H
theorem call_isX {X : Cx} : CallR X (.builtin "isinstance") (rIsX X.K) := by
  intro pins s σ H xs us Q I r h
  rcases h with h | ⟨a, D, c, u, b, rfl, k, ha, C, e, q⟩
  · exact call_isi pins s σ H xs us Q I r h
  · cases r with
    | cons rx rr =>
      cases rr with
      | cons rt rr =>
        cases rr
        cases rx
        have ec := k.eq rt
        subst ec
        obtain ⟨⟨oe, vs, ho, hz, hd⟩, _, _⟩ := I.hok a _ ha
        have J : PySem.W.InstAt s.heap a oe D none := by
          obtain ⟨oc, od, oda, osl⟩ := oe
          obtain ⟨h1, h2⟩ := hz
          dsimp only at h1 h2 hd
          subst h1 h2 hd
          exact ⟨ho, rfl, rfl, trivial⟩
        exact PySem.W.kia_one (PySem.W.handS_kitx_exc C.hg C.hk C.hs C.hd C.ha C.hn C.ht C.hm) I.kIn J e (fun z => nomatch z) fun tk => ⟨.bl b, H, I.kept (t' := tk) fun _ _ z => z, rfl, q⟩

/-! ### own classes -/
structure InsC (K : PySem.W.Frag) (D : Addr) : Prop where
  cl : Cls K D
  ha : PySem.W.findIn K (.ref D) "__class__" = some (some (.builtin "object.__class__"))
  hn : PySem.W.specialIn K (.builtin "object.__class__") "__get__" = some (some (.builtin "getset_descriptor.__get__"))
  ht : PySem.W.takesIn K (.builtin "object.__class__") = some true
  hm : PySem.W.mroIn K D (.type "object") = some true
/-- a class's name: the module's own, or ValueError -/
def NmC (mg : Str → Option Value) (x : Str) (own : Bool) (v : V) (u : Value) : Prop := ClsV v u ∧ (match own with
  | true => mg x = some u
  | false => x = ("ValueError" : Str) ∧ u = .type "ValueError")
theorem clsv_rel {v : V} {u : Value} (k : ClsV v u) : RelV v u := by cases k <;> rfl
theorem boot_ve : bootBuiltins "ValueError" = some (.type "ValueError") := by decide +kernel
structure RsOk (K : PySem.W.Frag) (mg : Str → Option Value) (D : Addr) (x : Str) : Prop where
  mg : mg x = some (.ref D)
  exc : PySem.W.excIn K D He.veBase "ValueError.__new__" = true
  keep : PySem.W.keepIn K (.ref D) = true
  sub : PySem.W.subIn K (.ref D) (.type "BaseException") = some true
  ty : PySem.W.typeIn K (.ref D) = some (.type "type")
structure CkOk (G : Glo) (K : PySem.W.Frag) (mg : Str → Option Value) (x : Str) (own : Bool) (ck ik : Option (Nat → Option Bool)) : Prop where
  ex : ∃ v u, NmC mg x own v u ∧ (∀ g, ck = some g → ∀ c b, g c = some b → PySem.W.kitOne K (.ref (G.ca c)) u = some b ∧ PySem.W.exmOne K (.ref (G.ca c)) u = some b ∧ ExcC K (G.ca c)) ∧
    (∀ g, ik = some g → ∀ c b, g c = some b → PySem.W.kitOne K (.ref (G.ca c)) u = some b ∧ InsC K (G.ca c))
section
variable {C : Ctx} {X : Cx} {x : Str} {own : Bool} {v : V} {u : Value} {p p2 pos : Pos}
theorem pe_nmc (hg : Gl X x) (hm : X.mg "ValueError" = none) (hd : (x == ("__debug__" : Str)) = false) (h : NmC X.mg x own v u) : PE X (.Name x p) (tC v) := by
  obtain ⟨k, h⟩ := h
  cases own with
  | true => exact pe_glob hg h (clsv_rel k) hd
  | false =>
    obtain ⟨rfl, rfl⟩ := h
    exact pe_bltn hg hm boot_ve (clsv_rel k) (by decide) hd
theorem names_nmc (hg : Gl X x) (hm : X.mg "ValueError" = none) (hd : (x == ("__debug__" : Str)) = false) (h : NmC X.mg x own v u) : Names X x u := by
  obtain ⟨k, h⟩ := h
  cases own with
  | true => exact ⟨hg, hd, .inl h⟩
  | false =>
    obtain ⟨rfl, rfl⟩ := h
    exact ⟨hg, hd, .inr ⟨hm, boot_ve, by decide⟩⟩
theorem isc_imp {g : List Sl → RE ER} {ck ik : Option (Nat → Option Bool)} {σ : L2.St} {H : Hp} {Q : VK} (k : ClsV v u) (h1 : ∀ g, ck = some g → ∀ c b, g c = some b → PySem.W.kitOne C.G.K (.ref (C.G.ca c)) u = some b ∧ PySem.W.exmOne C.G.K (.ref (C.G.ca c)) u = some b ∧ ExcC C.G.K (C.G.ca c))
    (h2 : ∀ g, ik = some g → ∀ c b, g c = some b → PySem.W.kitOne C.G.K (.ref (C.G.ca c)) u = some b ∧ InsC C.G.K (C.G.ca c))
    (h : tE C (fun ρ => (g ρ).bind fun x => evIsc ck ik x.d) σ H Q) : tCB (rIsX C.G.K) (tCons (tE C g) (tCons (tC v) tNil)) σ H Q := by
  obtain ⟨ρ, P, N, S, h⟩ := h
  refine ⟨ρ, P, N, S, h.bind.mono fun x P1 N1 H1 e1 a1 h3 w rv => ?_⟩
  have r1 := (S.adv a1).reg
  have rw' := rv.w r1
  show rIsX C.G.K [w, v] H1 Q
  unfold evIsc at h3
  split at h3
  · rename_i c fs q
    rw [q] at rw'
    split at h3
    · split at h3
      · rename_i g'
        split at h3
        · rename_i b e
          obtain ⟨_, a, rfl, z⟩ := rw'
          obtain ⟨z1, z2, z3⟩ := h1 _ rfl _ _ e
          exact .inr ⟨a, _, v, u, b, rfl, k, r1.pH _ _ z, z3, z1, h3.val r1 rfl⟩
        · exact h3.elim
      · exact h3.elim
    · exact h3.elim
  · rename_i c fs q
    rw [q] at rw'
    split at h3
    · split at h3
      · rename_i b e
        obtain ⟨a, dx, xs, rfl, z, _⟩ := rw'
        obtain ⟨z1, z2⟩ := h2 _ rfl _ _ e
        exact .inl ⟨_, v, _, u, b, rfl, k, .base (.ins (r1.pH _ _ z) z2.cl z2.ha z2.hn z2.ht z2.hm), z1, h3.val r1 rfl⟩
      · exact h3.elim
    · exact h3.elim
  · exact h3.elim
theorem pe_iscD {a : Expr} {g : List Sl → RE ER} {ck ik : Option (Nat → Option Bool)} (hK : X.K = C.G.K) (hg : Gl X "isinstance") (hm : X.mg "isinstance" = none) (hv : X.mg "ValueError" = none) (hg2 : Gl X x) (hd : (x == ("__debug__" : Str)) = false) (ok : CkOk C.G X.K X.mg x own ck ik) (h : PE X a (tE C g))
    (hs : starEach [a, .Name x p2] X.env = (false, eval a X.env) :: starEach [.Name x p2] X.env) (hpl : (backTo pos (starEach [.Name x p2] X.env)).any (·.1) = false) : PE X (.Call (.Name "isinstance" p) [a, .Name x p2] [] pos) (tE C fun ρ => (g ρ).bind fun x => evIsc ck ik x.d) := by
  obtain ⟨v, u, z, h1, h2⟩ := ok
  rw [hK] at h1 h2
  exact pe_mono (pe_callD call_isX boot_isi (.inl ⟨_, rfl⟩) hg hm (pa_cons h (pa_cons (pe_nmc hg2 hv hd z) pa_nil) hs) (by decide) (by decide) hs hpl) fun σ H Q q => by rw [hK]; exact isc_imp z.1 h1 h2 q
/-! ### list.count -/
abbrev gCnt (go g : List Sl → RE ER) : List Sl → RE ER := fun ρ => (go ρ).bind fun x => match x.d with
    | .lst xs => (g ρ).bind fun y => evCnt xs y.d
    | _ => .bad
theorem intsD_some : ∀ {ds : List D} {ns : List Int}, intsD ds = some ns → ds = ns.map D.int
  | [], ns, h => by cases h; rfl
  | d :: ds, ns, h => by
    cases d with
    | int i =>
      unfold intsD at h
      cases e : intsD ds with
      | none => rw [e] at h; cases h
      | some r => rw [e] at h; cases h; rw [intsD_some e]; rfl
    | _ => cases h
theorem cnt_imp {go g : List Sl → RE ER} {σ : L2.St} {H : Hp} {Q : VK} (h : tE C (gCnt go g) σ H Q) : tBM C.G.K "list" (rCntI C.G.K) (tE C go) (tCons (tE C g) tNil) σ H Q := by
  obtain ⟨ρ, P, N, S, h⟩ := h
  refine ⟨ρ, P, N, S, h.bind.mono fun x P1 N1 H1 _ a1 h1 v rv => ?_⟩
  have r1 := (S.adv a1).reg
  split at h1
  · rename_i ds hd
    have w := rv.w r1
    rw [hd] at w
    obtain ⟨p, xs, rfl, z1, z2⟩ := w
    refine ⟨.inl ⟨rfl, xs, z1⟩, ρ, P1, N1, S.adv a1, (res.bind h1).mono fun y P2 N2 H2 _ a2 h2 u ru => ?_⟩
    have r2 := (S.adv (a1.trans a2)).reg
    unfold evCnt at h2
    split at h2
    · rename_i ns e
      split at h2
      · rename_i k q
        have wy := ru.w r2
        rw [q] at wy
        cases wy.int
        have en := intsD_some e
        subst en
        have ex := Reps.ints.mp z2
        subst ex
        exact ⟨p, ns, k, rfl, rfl, L2.Same.seq a2.hh z1, h2.val r2 rfl⟩
      · exact h2.elim
    · exact h2.elim
  · exact h1.elim
theorem pe_cntD {o a : Expr} {go g : List Sl → RE ER} {apos pos : Pos} (hK : X.K = C.G.K) (ho : PE X o (tE C go)) (ha : PE X a (tE C g)) (hs : notStar a = true) (hbase : attributeBase o "count" X.env (eval o X.env) = eval o X.env) (hline : (apos.endLine == pos.line) = true)
    (hf : ((backTo pos (starEach [a] X.env)).all (fun x => !x.1) && (backToKw pos (keywordEach [] X.env)).all (fun x => x.1.isSome)
      && decide ([a].length + ([] : List Keyword).length + (if ([] : List Keyword).isEmpty then 0 else 1) < 30)) = true) :
    PE X (.Call (.Attribute o "count" apos) [a] [] pos) (tE C (gCnt go g)) :=
  pe_mono (pe_bm PySem.F.plainAttrs_list PySem.F.slot_list_count PySem.F.type_list_count mt_lcount ho (pa_cons ha pa_nil (star_cons hs)) hbase hf hline (star_cons hs) rfl) fun σ H Q q => by rw [hK]; exact cnt_imp q
/-! ### raise -/
theorem ps_rseD {c : Nat} {m : Str} {j : Nat} {pos' : Pos} (hK : X.K = C.G.K) (hc : X.calm = true) (tk : Takes X C.W) (hg : Gl X x) (hd : (x == ("__debug__" : Str)) = false) (h : RsOk X.K X.mg (C.G.ca c) x) :
    PS X (.Raise (some (.Call (.Name x p) [.Constant (.str m) j p2] [] pos)) none pos') (tS C fun _ => .exc c []) :=
  ps_mono (ps_raise hc tk (pmk_own PySem.F.excBase_ValueError h.exc h.mg h.keep (raises_own h.sub h.ty) hg hd)) fun D σ H q => by
    obtain ⟨ρ, P, N, S, h⟩ := q
    exact h σ none P N H S.reg (.inl ⟨rfl, rfl⟩)
end
/-! ### try -/
def tR (C : Ctx) (g : List Sl → RE (List Sl)) : TS := fun D σ H => ∃ ρ P N, SR C P N H ρ σ ∧ res C σ P N H (g ρ) fun ρ' _ _ H' => ∀ σ' P2 N2, Same P P2 → Same N N2 → SR C P2 N2 H' ρ' σ' → D.nx σ' H'
section
variable {C : Ctx} {X : Cx}
theorem SR.wish {W : WX} {P N H : Hp} {ρ : List Sl} {σ : L2.St} (S : SR C P N H ρ σ) : SR { C with W := W } P N H ρ σ :=
  ⟨⟨S.reg.pH, S.reg.nH, S.reg.bH, S.reg.rB, S.reg.p0, S.reg.pn, S.reg.nw⟩, S.len, fun i s e => by
    obtain ⟨o, h1, h2⟩ := S.sl i s e
    exact ⟨o, h1, by cases s <;> exact h2⟩, S.ap⟩
theorem SR.unwish {W : WX} {P N H : Hp} {ρ : List Sl} {σ : L2.St} (S : SR { C with W := W } P N H ρ σ) : SR C P N H ρ σ :=
  ⟨⟨S.reg.pH, S.reg.nH, S.reg.bH, S.reg.rB, S.reg.p0, S.reg.pn, S.reg.nw⟩, S.len, fun i s e => by
    obtain ⟨o, h1, h2⟩ := S.sl i s e
    exact ⟨o, h1, by cases s <;> exact h2⟩, S.ap⟩
theorem SR.setN {P N H : Hp} {ρ : List Sl} {σ : L2.St} (S : SR C P N H ρ σ) (i : Nat) (o : Option V) : SR C P N H (ρ.set i .non) (σ.set i o) where
  reg := S.reg
  len := by simp [S.len]
  sl := fun j s e => by
    by_cases q : i = j
    · subst q
      have hi : i < ρ.length := by
        rcases Nat.lt_or_ge i ρ.length with z | z
        · exact z
        · rw [List.getElem?_eq_none (by simpa using z)] at e; cases e
      rw [List.getElem?_set_self hi] at e
      cases e
      exact ⟨_, List.getElem?_set_self (by rw [S.len]; exact hi), trivial⟩
    · rw [List.getElem?_set_ne q] at e
      rw [List.getElem?_set_ne q]
      exact S.sl j s e
  ap := fun j k p ds b es c e1 e2 e3 e4 => by
    have nj : i ≠ j := fun z => by
      subst z
      rw [List.getElem?_set] at e1
      split at e1
      · split at e1 <;> cases e1
      · rename_i z; exact z rfl
    have nk : i ≠ k := fun z => by
      subst z
      rw [List.getElem?_set] at e2
      split at e2
      · split at e2 <;> cases e2
      · rename_i z; exact z rfl
    rw [List.getElem?_set_ne nj] at e1 e3
    rw [List.getElem?_set_ne nk] at e2 e4
    exact S.ap j k p ds b es c e1 e2 e3 e4
theorem ps_tryD {i j : Nat} {g : List Sl → RE (List Sl)} {ck ik : Option (Nat → Option Bool)} {x n m : Str} {own : Bool} {body : List Stmt} {np p1 p2 pa pos pos' : Pos} (hK : X.K = C.G.K) (hs : X.stack = X.env :: X.outer) (hf : X.env.frame = some X.env.locals) (hex : X.ex = []) (hN : X.N.Nodup) (hi : X.N[i]? = some n) (hj : X.N[j]? = some m) (hln : X.env.kindOf n = some .local) (hlm : X.env.kindOf m = some .local) (hd : (n == ("__debug__" : Str)) = false ∧ (n == ("__classdict__" : Str)) = false)
    (hg : Gl X x) (hv : X.mg "ValueError" = none) (hdx : (x == ("__debug__" : Str)) = false) (ok : CkOk C.G X.K X.mg x own ck ik) (tk : Takes X C.W) (hij : i ≠ j)
    (hb : ∀ (W : WX) (pn : List (Addr × Obj)) (xe : Value → Shared → Prop), Takes (X.tr pn xe) W → PassesOwn (model X.prog X.w) X.A X.env xe → PSs (X.tr pn xe) body (tR { C with W := W } g)) :
    PS X (.Try body [.ExceptHandler (some (.Name x np)) (some n) [.Assign [.Name m p1] (.Name n p2) pa] pos'] [] [] pos) (tS C fun ρ => trX ck i j ρ (g ρ)) := by
  obtain ⟨v, u, z, h1, _⟩ := ok
  refine ps_mono (ps_tryK (tb := fun W => tR { C with W := W } g) hs hf hex hN hi hj hln hlm hd (names_nmc hg hv hdx z) tk hij hb) fun D σ H q => ?_
  obtain ⟨ρ, P, N, S, h⟩ := q
  have h : outS C P N D (trX ck i j ρ (g ρ)) := h
  refine ⟨ρ, P, N, S.wish, ?_⟩
  cases e : g ρ with
  | bad => rw [e] at h; exact h.elim
  | ok ρ' =>
    rw [e] at h
    intro P' N' H' a σ' P2 N2 e1 e2 S2
    exact h σ' P2 N2 H' S2.unwish e1 e2
  | exc c fs =>
    rw [e] at h
    intro d P' N' H' a x'
    have a' : Adv P N H P' N' H' := a
    have S1 := S.adv a'
    show ∃ b, PySem.W.exmOne X.K (.ref (C.G.ca c)) u = some b ∧ _
    unfold trX at h
    simp only at h
    split at h
    · rename_i g'
      split at h
      · rename_i ec
        obtain ⟨_, z2, _⟩ := h1 _ rfl _ _ ec
        rw [if_neg hij] at h
        split at h
        · refine ⟨true, z2, fun _ => ?_, fun z => (by cases z)⟩
          rcases x' with ⟨_, rfl⟩ | ⟨dd, f, v', e1, _⟩
          · refine ⟨rfl, fun ad na => ?_⟩
            have a2 : Adv P N H (upd P' ad (exK (.ref (C.G.ca c)) ad)) N' (upd H' ad (exK (.ref (C.G.ca c)) ad)) := a'.newP na
            have S2 := S.adv a2
            exact h _ _ _ _ ((S2.setV (i := j) (d := .exc c []) (b := true) (v := .ref ad) ⟨rfl, ad, rfl, upd_same⟩).setN i none) a2.pp a2.nn
          · cases e1
        · exact h.elim
      · rename_i ec
        obtain ⟨_, z2, _⟩ := h1 _ rfl _ _ ec
        refine ⟨false, z2, fun z => (by cases z), fun _ => ?_⟩
        exact h σ d P' N' H' S1.reg (by
          rcases x' with z | ⟨dd, f, v', e1, e2, e3, e4⟩
          · exact .inl z
          · exact .inr ⟨dd, f, v', e1, e2, e3, e4⟩)
      · exact h.elim
    · exact h.elim
end
end Cm

set_option Elab.async false
set_option linter.all false
set_option maxRecDepth 100000
/-! The check of an expression. -/
namespace Cm
open PySem PySem.Spec PyProof.Rows L2

def isCmp : Ex → Bool
  | .cmp _ _ _ => true
  | .chn _ _ _ _ _ => true
  | .isN _ => true
  | .notN _ => true
  | _ => false
def plainT : Expr → Bool
  | .UnaryOp .Not _ _ => false
  | .BoolOp _ _ _ => false
  | .IfExp _ _ _ _ => false
  | .Compare _ _ _ _ => false
  | _ => true
def tgE (T : Tb) (fc : Option Scope) (sc : Scope) : List Nat → List Expr → Bool
  | [], [] => true
  | i :: is, .Name x _ :: es => decide (T.N[i]? = some x) && tgB fc sc x && tgE T fc sc is es
  | _, _ => false
def chkTg (T : Tb) (fc : Option Scope) (sc : Scope) (tg : List Nat) (t : Expr) : Bool :=
  match t with
  | .Name x _ => match tg with
    | [i] => decide (T.N[i]? = some x) && tgB fc sc x
    | _ => false
  | .Tuple es _ _ => decide (tg.length ≠ 1) && tgE T fc sc tg es
  | _ => false
def isTup : Expr → Bool
  | .Tuple _ _ _ => true
  | _ => false

mutual
def chkE (T : Tb) : Ex → Option Scope → Scope → Expr → Bool
  | .nev, _, _, _ => true
  | .var i, _, sc, e => match e with
    | .Name x _ => decide (T.N[i]? = some x) && visB sc x && nmB x
    | _ => false
  | .cint i, _, _, e => match e with
    | .Constant (.int j) _ _ => decide (i = j)
    | _ => false
  | .cbl i, _, _, e => match e with
    | .Constant (.bool j) _ _ => decide (i = j)
    | _ => false
  | .cnon, _, _, e => match e with
    | .Constant .none _ _ => true
    | _ => false
  | .cstr s, _, _, e => match e with
    | .Constant (.str x) _ _ => decide (x = strOf s)
    | _ => false
  | .glo k, _, sc, e => match e with
    | .Name x _ => decide (T.gc[k]? = some x) && glB sc x && nmB x
    | _ => false
  | .bin o a b, fc, sc, e => match e with
    | .BinOp x op y _ => decide (op = bopP o) && chkE T a fc sc x && chkE T b fc sc y
    | _ => false
  | .cmp o a b, fc, sc, e => match e with
    | .Compare x [op] [y] _ => decide (op = copP o) && !behindInMarks (copP o) y && chkE T a fc sc x && chkE T b fc sc y
    | _ => false
  | .chn o p a b c, fc, sc, e => match e with
    | .Compare x [op, op'] [y, z] _ => decide (op = copP o) && decide (op' = copP p) && !lastMarks [copP o, copP p] [y, z] && chkE T a fc sc x && chkE T b fc sc y && chkE T c fc sc z
    | _ => false
  | .isN a, fc, sc, e => match e with
    | .Compare x [.Is] [.Constant .none _ _] _ => chkE T a fc sc x
    | _ => false
  | .notN a, fc, sc, e => match e with
    | .Compare x [.IsNot] [.Constant .none _ _] _ => chkE T a fc sc x
    | _ => false
  | .bop c es, fc, sc, e => match e with
    | .BoolOp op xs _ => decide (op = bopO c) && !xs.isEmpty && chkEs T es fc sc xs
    | _ => false
  | .bnot a, fc, sc, e => match e with
    | .UnaryOp .Not x _ => chkE T a fc sc x
    | _ => false
  | .neg a, fc, sc, e => match e with
    | .UnaryOp .USub x _ => chkE T a fc sc x
    | _ => false
  | .ife c a b, fc, sc, e => match e with
    | .IfExp t x y _ => chkT T c fc sc t && chkE T a fc sc x && chkE T b fc sc y
    | _ => false
  | .tup es, fc, sc, e => match e with
    | .Tuple xs _ _ => chkEs T es fc sc xs && xs.all notStar && decide (xs.length < 1000)
    | _ => false
  | .lst es, fc, sc, e => match e with
    | .List xs _ => chkEs T es fc sc xs && xs.all notStar && decide (xs.length < 1000)
    | _ => false
  | .idx a i, fc, sc, e => match e with
    | .Subscript x y _ => chkE T a fc sc x && chkE T i fc sc y && notSlice y
    | _ => false
  | .slc a lo hi, fc, sc, e => match e with
    | .Subscript x (.Slice l h none _) _ => chkE T a fc sc x && chkO T lo fc sc l && chkO T hi fc sc h
    | _ => false
  | .rev a, fc, sc, e => match e with
    | .Subscript x (.Slice none none (some (.UnaryOp .USub (.Constant (.int j) _ _) _)) _) _ => decide (j = 1) && chkE T a fc sc x
    | _ => false
  | .call f es, fc, sc, e => match e with
    | .Call (.Name x _) xs [] _ => decide (T.fn[f]? = some (x, xs.length)) && glB sc x && nmB x && chkEs T es fc sc xs && xs.all notStar
    | _ => false
  | .pri p es, fc, sc, e => match e with
    | .Call (.Name x _) xs [] _ => decide (x = priN p) && glB sc x && !xs.isEmpty && chkEs T es fc sc xs && xs.all notStar
    | _ => false
  | .lrng es, fc, sc, e => match e with
    | .Call (.Name l _) [.Call (.Name r _) xs [] _] [] _ => decide (l = ("list" : Str)) && decide (r = ("range" : Str)) && glB sc "list" && glB sc "range" && chkEs T es fc sc xs && xs.all notStar && decide (xs.length = 1 ∨ xs.length = 2)
    | _ => false
  | .mth m o es, fc, sc, e => match e with
    | .Call (.Attribute x mn apos) xs [] pos => decide (T.mn[m]? = some (mn, xs.length)) && chkE T o fc sc x && chkEs T es fc sc xs && xs.all notStar && baseB x && decide (xs.length < 20) && (apos.endLine == pos.line)
    | _ => false
  | .bm1 m o a, fc, sc, e => match e with
    | .Call (.Attribute x mn apos) [y] [] pos => decide (mn = bmN m) && chkE T o fc sc x && chkE T a fc sc y && notStar y && baseB x && (apos.endLine == pos.line)
    | _ => false
  | .blen o, fc, sc, e => match e with
    | .Call (.Attribute x mn apos) [] [] pos => decide (mn = ("bit_length" : Str)) && chkE T o fc sc x && baseB x && (apos.endLine == pos.line)
    | _ => false
  | .fld o f, fc, sc, e => match e with
    | .Attribute x fn _ => decide (T.fs[f]? = some fn) && chkE T o fc sc x && baseB x
    | _ => false
  | .isi a t, fc, sc, e => match e with
    | .Call (.Name x _) [y, .Name n _] [] _ => decide (x = ("isinstance" : Str)) && decide (n = tyN t) && glB sc "isinstance" && glB sc (tyN t) && chkE T a fc sc y && notStar y
    | _ => false
  | .lc own it tg cnd e', fc, sc, e => match e with
    | .ListComp elt [⟨tgt, iter, ifs, 0⟩] scope _ => blkC T.N sc scope (own.map fun i => (T.N.getD i Str.empty, i)) && chkI T it fc sc tgt iter && chkTg T (some scope) (relS scope sc) tg tgt && tg.all (fun i => decide (i ∈ own)) && chkIf T cnd (some scope) (relS scope sc) ifs && chkE T e' (some scope) (relS scope sc) elt && notSet iter
    | _ => false
  | .inxL o a, fc, sc, e => match e with
    | .Call (.Attribute x mn apos) [y] [] pos => decide (mn = ("index" : Str)) && chkE T o fc sc x && chkE T a fc sc y && notStar y && baseB x && (apos.endLine == pos.line)
    | _ => false
  | .inxS o a, fc, sc, e => match e with
    | .Call (.Attribute x mn apos) [y] [] pos => decide (mn = ("index" : Str)) && chkE T o fc sc x && chkE T a fc sc y && notStar y && baseB x && (apos.endLine == pos.line)
    | _ => false
  | .isc a k, fc, sc, e => match e with
    | .Call (.Name x _) [y, .Name n _] [] _ => decide (x = ("isinstance" : Str)) && glB sc "isinstance" && decide ((T.ck[k]?).map (·.1) = some n) && glB sc n && nmB n && chkE T a fc sc y && notStar y
    | _ => false
  | .cntL o a, fc, sc, e => match e with
    | .Call (.Attribute x mn apos) [y] [] pos => decide (mn = ("count" : Str)) && chkE T o fc sc x && chkE T a fc sc y && notStar y && baseB x && (apos.endLine == pos.line)
    | _ => false
  | .lset a, fc, sc, e => match e with
    | .Call (.Name l _) [.Call (.Name r _) [y] [] _] [] _ => decide (l = ("len" : Str)) && decide (r = ("set" : Str)) && glB sc "len" && glB sc "set" && chkE T a fc sc y && notStar y
    | _ => false
  | .new k es, fc, sc, e => match e with
    | .Call (.Name x _) xs [] _ => decide (T.nw[k]? = some (x, xs.length)) && glB sc x && nmB x && chkEs T es fc sc xs && xs.all notStar
    | _ => false
  | .sfd i f, _, sc, e => match e with
    | .Attribute (.Name x _) fn _ => decide (T.N[i]? = some x) && visB sc x && nmB x && decide (T.fs[f]? = some fn)
    | _ => false
def chkEs (T : Tb) : Exs → Option Scope → Scope → List Expr → Bool
  | .nil, _, _, xs => xs.isEmpty
  | .cons e es, fc, sc, xs => match xs with
    | x :: xs => chkE T e fc sc x && chkEs T es fc sc xs
    | [] => false
def chkO (T : Tb) : Exs → Option Scope → Scope → Option Expr → Bool
  | .nil, _, _, x => x.isNone
  | .cons e _, fc, sc, x => match x with
    | some x => chkE T e fc sc x
    | none => false
def chkT (T : Tb) : Te → Option Scope → Scope → Expr → Bool
  | .val e, fc, sc, x => chkE T e fc sc x && (isCmp e || plainT x)
  | .bop c ts, fc, sc, x => match x with
    | .BoolOp op xs _ => decide (op = bopO c) && !xs.isEmpty && chkTs T ts fc sc xs
    | _ => false
  | .not t, fc, sc, x => match x with
    | .UnaryOp .Not x _ => chkT T t fc sc x
    | _ => false
def chkTs (T : Tb) : Tes → Option Scope → Scope → List Expr → Bool
  | .nil, _, _, xs => xs.isEmpty
  | .cons t ts, fc, sc, xs => match xs with
    | x :: xs => chkT T t fc sc x && chkTs T ts fc sc xs
    | [] => false
/-- at most one condition -/
def chkIf (T : Tb) : Tes → Option Scope → Scope → List Expr → Bool
  | .nil, _, _, xs => xs.isEmpty
  | .cons t ts, fc, sc, xs => match xs with
    | [x] => chkT T t fc sc x && (match ts with
      | .nil => true
      | _ => false)
    | _ => false
def chkI (T : Tb) : Itx → Option Scope → Scope → Expr → Expr → Bool
  | .any e, fc, sc, _, x => chkE T e fc sc x
  | .rng es, fc, sc, _, x => match x with
    | .Call (.Name r _) xs [] _ => decide (r = ("range" : Str)) && glB sc "range" && chkEs T es fc sc xs && xs.all notStar && decide (xs.length = 1 ∨ xs.length = 2 ∨ xs.length = 3)
    | _ => false
  | .zp a b, fc, sc, t, x => match x with
    | .Call (.Name r _) [y, z] [] _ => decide (r = ("zip" : Str)) && glB sc "zip" && chkE T a fc sc y && chkE T b fc sc z && notStar y && notStar z && isTup t
    | _ => false
  | .en a, fc, sc, t, x => match x with
    | .Call (.Name r _) [y] [] _ => decide (r = ("enumerate" : Str)) && glB sc "enumerate" && chkE T a fc sc y && notStar y && isTup t
    | _ => false
  | .rv a, fc, sc, _, x => match x with
    | .Call (.Name r _) [y] [] _ => decide (r = ("reversed" : Str)) && glB sc "reversed" && chkE T a fc sc y && notStar y
    | _ => false
end
/-- the names of built-in things that a text may lean on -/
def bltNames : List Str := ["len", "abs", "min", "max", "sum", "sorted", "all", "any", "list", "int", "str", "bool", "tuple", "isinstance", "range", "zip", "enumerate", "reversed", "set", "divmod", "ValueError"]
structure XOk (T : Tb) (Γ : Env) (C : Ctx) (X : Cx) (fc : Option Scope) (sc : Scope) : Prop where
  nm : X.N = T.N
  nd : X.N.Nodup
  sc : X.env.scope = sc
  K : X.K = C.G.K
  tk : Takes X C.W
  calm : X.calm = true
  un : X.A.units + 65 < cLine
  blt : ∀ x ∈ bltNames, X.mg x = none
  fnc : match fc with
    | none => X.fn = fun _ => true
    | some so => X.fn = fun x => so.names.lookup x == some .cell
  fn : ∀ (f : Nat) (x : Str) (n : Nat), T.fn[f]? = some (x, n) → ∀ g, Γ.fn[f]? = some g → ∃ (k : Nat) (a : Addr) (fd : FuncData) (ps : List Str), FnOk X.prog X.w X.K X.mg X.base (L2.CX X.prog X.w) k a fd ps (spD C.G n g.2) ∧ Room k X.A ∧ X.mg x = some (.ref a) ∧ PySem.W.keepIn X.K (.ref a) = true ∧ Binds X.K fd ps []
  gc : ∀ (k : Nat) (x : Str), T.gc[k]? = some x → ∀ c, Γ.gc[k]? = some c → ∃ u v, X.mg x = some u ∧ RelV v u ∧ ∀ P N, RepB C P N true c.2 v
  mt : ∀ (m : Nat) (x : Str) (n : Nat), T.mn[m]? = some (x, n) → ∀ c g, Γ.mt c m = some g → MtOk C X x c n g
  fs : ∀ (f : Nat) (x : Str), T.fs[f]? = some x → ∀ c k, Γ.fi c f = some k → FdOk C X x c k
  nw : ∀ (k : Nat) (x : Str) (n : Nat), T.nw[k]? = some (x, n) → ∀ g, Γ.nw[k]? = some g → NwOk C X x g.1 n g.2
  ck : ∀ (k : Nat) (x : Str) (own : Bool), T.ck[k]? = some (x, own) → CkOk C.G X.K X.mg x own Γ.ck[k]? Γ.ik[k]?
  xk : ∀ (k : Nat) (x : Str), T.xk[k]? = some x → ∀ c, Γ.xk[k]? = some c → RsOk X.K X.mg (C.G.ca c) x
end Cm

set_option Elab.async false
set_option linter.all false
set_option maxRecDepth 100000
/-! What the check of an expression tells. -/
namespace Cm
open PySem PySem.Spec PyProof.Rows L2

theorem pe_ev {C : Ctx} {X : Cx} {e : Expr} {g g' : List Sl → RE ER} (h : PE X e (tE C g')) (q : ∀ ρ, g ρ = g' ρ) : PE X e (tE C g) := by
  have : g = g' := funext q
  rw [this]; exact h
theorem pt_ev {C : Ctx} {X : Cx} {e : Expr} {g g' : List Sl → RE Bool} (h : PT X e (tT C g')) (q : ∀ ρ, g ρ = g' ρ) : PT X e (tT C g) := by
  have : g = g' := funext q
  rw [this]; exact h
theorem pw_ev {C : Ctx} {X : Cx} {e : Expr} {g g' : List Sl → RE Bool} (h : PW X e (tT C g')) (q : ∀ ρ, g ρ = g' ρ) : PW X e (tT C g) := by
  have : g = g' := funext q
  rw [this]; exact h
theorem pa_ev {C : Ctx} {X : Cx} {e : List Expr} {g g' : List Sl → RE (List ER)} (h : PA X e (tA C g')) (q : ∀ ρ, g ρ = g' ρ) : PA X e (tA C g) := by
  have : g = g' := funext q
  rw [this]; exact h
theorem po_ev {C : Ctx} {X : Cx} {e : Option Expr} {g g' : List Sl → RE (Option Int)} (h : PO X e (tO C g')) (q : ∀ ρ, g ρ = g' ρ) : PO X e (tO C g) := by
  have : g = g' := funext q
  rw [this]; exact h
theorem pi_ev {C : Ctx} {X : Cx} {t e : Expr} {g g' : List Sl → RE Wk} (h : PI X t e (tI C g')) (q : ∀ ρ, g ρ = g' ρ) : PI X t e (tI C g) := by
  have : g = g' := funext q
  rw [this]; exact h
theorem ps_ev {C : Ctx} {X : Cx} {e : Stmt} {g g' : List Sl → Out} (h : PS X e (tS C g')) (q : ∀ ρ, g ρ = g' ρ) : PS X e (tS C g) := by
  have : g = g' := funext q
  rw [this]; exact h
theorem pss_ev {C : Ctx} {X : Cx} {e : List Stmt} {g g' : List Sl → Out} (h : PSs X e (tS C g')) (q : ∀ ρ, g ρ = g' ρ) : PSs X e (tS C g) := by
  have : g = g' := funext q
  rw [this]; exact h
section
variable {T : Tb} {Γ : Env} {C : Ctx} {X : Cx} {fc : Option Scope} {sc : Scope}
theorem vis_of (hs : X.env.scope = sc) {x : Str} (h : visB sc x = true) : Vis X.env.scope x := by
  rw [hs]
  unfold visB at h
  unfold Vis
  split at h
  · exact .inl (by assumption)
  · exact .inr (.inl (by assumption))
  · exact .inr (.inr (by assumption))
  · cases h
theorem gl_of (hs : X.env.scope = sc) {x : Str} (h : glB sc x = true) : Gl X x := by
  unfold glB at h
  show X.env.scope.names.lookup x = _
  rw [hs]
  split at h
  · assumption
  · cases h
theorem nm_of {x : Str} (h : nmB x = true) : (x == ("__debug__" : Str)) = false ∧ (x == ("__classdict__" : Str)) = false := by
  unfold nmB at h
  simp only [Bool.and_eq_true, Bool.not_eq_true'] at h
  exact h
theorem tg_of (I : XOk T Γ C X fc sc) {x : Str} (h : tgB fc sc x = true) : Loc X.env.scope x ∧ (X.fn x = true ∨ X.env.scope.names.lookup x = some .local) := by
  rw [I.sc]
  unfold tgB at h
  split at h
  · rename_i e
    exact ⟨.inl e, .inr e⟩
  · rename_i e
    refine ⟨.inr e, .inl ?_⟩
    have := I.fnc
    cases fc with
    | none => simp only at this; rw [this]
    | some so => simp only at this h; rw [this]; exact h
  · cases h
theorem evs_len : ∀ (es : Exs) (ρ : List Sl) (r : List ER) (xs : List Expr), chkEs T es fc sc xs = true → evs Γ es ρ = .ok r → r.length = xs.length
  | .nil, ρ, r, xs, h, e => by
    unfold chkEs at h
    rw [evs] at e
    cases e
    cases xs with
    | nil => rfl
    | cons _ _ => cases h
  | .cons a es, ρ, r, xs, h, e => by
    unfold chkEs at h
    cases xs with
    | nil => cases h
    | cons x xs =>
      simp only [Bool.and_eq_true] at h
      rw [evs] at e
      cases e1 : ev Γ a ρ with
      | bad => rw [e1] at e; cases e
      | exc c fs => rw [e1] at e; cases e
      | ok v =>
        rw [e1] at e
        cases e2 : evs Γ es ρ with
        | bad => rw [RE.bind_ok, e2] at e; cases e
        | exc c fs => rw [RE.bind_ok, e2] at e; cases e
        | ok q =>
          rw [RE.bind_ok, e2] at e
          cases e
          simp [evs_len es ρ q xs h.2 e2]
theorem evs_nil {es : Exs} {xs : List Expr} (h : chkEs T es fc sc xs = true) (e : xs = []) (ρ : List Sl) : evs Γ es ρ = .ok [] := by
  subst e
  cases es with
  | nil => rw [evs]
  | cons a es => unfold chkEs at h; cases h
/-- within a block -/
theorem XOk.blk (I : XOk T Γ C X fc sc) {s : Shared} {H : Hp} {scope : Scope} {cl : List (Str × Addr)} {A : Addr} {fp : List Addr} : XOk T Γ C.nx (X.blk s H scope (compEnvC scope cl A X.env) fp) (some scope) (relS scope sc) where
  nm := I.nm
  nd := I.nd
  sc := by
    have := I.sc
    subst this
    rfl
  K := I.K
  tk := takes0
  calm := I.calm
  un := I.un
  blt := I.blt
  fnc := rfl
  fn := I.fn
  gc := I.gc
  mt := fun m x n h c g e => by
    obtain ⟨h1, h2, h3⟩ := I.mt m x n h c g e
    exact ⟨h1, h2, h3⟩
  fs := fun f x h c k e => by
    obtain ⟨h1, h2, h3, h4⟩ := I.fs f x h c k e
    exact ⟨h1, h2, h3, h4⟩
  nw := fun k x n h g e => by
    obtain ⟨h1⟩ := I.nw k x n h g e
    exact ⟨h1⟩
  ck := I.ck
  xk := I.xk
/-- within a try -/
theorem XOk.tr {W : WX} {pn : List (Addr × Obj)} {xe : Value → Shared → Prop} (I : XOk T Γ C X fc sc) (tk : Takes (X.tr pn xe) W) : XOk T Γ { C with W := W } (X.tr pn xe) fc sc where
  nm := I.nm
  nd := I.nd
  sc := I.sc
  K := I.K
  tk := tk
  calm := I.calm
  un := I.un
  blt := I.blt
  fnc := I.fnc
  fn := I.fn
  gc := I.gc
  mt := fun m x n h c g e => by
    obtain ⟨h1, h2, h3⟩ := I.mt m x n h c g e
    exact ⟨h1, h2, h3⟩
  fs := fun f x h c k e => by
    obtain ⟨h1, h2, h3, h4⟩ := I.fs f x h c k e
    exact ⟨h1, h2, h3, h4⟩
  nw := fun k x n h g e => by
    obtain ⟨h1⟩ := I.nw k x n h g e
    exact ⟨h1⟩
  ck := I.ck
  xk := I.xk
theorem tgE_sound (I : XOk T Γ C X fc sc) : ∀ (tg : List Nat) (es : List Expr), tgE T fc sc tg es = true → PGs X es (gNames tg) ∧ es.length = tg.length ∧ (assignEach es X.env).length = es.length ∧ (assignEach es X.env).findIdx? (·.1) = none
  | [], [], _ => ⟨pgs_nil, rfl, rfl, rfl⟩
  | i :: is, .Name x p :: es, h => by
    unfold tgE at h
    simp only [Bool.and_eq_true, decide_eq_true_eq] at h
    obtain ⟨h1, h2⟩ := tg_of I h.1.2
    obtain ⟨h3, h4, h5, h6⟩ := tgE_sound I is es h.2
    refine ⟨pgs_cons (pg_name I.nd (by rw [I.nm]; exact h.1.1) h1 h2) h3 rfl, by simp [h4], ?_, ?_⟩
    · show (_ :: assignEach es X.env).length = _
      simp [h5]
    · show List.findIdx? (·.1) ((false, _) :: assignEach es X.env) = none
      rw [List.findIdx?_cons]
      simp [h6]
  | [], _ :: _, h => by cases h
  | _ :: _, [], h => by cases h
theorem tg_sound (I : XOk T Γ C X fc sc) {tg : List Nat} {t : Expr} (h : chkTg T fc sc tg t = true) : PG X t (tG C tg) := by
  unfold chkTg at h
  split at h
  · split at h
    · simp only [Bool.and_eq_true, decide_eq_true_eq] at h
      obtain ⟨h1, h2⟩ := tg_of I h.2
      exact pg_nameD I.nd (by rw [I.nm]; exact h.1) h1 h2
    · cases h
  · simp only [Bool.and_eq_true, decide_eq_true_eq] at h
    obtain ⟨h3, h4, h5, h6⟩ := tgE_sound I _ _ h.2
    exact pg_tupD I.K I.calm h3 h4 h.1 h5 h6
  · cases h
end
end Cm

set_option Elab.async false
set_option linter.all false
set_option maxRecDepth 100000
set_option maxHeartbeats 1000000
/-! The check of an expression is sound. -/
namespace Cm
open PySem PySem.Spec PyProof.Rows L2
theorem bool_bop {c : Bool} {o : BoolOp} (h : o = bopO c) : o = bopO c := h
theorem blt_in (p : Pri) : priN p ∈ bltNames := by cases p <;> decide
theorem ty_in (t : Ty) : tyN t ∈ bltNames := by cases t <;> decide
theorem one_len {l : List Expr} (h : l.length = 1) : ∃ a, l = [a] := by
  match l, h with
  | [a], _ => exact ⟨a, rfl⟩
theorem two_len {l : List Expr} (h : l.length = 2) : ∃ a b, l = [a, b] := by
  match l, h with
  | [a, b], _ => exact ⟨a, b, rfl⟩
theorem three_len {l : List Expr} (h : l.length = 3) : ∃ a b c, l = [a, b, c] := by
  match l, h with
  | [a, b, c], _ => exact ⟨a, b, c, rfl⟩
mutual
theorem soundE {T : Tb} {Γ : Env} : ∀ (ir : Ex) {C : Ctx} {X : Cx} {fc : Option Scope} {sc : Scope} {e : Expr}, XOk T Γ C X fc sc → chkE T ir fc sc e = true → PE X e (tE C (ev Γ ir)) ∧ (isCmp ir = true → PT X e (tT C fun ρ => (ev Γ ir ρ).bind fun x => evTr x.d))
  | .nev, C, X, fc, sc, e, I, h => by
    exact ⟨pe_ev pe_nevD fun ρ => by rw [ev], fun z => by cases z⟩
  | .var i, C, X, fc, sc, e, I, h => by
    unfold chkE at h
    split at h
    case h_2 => cases h
    rename_i x p
    simp only [Bool.and_eq_true, decide_eq_true_eq] at h
    obtain ⟨n1, n2⟩ := nm_of h.2
    exact ⟨pe_ev (pe_varD (by rw [I.nm]; exact h.1.1) (vis_of I.sc h.1.2) n1 n2) fun ρ => by rw [ev] <;> rfl, fun z => by cases z⟩
  | .cint i, C, X, fc, sc, e, I, h => by
    unfold chkE at h
    split at h
    case h_2 => cases h
    simp only [decide_eq_true_eq] at h
    subst h
    exact ⟨pe_ev (pe_cD (d := .int i) pe_int fun _ _ => rfl) fun ρ => by rw [ev]; rfl, fun z => by cases z⟩
  | .cbl i, C, X, fc, sc, e, I, h => by
    unfold chkE at h
    split at h
    case h_2 => cases h
    simp only [decide_eq_true_eq] at h
    subst h
    exact ⟨pe_ev (pe_cD (d := .bl i) pe_bl fun _ _ => rfl) fun ρ => by rw [ev]; rfl, fun z => by cases z⟩
  | .cnon, C, X, fc, sc, e, I, h => by
    unfold chkE at h
    split at h
    case h_2 => cases h
    exact ⟨pe_ev (pe_cD (d := .non) pe_non fun _ _ => rfl) fun ρ => by rw [ev]; rfl, fun z => by cases z⟩
  | .cstr s, C, X, fc, sc, e, I, h => by
    unfold chkE at h
    split at h
    case h_2 => cases h
    simp only [decide_eq_true_eq] at h
    subst h
    exact ⟨pe_ev (pe_cD (d := .str s) pe_str fun _ _ => rfl) fun ρ => by rw [ev]; rfl, fun z => by cases z⟩
  | .glo k, C, X, fc, sc, e, I, h => by
    unfold chkE at h
    split at h
    case h_2 => cases h
    rename_i x p
    simp only [Bool.and_eq_true, decide_eq_true_eq] at h
    obtain ⟨n1, n2⟩ := nm_of h.2
    cases q : Γ.gc[k]? with
    | none => exact ⟨pe_ev pe_nevD fun ρ => by rw [ev, q], fun z => by cases z⟩
    | some c =>
      obtain ⟨u, v, h1, h2, h3⟩ := I.gc k x h.1.1 c q
      exact ⟨pe_ev (pe_cD (d := c.2) (pe_glob (gl_of I.sc h.1.2) h1 h2 n1) h3) fun ρ => by rw [ev, q], fun z => by cases z⟩
  | .bin o a b, C, X, fc, sc, e, I, h => by
    unfold chkE at h
    split at h
    case h_2 => cases h
    simp only [Bool.and_eq_true, decide_eq_true_eq] at h
    obtain ⟨⟨rfl, ha⟩, hb⟩ := h
    exact ⟨pe_ev (pe_opD (op_bop o) (I.K ▸ bop_ok o) (soundE a I ha).1 (soundE b I hb).1) fun ρ => by rw [ev], fun z => by cases z⟩
  | .cmp o a b, C, X, fc, sc, e, I, h => by
    unfold chkE at h
    split at h
    case h_2 => cases h
    simp only [Bool.and_eq_true, decide_eq_true_eq, Bool.not_eq_true'] at h
    obtain ⟨⟨⟨rfl, hm⟩, ha⟩, hb⟩ := h
    exact ⟨pe_ev (pe_cmpD I.un I.K (soundE a I ha).1 (soundE b I hb).1 hm) fun ρ => by rw [ev], fun _ => pt_ev (pt_cmpD I.un I.K (soundE a I ha).1 (soundE b I hb).1 hm) fun ρ => by rw [ev]⟩
  | .chn o p a b c, C, X, fc, sc, e, I, h => by
    unfold chkE at h
    split at h
    case h_2 => cases h
    simp only [Bool.and_eq_true, decide_eq_true_eq, Bool.not_eq_true'] at h
    obtain ⟨⟨⟨⟨⟨rfl, rfl⟩, hm⟩, ha⟩, hb⟩, hc⟩ := h
    exact ⟨pe_ev (pe_chnD I.un I.K (soundE a I ha).1 (soundE b I hb).1 (soundE c I hc).1 hm) fun ρ => by rw [ev], fun _ => pt_ev (pt_chnD I.un I.K (soundE a I ha).1 (soundE b I hb).1 (soundE c I hc).1 hm) fun ρ => by rw [ev]⟩
  | .isN a, C, X, fc, sc, e, I, h => by
    unfold chkE at h
    split at h
    case h_2 => cases h
    exact ⟨pe_ev (pe_isND (soundE a I h).1) fun ρ => by rw [ev]; rfl, fun _ => pt_ev (pt_isND (soundE a I h).1) fun ρ => by rw [ev]; rfl⟩
  | .notN a, C, X, fc, sc, e, I, h => by
    unfold chkE at h
    split at h
    case h_2 => cases h
    exact ⟨pe_ev (pe_notND (soundE a I h).1) fun ρ => by rw [ev]; rfl, fun _ => pt_ev (pt_notND (soundE a I h).1) fun ρ => by rw [ev]; rfl⟩
  | .bop c es, C, X, fc, sc, e, I, h => by
    unfold chkE at h
    split at h
    case h_2 => cases h
    rename_i op xs p
    simp only [Bool.and_eq_true, decide_eq_true_eq, Bool.not_eq_true'] at h
    obtain ⟨⟨rfl, hx⟩, he⟩ := h
    exact ⟨pe_ev (soundBv c es I he (by rintro rfl; cases hx)) fun ρ => by rw [ev], fun z => by cases z⟩
  | .bnot a, C, X, fc, sc, e, I, h => by
    unfold chkE at h
    split at h
    case h_2 => cases h
    exact ⟨pe_ev (pe_bnotD I.K (soundE a I h).1) fun ρ => by rw [ev], fun z => by cases z⟩
  | .neg a, C, X, fc, sc, e, I, h => by
    unfold chkE at h
    split at h
    case h_2 => cases h
    exact ⟨pe_ev (pe_negD (soundE a I h).1) fun ρ => by rw [ev] <;> rfl, fun z => by cases z⟩
  | .ife c a b, C, X, fc, sc, e, I, h => by
    unfold chkE at h
    split at h
    case h_2 => cases h
    simp only [Bool.and_eq_true] at h
    exact ⟨pe_ev (pe_ifeD (soundT c I h.1.1) (soundE a I h.1.2).1 (soundE b I h.2).1) fun ρ => by rw [ev], fun z => by cases z⟩
  | .tup es, C, X, fc, sc, e, I, h => by
    unfold chkE at h
    split at h
    case h_2 => cases h
    rename_i xs k p
    simp only [Bool.and_eq_true, decide_eq_true_eq] at h
    refine ⟨pe_ev (pe_tupD (soundEs es I h.1.1 h.1.2) fun ρ r e => ?_) fun ρ => by rw [ev], fun z => by cases z⟩
    rw [evs_len es ρ r xs h.1.1 e]
    have : (1000 : Nat) ≤ LIM := by decide
    omega
  | .lst es, C, X, fc, sc, e, I, h => by
    unfold chkE at h
    split at h
    case h_2 => cases h
    rename_i xs p
    simp only [Bool.and_eq_true, decide_eq_true_eq] at h
    refine ⟨pe_ev (pe_lstD (soundEs es I h.1.1 h.1.2) fun ρ r e => ?_) fun ρ => by rw [ev], fun z => by cases z⟩
    rw [evs_len es ρ r xs h.1.1 e]
    have : (1000 : Nat) ≤ LIM := by decide
    omega
  | .idx a i, C, X, fc, sc, e, I, h => by
    unfold chkE at h
    split at h
    case h_2 => cases h
    simp only [Bool.and_eq_true] at h
    exact ⟨pe_ev (pe_idxD I.K (soundE a I h.1.1).1 (soundE i I h.1.2).1 (ix_of h.2)) fun ρ => by rw [ev], fun z => by cases z⟩
  | .slc a lo hi, C, X, fc, sc, e, I, h => by
    unfold chkE at h
    split at h
    case h_2 => cases h
    simp only [Bool.and_eq_true] at h
    exact ⟨pe_ev (pe_slcD I.K (soundE a I h.1.1).1 (soundO lo I h.1.2) (soundO hi I h.2)) fun ρ => by rw [ev], fun z => by cases z⟩
  | .rev a, C, X, fc, sc, e, I, h => by
    unfold chkE at h
    split at h
    case h_2 => cases h
    simp only [Bool.and_eq_true, decide_eq_true_eq] at h
    obtain ⟨rfl, h⟩ := h
    exact ⟨pe_ev (pe_revD I.K (soundE a I h).1) fun ρ => by rw [ev] <;> rfl, fun z => by cases z⟩
  | .call f es, C, X, fc, sc, e, I, h => by
    unfold chkE at h
    split at h
    case h_2 => cases h
    rename_i x p xs q
    simp only [Bool.and_eq_true, decide_eq_true_eq] at h
    obtain ⟨⟨⟨⟨hf, hg⟩, hn⟩, he⟩, hs⟩ := h
    cases e : Γ.fn[f]? with
    | none => exact ⟨pe_ev pe_nevD fun ρ => by rw [ev, e], fun z => by cases z⟩
    | some g =>
      obtain ⟨k, a, fd, ps, F, hr, hm, hk, hb⟩ := I.fn f x xs.length hf g e
      exact ⟨pe_ev (pe_userD F hr (gl_of I.sc hg) hm hk hb I.tk (soundEs es I he hs) (nm_of hn).1 (plain_of hs) (fun ρ r e => evs_len es ρ r xs he e) (fun z ρ => evs_nil he z ρ)) fun ρ => by rw [ev, e], fun z => by cases z⟩
  | .pri p es, C, X, fc, sc, e, I, h => by
    unfold chkE at h
    split at h
    case h_2 => cases h
    rename_i x p' xs q
    simp only [Bool.and_eq_true, decide_eq_true_eq, Bool.not_eq_true'] at h
    obtain ⟨⟨⟨⟨rfl, hg⟩, hx⟩, he⟩, hs⟩ := h
    cases xs with
    | nil => cases hx
    | cons y ys =>
      have pl := plain_of (X := X) hs
      exact ⟨pe_ev (pe_priD I.K I.calm (gl_of I.sc hg) (I.blt _ (blt_in p)) (soundEs es I he hs) (pl.1 _ _ rfl) (pl.2 _ _ _ rfl)) fun ρ => by rw [ev], fun z => by cases z⟩
  | .lrng es, C, X, fc, sc, e, I, h => by
    unfold chkE at h
    split at h
    case h_2 => cases h
    rename_i l p1 r p2 xs p3 p4
    simp only [Bool.and_eq_true, decide_eq_true_eq] at h
    obtain ⟨⟨⟨⟨⟨⟨rfl, rfl⟩, hg⟩, hg2⟩, he⟩, hs⟩, hl⟩ := h
    refine ⟨?_, fun z => by cases z⟩
    have m1 := I.blt "list" (by decide)
    have m2 := I.blt "range" (by decide)
    cases es with
    | nil =>
      cases xs with
      | nil => simp at hl
      | cons _ _ => unfold chkEs at he; cases he
    | cons a es =>
      cases xs with
      | nil => simp at hl
      | cons x xs =>
        unfold chkEs at he
        simp only [Bool.and_eq_true] at he
        simp only [List.all_cons, Bool.and_eq_true] at hs
        have h1 := (soundE a I he.1).1
        cases es with
        | nil =>
          cases xs with
          | cons _ _ => have := he.2; unfold chkEs at this; cases this
          | nil =>
            refine pe_ev (pe_mono (pe_listRg I.calm (gl_of I.sc hg) m1 (prg_1 (gl_of I.sc hg2) m2 h1 (star_cons hs.1)) rfl) fun σ H Q q => lrng1_imp q) fun ρ => ?_
            rw [ev, evs, evs]
        | cons b es =>
          cases xs with
          | nil => have := he.2; unfold chkEs at this; cases this
          | cons y xs =>
            have he2 := he.2
            unfold chkEs at he2
            simp only [Bool.and_eq_true] at he2
            simp only [List.all_cons, Bool.and_eq_true] at hs
            have h2 := (soundE b I he2.1).1
            cases xs with
            | cons _ _ => simp at hl
            | nil =>
              cases es with
              | cons _ _ => have := he2.2; unfold chkEs at this; cases this
              | nil =>
                refine pe_ev (pe_mono (pe_listRg I.calm (gl_of I.sc hg) m1 (prg_2 (gl_of I.sc hg2) m2 h1 h2 (star_cons hs.1) (star_cons hs.2.1) (star_any (by simp [hs.2.1]))) rfl) fun σ H Q q => lrng2_imp q) fun ρ => ?_
                rw [ev, evs, evs, evs]
  | .mth m o es, C, X, fc, sc, e, I, h => by
    unfold chkE at h
    split at h
    case h_2 => cases h
    rename_i x mn apos xs pos
    simp only [Bool.and_eq_true, decide_eq_true_eq] at h
    obtain ⟨⟨⟨⟨⟨⟨hm, ho⟩, he⟩, hs⟩, hb⟩, hn⟩, hl⟩ := h
    exact ⟨pe_ev (pe_mthD (mt := fun c => Γ.mt c m) (fun c g' e => I.mt m mn xs.length hm c g' e) I.tk (soundE o I ho).1 (soundEs es I he hs) (plain_of hs) (fun ρ r e => evs_len es ρ r xs he e) (fun z ρ => evs_nil he z ρ) (mcall_eq hb hs hn hl)) fun ρ => by rw [ev] <;> rfl, fun z => by cases z⟩
  | .bm1 m o a, C, X, fc, sc, e, I, h => by
    unfold chkE at h
    split at h
    case h_2 => cases h
    simp only [Bool.and_eq_true, decide_eq_true_eq] at h
    obtain ⟨⟨⟨⟨⟨rfl, ho⟩, ha⟩, hs⟩, hb⟩, hl⟩ := h
    exact ⟨pe_ev (pe_bmD I.K (soundE o I ho).1 (soundE a I ha).1 (star_cons hs) (base_of hb) hl) fun ρ => by rw [ev] <;> rfl, fun z => by cases z⟩
  | .blen o, C, X, fc, sc, e, I, h => by
    unfold chkE at h
    split at h
    case h_2 => cases h
    simp only [Bool.and_eq_true, decide_eq_true_eq] at h
    obtain ⟨⟨⟨rfl, ho⟩, hb⟩, hl⟩ := h
    exact ⟨pe_ev (pe_blenD (soundE o I ho).1 (base_of hb) hl) fun ρ => by rw [ev] <;> rfl, fun z => by cases z⟩
  | .fld o f, C, X, fc, sc, e, I, h => by
    unfold chkE at h
    split at h
    case h_2 => cases h
    rename_i x fn p
    simp only [Bool.and_eq_true, decide_eq_true_eq] at h
    obtain ⟨⟨hf, ho⟩, hb⟩ := h
    exact ⟨pe_ev (pe_fldD (fi := fun c => Γ.fi c f) I.K (fun c k e => I.fs f fn hf c k e) (soundE o I ho).1 (base_of hb)) fun ρ => by rw [ev] <;> rfl, fun z => by cases z⟩
  | .isc a k, C, X, fc, sc, e, I, h => by
    unfold chkE at h
    split at h
    case h_2 => cases h
    simp only [Bool.and_eq_true, decide_eq_true_eq] at h
    obtain ⟨⟨⟨⟨⟨⟨rfl, hg⟩, hk⟩, hg2⟩, hn⟩, ha⟩, hs⟩ := h
    obtain ⟨n1, n2⟩ := nm_of hn
    cases q : T.ck[k]? with
    | none => rw [q] at hk; cases hk
    | some t =>
      obtain ⟨x, own⟩ := t
      rw [q] at hk
      cases hk
      exact ⟨pe_ev (pe_iscD I.K (gl_of I.sc hg) (I.blt _ (by decide)) (I.blt _ (by decide)) (gl_of I.sc hg2) n1 (I.ck k x own q) (soundE a I ha).1 (star_cons hs) rfl) fun ρ => by rw [ev], fun z => by cases z⟩
  | .cntL o a, C, X, fc, sc, e, I, h => by
    unfold chkE at h
    split at h
    case h_2 => cases h
    simp only [Bool.and_eq_true, decide_eq_true_eq] at h
    obtain ⟨⟨⟨⟨⟨rfl, ho⟩, ha⟩, hs⟩, hb⟩, hl⟩ := h
    exact ⟨pe_ev (pe_cntD I.K (soundE o I ho).1 (soundE a I ha).1 hs (base_of hb) hl (by rw [star_cons hs]; rfl)) fun ρ => by rw [ev] <;> rfl, fun z => by cases z⟩
  | .isi a t, C, X, fc, sc, e, I, h => by
    unfold chkE at h
    split at h
    case h_2 => cases h
    simp only [Bool.and_eq_true, decide_eq_true_eq] at h
    obtain ⟨⟨⟨⟨⟨rfl, rfl⟩, hg⟩, hg2⟩, ha⟩, hs⟩ := h
    exact ⟨pe_ev (pe_isiD I.K (gl_of I.sc hg) (I.blt _ (by decide)) (gl_of I.sc hg2) (I.blt _ (ty_in t)) (soundE a I ha).1 (star_cons hs) rfl) fun ρ => by rw [ev], fun z => by cases z⟩
  | .lc own it tg cnd e', C, X, fc, sc, e, I, h => by
    unfold chkE at h
    split at h
    case h_2 => cases h
    rename_i elt tgt iter ifs scope p
    simp only [Bool.and_eq_true] at h
    obtain ⟨⟨⟨⟨⟨⟨hb, hi⟩, ht⟩, hsub⟩, hc⟩, he⟩, hs⟩ := h
    have hsub' : ∀ i ∈ tg, i ∈ own := fun i hi => by simpa using List.all_eq_true.mp hsub i hi
    have hb' : BlkOk X.N X.env.scope scope (own.map fun i => (T.N.getD i Str.empty, i)) := by
      rw [I.nm, I.sc]; exact blkOk_by hb
    have ho : ((own.map fun i => (T.N.getD i Str.empty, i)).map (·.2)) = own := by
      rw [List.map_map]
      exact List.map_id' own
    have lc := pe_lc (elt := elt) (pos := p) I.calm I.nd (soundI it I hi) hb' (fun s H Cd cl fp => tg_sound (I.blk (s := s) (H := H) (cl := cl) (A := Cd) (fp := fp)) ht) (fun s H Cd cl fp => soundIf cnd (I.blk (s := s) (H := H) (cl := cl) (A := Cd) (fp := fp)) hc) (fun s H Cd cl fp => (soundE e' (I.blk (s := s) (H := H) (cl := cl) (A := Cd) (fp := fp)) he).1) (fold_of hs)
    rw [ho] at lc
    exact ⟨pe_ev (pe_mono lc fun σ H Q q => lc_imp hsub' q) fun ρ => by rw [ev] <;> rfl, fun z => by cases z⟩
  | .inxL o a, C, X, fc, sc, e, I, h => by
    unfold chkE at h
    split at h
    case h_2 => cases h
    simp only [Bool.and_eq_true, decide_eq_true_eq] at h
    obtain ⟨⟨⟨⟨⟨rfl, ho⟩, ha⟩, hs⟩, hb⟩, hl⟩ := h
    exact ⟨pe_ev (pe_inxLD I.K (soundE o I ho).1 (soundE a I ha).1 hs (base_of hb) hl (by rw [star_cons hs]; rfl)) fun ρ => by rw [ev] <;> rfl, fun z => by cases z⟩
  | .inxS o a, C, X, fc, sc, e, I, h => by
    unfold chkE at h
    split at h
    case h_2 => cases h
    simp only [Bool.and_eq_true, decide_eq_true_eq] at h
    obtain ⟨⟨⟨⟨⟨rfl, ho⟩, ha⟩, hs⟩, hb⟩, hl⟩ := h
    exact ⟨pe_ev (pe_inxSD (soundE o I ho).1 (soundE a I ha).1 hs (base_of hb) hl) fun ρ => by rw [ev] <;> rfl, fun z => by cases z⟩
  | .lset a, C, X, fc, sc, e, I, h => by
    unfold chkE at h
    split at h
    case h_2 => cases h
    simp only [Bool.and_eq_true, decide_eq_true_eq] at h
    obtain ⟨⟨⟨⟨⟨rfl, rfl⟩, hg⟩, hg2⟩, ha⟩, hs⟩ := h
    exact ⟨pe_ev (pe_lsetD I.K I.calm (gl_of I.sc hg) (I.blt _ (by decide)) (gl_of I.sc hg2) (I.blt _ (by decide)) (soundE a I ha).1 hs) fun ρ => by rw [ev], fun z => by cases z⟩
  | .new k es, C, X, fc, sc, e, I, h => by
    unfold chkE at h
    split at h
    case h_2 => cases h
    rename_i x p xs q
    simp only [Bool.and_eq_true, decide_eq_true_eq] at h
    obtain ⟨⟨⟨⟨hf, hg⟩, hn⟩, he⟩, hs⟩ := h
    cases e : Γ.nw[k]? with
    | none => exact ⟨pe_ev pe_nevD fun ρ => by rw [ev, e], fun z => by cases z⟩
    | some g => exact ⟨pe_ev (pe_newD (I.nw k x xs.length hf g e) (gl_of I.sc hg) I.tk (soundEs es I he hs) (nm_of hn).1 (plain_of hs) (fun ρ r e => evs_len es ρ r xs he e) (fun z ρ => evs_nil he z ρ)) fun ρ => by rw [ev, e], fun z => by cases z⟩
  | .sfd i f, C, X, fc, sc, e, I, h => by
    unfold chkE at h
    split at h
    case h_2 => cases h
    rename_i x p fn p'
    simp only [Bool.and_eq_true, decide_eq_true_eq] at h
    obtain ⟨⟨⟨h1, h2⟩, h3⟩, h4⟩ := h
    obtain ⟨n1, n2⟩ := nm_of h3
    exact ⟨pe_ev (pe_mono (pe_fld (pe_var (i := i) (by rw [I.nm]; exact h1) (vis_of I.sc h2) n1 n2) rfl) fun σ H Q q => sfd_imp (fi := fun c => Γ.fi c f) (fun c k e => I.fs f fn h4 c k e) q) fun ρ => by rw [ev] <;> rfl, fun z => by cases z⟩
theorem soundEs {T : Tb} {Γ : Env} : ∀ (ir : Exs) {C : Ctx} {X : Cx} {fc : Option Scope} {sc : Scope} {xs : List Expr}, XOk T Γ C X fc sc → chkEs T ir fc sc xs = true → xs.all notStar = true → PA X xs (tA C (evs Γ ir))
  | .nil, C, X, fc, sc, xs, I, h, hs => by
    unfold chkEs at h
    cases xs with
    | nil => exact pa_ev pa_nilD fun ρ => by rw [evs]
    | cons _ _ => cases h
  | .cons a es, C, X, fc, sc, xs, I, h, hs => by
    unfold chkEs at h
    cases xs with
    | nil => cases h
    | cons x xs =>
      simp only [Bool.and_eq_true] at h
      simp only [List.all_cons, Bool.and_eq_true] at hs
      exact pa_ev (pa_consD (soundE a I h.1).1 (soundEs es I h.2 hs.2) (star_cons hs.1)) fun ρ => by rw [evs]
theorem soundBv {T : Tb} {Γ : Env} : ∀ (c : Bool) (ir : Exs) {C : Ctx} {X : Cx} {fc : Option Scope} {sc : Scope} {xs : List Expr} {pos : Pos}, XOk T Γ C X fc sc → chkEs T ir fc sc xs = true → xs ≠ [] → PE X (.BoolOp (bopO c) xs pos) (tE C (evBv Γ c ir))
  | c, .nil, C, X, fc, sc, xs, pos, I, h, hn => by
    unfold chkEs at h
    cases xs with
    | nil => exact absurd rfl hn
    | cons _ _ => cases h
  | c, .cons a es, C, X, fc, sc, xs, pos, I, h, hn => by
    unfold chkEs at h
    cases xs with
    | nil => cases h
    | cons x xs =>
      simp only [Bool.and_eq_true] at h
      cases xs with
      | nil =>
        cases es with
        | nil => exact pe_ev (pe_bv1 (soundE a I h.1).1) fun ρ => by rw [evBv, evBv] <;> rfl
        | cons _ _ => have := h.2; unfold chkEs at this; cases this
      | cons y ys => exact pe_ev (pe_bv (soundE a I h.1).1 (soundBv c es I h.2 (by simp))) fun ρ => by rw [evBv] <;> rfl
theorem soundO {T : Tb} {Γ : Env} : ∀ (ir : Exs) {C : Ctx} {X : Cx} {fc : Option Scope} {sc : Scope} {x : Option Expr}, XOk T Γ C X fc sc → chkO T ir fc sc x = true → PO X x (tO C (evO Γ ir))
  | .nil, C, X, fc, sc, x, I, h => by
    unfold chkO at h
    cases x with
    | none => exact po_ev po_noneD fun ρ => by rw [evO]
    | some _ => cases h
  | .cons a es, C, X, fc, sc, x, I, h => by
    unfold chkO at h
    cases x with
    | none => cases h
    | some x => exact po_ev (po_someD (soundE a I h).1) fun ρ => by rw [evO] <;> rfl
theorem soundT {T : Tb} {Γ : Env} : ∀ (ir : Te) {C : Ctx} {X : Cx} {fc : Option Scope} {sc : Scope} {x : Expr}, XOk T Γ C X fc sc → chkT T ir fc sc x = true → PT X x (tT C (evT Γ ir))
  | .val e, C, X, fc, sc, x, I, h => by
    unfold chkT at h
    simp only [Bool.and_eq_true, Bool.or_eq_true] at h
    obtain ⟨h1, h2⟩ := soundE e I h.1
    rcases h.2 with q | q
    · exact pt_ev (h2 q) fun ρ => by rw [evT]
    · exact pt_ev (pt_truD I.K h1 (tru_of q)) fun ρ => by rw [evT]
  | .bop c ts, C, X, fc, sc, x, I, h => by
    unfold chkT at h
    split at h
    case h_2 => cases h
    simp only [Bool.and_eq_true, decide_eq_true_eq, Bool.not_eq_true'] at h
    obtain ⟨⟨rfl, hx⟩, he⟩ := h
    exact pt_ev (soundTs c ts I he (by rintro rfl; cases hx)).pt fun ρ => by rw [evT]
  | .not t, C, X, fc, sc, x, I, h => by
    unfold chkT at h
    split at h
    case h_2 => cases h
    exact pt_ev (pt_notD (soundT t I h)) fun ρ => by rw [evT]
theorem soundTs {T : Tb} {Γ : Env} : ∀ (c : Bool) (ir : Tes) {C : Ctx} {X : Cx} {fc : Option Scope} {sc : Scope} {xs : List Expr} {pos : Pos}, XOk T Γ C X fc sc → chkTs T ir fc sc xs = true → xs ≠ [] → PW X (.BoolOp (bopO c) xs pos) (tT C (evBs Γ c ir))
  | c, .nil, C, X, fc, sc, xs, pos, I, h, hn => by
    unfold chkTs at h
    cases xs with
    | nil => exact absurd rfl hn
    | cons _ _ => cases h
  | c, .cons a es, C, X, fc, sc, xs, pos, I, h, hn => by
    unfold chkTs at h
    cases xs with
    | nil => cases h
    | cons x xs =>
      simp only [Bool.and_eq_true] at h
      cases xs with
      | nil =>
        cases es with
        | nil => exact pw_ev (pw_bs1 (soundT a I h.1)) fun ρ => by rw [evBs, evBs]
        | cons _ _ => have := h.2; unfold chkTs at this; cases this
      | cons y ys => exact pw_ev (pw_bs (soundT a I h.1) (soundTs c es I h.2 (by simp))) fun ρ => by rw [evBs]
theorem soundIf {T : Tb} {Γ : Env} : ∀ (ir : Tes) {C : Ctx} {X : Cx} {fc : Option Scope} {sc : Scope} {xs : List Expr}, XOk T Γ C X fc sc → chkIf T ir fc sc xs = true → PTs X xs (tT C (evBs Γ true ir))
  | .nil, C, X, fc, sc, xs, I, h => by
    unfold chkIf at h
    cases xs with
    | nil =>
      refine ⟨fun pins s σ H Q J q => pts_nil.run pins s σ H Q J ?_⟩
      obtain ⟨ρ, P, N, S, q⟩ := q
      rw [evBs] at q
      exact q.now S.reg
    | cons _ _ => cases h
  | .cons t ts, C, X, fc, sc, xs, I, h => by
    unfold chkIf at h
    split at h
    case h_2 => cases h
    simp only [Bool.and_eq_true] at h
    cases ts with
    | cons _ _ => have := h.2; cases this
    | nil =>
      have p := soundT t I h.1
      refine ⟨fun pins s σ H Q J q => (pts_one p).run pins s σ H Q J ?_⟩
      obtain ⟨ρ, P, N, S, q⟩ := q
      rw [evBs, evBs] at q
      refine ⟨ρ, P, N, S, q.bind.mono fun k P1 N1 H1 e a1 h1 => ?_⟩
      split at h1
      · rename_i e; subst e; exact h1.now (S.adv a1).reg
      · exact h1.now (S.adv a1).reg
theorem soundI {T : Tb} {Γ : Env} : ∀ (ir : Itx) {C : Ctx} {X : Cx} {fc : Option Scope} {sc : Scope} {t x : Expr}, XOk T Γ C X fc sc → chkI T ir fc sc t x = true → PI X t x (tI C (evI Γ ir))
  | .any e, C, X, fc, sc, t, x, I, h => by
    unfold chkI at h
    exact pi_ev (pi_anyD I.K (soundE e I h).1) fun ρ => by rw [evI]
  | .rng es, C, X, fc, sc, t, x, I, h => by
    unfold chkI at h
    split at h
    case h_2 => cases h
    rename_i r p xs q
    simp only [Bool.and_eq_true, decide_eq_true_eq] at h
    obtain ⟨⟨⟨⟨rfl, hg⟩, he⟩, hs⟩, hl⟩ := h
    have m2 := I.blt "range" (by decide)
    have pa := soundEs es I he hs
    rcases hl with hl | hl | hl
    · obtain ⟨a, rfl⟩ := one_len hl
      simp only [List.all_cons, Bool.and_eq_true] at hs
      exact pi_ev (pi_rng1D (gl_of I.sc hg) m2 pa (fun ρ r e => evs_len es ρ r _ he e) (star_cons hs.1)) fun ρ => by rw [evI]
    · obtain ⟨a, b, rfl⟩ := two_len hl
      have hs' := hs
      simp only [List.all_cons, Bool.and_eq_true] at hs
      exact pi_ev (pi_rng2D (gl_of I.sc hg) m2 pa (fun ρ r e => evs_len es ρ r _ he e) (by rw [star_cons hs.1, star_cons hs.2.1]; rfl) (star_cons hs.2.1)) fun ρ => by rw [evI]
    · obtain ⟨a, b, c, rfl⟩ := three_len hl
      simp only [List.all_cons, Bool.and_eq_true] at hs
      exact pi_ev (pi_rng3D (gl_of I.sc hg) m2 pa (fun ρ r e => evs_len es ρ r _ he e) (star_cons hs.1) (star_any (by simp [hs.2.1, hs.2.2.1]))) fun ρ => by rw [evI]
  | .zp a b, C, X, fc, sc, t, x, I, h => by
    unfold chkI at h
    split at h
    case h_2 => cases h
    simp only [Bool.and_eq_true, decide_eq_true_eq] at h
    obtain ⟨⟨⟨⟨⟨⟨rfl, hg⟩, ha⟩, hb⟩, hs⟩, hs2⟩, ht⟩ := h
    cases t <;> try cases ht
    exact pi_ev (pi_zpD I.K (gl_of I.sc hg) (I.blt _ (by decide)) (soundE a I ha).1 (soundE b I hb).1 (star_cons hs) (star_cons hs2) (star_any (by simp [hs2]))) fun ρ => by rw [evI] <;> rfl
  | .en a, C, X, fc, sc, t, x, I, h => by
    unfold chkI at h
    split at h
    case h_2 => cases h
    simp only [Bool.and_eq_true, decide_eq_true_eq] at h
    obtain ⟨⟨⟨⟨rfl, hg⟩, ha⟩, hs⟩, ht⟩ := h
    cases t <;> try cases ht
    exact pi_ev (pi_enD I.K (gl_of I.sc hg) (I.blt _ (by decide)) (soundE a I ha).1 (star_cons hs)) fun ρ => by rw [evI] <;> rfl
  | .rv a, C, X, fc, sc, t, x, I, h => by
    unfold chkI at h
    split at h
    case h_2 => cases h
    simp only [Bool.and_eq_true, decide_eq_true_eq] at h
    obtain ⟨⟨⟨rfl, hg⟩, ha⟩, hs⟩ := h
    exact pi_ev (pi_rvD I.K (gl_of I.sc hg) (I.blt _ (by decide)) (soundE a I ha).1 (star_cons hs)) fun ρ => by rw [evI] <;> rfl
end
end Cm

set_option Elab.async false
set_option linter.all false
set_option maxRecDepth 100000
set_option maxHeartbeats 1000000
/-! The check of statements. -/
namespace Cm
open PySem PySem.Spec PyProof.Rows L2

/-- a comprehension at a name of its own line -/
def swB (sc : Scope) (x : Str) (pn : Pos) (v : Expr) : Bool := match v with
  | .ListComp _ _ scope pos => (match sc.kind with
    | .function => true
    | _ => false) && decide (sc.names.lookup x = some .local) && (pn.line == pos.line) && !(scope.names.any fun (n, k) => n == x && (k == .local || k == .cell))
  | .SetComp _ _ _ _ => false
  | .DictComp _ _ _ _ _ => false
  | _ => true
def isLc : Ex → Bool
  | .lc _ _ _ _ _ => true
  | _ => false
def notTup : Expr → Bool
  | .Tuple _ _ _ => false
  | _ => true
/-- two or three names of one line bound at once -/
def parB (T : Tb) (sc : Scope) : List Nat → List Expr → Nat → Bool
  | [], [], _ => true
  | i :: is, .Name x p :: es, l => decide (T.N[i]? = some x) && decide (sc.names.lookup x = some .local) && (p.line == l) && parB T sc is es l
  | _, _, _ => false
/-- the body of a try -/
def chkTr (T : Tb) (sc : Scope) : Tr → List Stmt → Bool
  | .ex e, ss => match ss with
    | [.Expr v _] => chkE T e none sc v && notComp v
    | _ => false
  | .as j e, ss => match ss with
    | [.Assign [.Name x pn] v _] => decide (T.N[j]? = some x) && tgB none sc x && chkE T e none sc v && (if isLc e then swB sc x pn v else notComp v)
    | _ => false
  | .iff t a b, ss => match ss with
    | [.If c xs ys _] => chkT T t none sc c && chkTr T sc a xs && chkTr T sc b ys
    | _ => false
mutual
def chkS (T : Tb) (sc : Scope) : Sm → Stmt → Bool
  | .nev, _ => true
  | .rse k, s => match s with
    | .Raise (some (.Call (.Name x _) [.Constant (.str _) _ _] [] _)) none _ => decide (T.xk[k]? = some x) && glB sc x && nmB x
    | _ => false
  | .tryx k i j b, s => match s with
    | .Try body [.ExceptHandler (some (.Name x _)) (some n) [.Assign [.Name m _] (.Name n2 _) _] _] [] [] _ => decide ((T.ck[k]?).map (·.1) = some x) && glB sc x && nmB x && decide (T.N[i]? = some n) && decide (T.N[j]? = some m) && decide (n2 = n) && decide (sc.names.lookup n = some .local) && decide (sc.names.lookup m = some .local) && nmB n && decide (i ≠ j) && chkTr T sc b body
    | _ => false
  | .asg i e, s => match s with
    | .Assign [.Name x pn] v _ => decide (T.N[i]? = some x) && tgB none sc x && chkE T e none sc v && (if isLc e then swB sc x pn v else notComp v)
    | _ => false
  | .own i e, s => match s with
    | .Assign [.Name x pn] v _ => decide (T.N[i]? = some x) && tgB none sc x && chkE T e none sc v && (if isLc e then swB sc x pn v else notComp v)
    | _ => false
  | .asgT tg e, s => match s with
    | .Assign [t] v _ => chkTg T none sc tg t && isTup t && chkE T e none sc v && notComp v && notTup v
    | _ => false
  | .par tg es, s => match s with
    | .Assign [.Tuple ts _ _] (.Tuple vs _ _) _ => chkEs T es none sc vs && vs.all notStar && parB T sc tg ts ((ts.head?.map (·.pos.line)).getD 0) && !vs.all (foldedForSure 8) && !vs.all (constantsAlone 8) && decide (tg.Nodup) && decide (ts.length = vs.length) && decide (ts.length = 2 ∨ ts.length = 3) && (match sc.kind with
      | .function => true
      | _ => false)
    | _ => false
  | .put i ix e, s => match s with
    | .Assign [.Subscript (.Name x _) y _] v _ => decide (T.N[i]? = some x) && visB sc x && nmB x && notSlice y && chkE T ix none sc y && chkE T e none sc v
    | _ => false
  | .app i e, s => match s with
    | .Expr (.Call (.Attribute (.Name x _) mn apos) [y] [] cpos) _ => decide (T.N[i]? = some x) && visB sc x && nmB x && decide (mn = ("append" : Str)) && chkE T e none sc y && notStar y && (apos.endLine == cpos.line)
    | _ => false
  | .ext i e, s => match s with
    | .Expr (.Call (.Attribute (.Name x _) mn apos) [y] [] cpos) _ => decide (T.N[i]? = some x) && visB sc x && nmB x && decide (mn = ("extend" : Str)) && chkE T e none sc y && notStar y && (apos.endLine == cpos.line)
    | _ => false
  | .popv j i, s => match s with
    | .Assign [.Name z _] (.Call (.Attribute (.Name x _) mn apos) [] [] cpos) _ => decide (T.N[j]? = some z) && tgB none sc z && decide (T.N[i]? = some x) && visB sc x && nmB x && decide (mn = ("pop" : Str)) && (apos.endLine == cpos.line)
    | _ => false
  | .clr i, s => match s with
    | .Expr (.Call (.Attribute (.Name x _) mn apos) [] [] cpos) _ => decide (T.N[i]? = some x) && visB sc x && nmB x && decide (mn = ("clear" : Str)) && (apos.endLine == cpos.line)
    | _ => false
  | .expr e, s => match s with
    | .Expr v _ => chkE T e none sc v && notComp v
    | _ => false
  | .ret e, s => match s with
    | .Return (some v) _ => chkE T e none sc v
    | _ => false
  | .retN, s => match s with
    | .Return none _ => true
    | _ => false
  | .pas, s => match s with
    | .Pass _ => true
    | .Expr (.Constant (.str _) _ _) _ => true
    | _ => false
  | .brk, s => match s with
    | .Break _ => true
    | _ => false
  | .cnt, s => match s with
    | .Continue _ => true
    | _ => false
  | .iff c a b, s => match s with
    | .If t xs ys _ => chkT T c none sc t && chkSs T sc a xs && chkSs T sc b ys
    | _ => false
  | .for it tg b, s => match s with
    | .For t iter body [] _ => chkI T it none sc t iter && chkTg T none sc tg t && chkSs T sc b body && notSet iter
    | _ => false
  | .apop i j ix, s => match s with
    | .Expr (.Call (.Attribute (.Name x _) mn apos) [.Call (.Attribute (.Name y _) mn2 apos2) [z] [] cpos2] [] cpos) _ => decide (T.N[i]? = some x) && visB sc x && nmB x && decide (mn = ("append" : Str)) && (apos.endLine == cpos.line) && decide (T.N[j]? = some y) && visB sc y && nmB y && decide (mn2 = ("pop" : Str)) && (apos2.endLine == cpos2.line) && chkE T ix none sc z && notStar z
    | _ => false
  | .fset f e, s => match s with
    | .Assign [.Attribute (.Name x _) fn _] v _ => decide (T.N[0]? = some x) && visB sc x && nmB x && decide (T.fs[f]? = some fn) && chkE T e none sc v
    | _ => false
  | .whl c b, s => match s with
    | .While t body [] _ => chkT T c none sc t && chkSs T sc b body
    | _ => false
def chkSs (T : Tb) (sc : Scope) : Sms → List Stmt → Bool
  | .nil, ss => ss.isEmpty
  | .cons s ir, ss => match ss with
    | st :: ss => chkS T sc s st && chkSs T sc ir ss
    | [] => false
  | .frz _ ir, ss => chkSs T sc ir ss
end
/-- a bound comprehension -/
theorem lc_shape {T : Tb} {own : List Nat} {it : Itx} {tg : List Nat} {cnd : Tes} {e' : Ex} {fc : Option Scope} {sc : Scope} {v : Expr} (h : chkE T (.lc own it tg cnd e') fc sc v = true) : ∃ elt tgt iter ifs scope p, v = .ListComp elt [⟨tgt, iter, ifs, 0⟩] scope p := by
  unfold chkE at h
  split at h
  case h_2 => cases h
  exact ⟨_, _, _, _, _, _, rfl⟩
section
variable {T : Tb} {Γ : Env} {C : Ctx} {X : Cx} {sc : Scope}
theorem set_any {i : Nat} {e : Ex} {x : Str} {pn pos : Pos} {v : Expr} (I : XOk T Γ C X none sc) (hi : T.N[i]? = some x) (ht : tgB none sc x = true) (hv : chkE T e none sc v = true) (hw : (if isLc e then swB sc x pn v else notComp v) = true) : PS X (.Assign [.Name x pn] v pos) (tAsg (tE C (ev Γ e)) (gName i)) := by
  obtain ⟨h1, h2⟩ := tg_of I ht
  cases e with
  | lc own it tg cnd e' =>
    obtain ⟨elt, tgt, iter, ifs, scope, p, rfl⟩ := lc_shape hv
    unfold chkE at hv
    simp only [Bool.and_eq_true] at hv
    obtain ⟨⟨⟨⟨⟨⟨hb, hi'⟩, ht'⟩, hsub⟩, hc⟩, he⟩, hs⟩ := hv
    simp only [isLc, if_true, swB, Bool.and_eq_true, decide_eq_true_eq, Bool.not_eq_true'] at hw
    obtain ⟨⟨⟨hk, hl⟩, hline⟩, hany⟩ := hw
    have hsub' : ∀ i ∈ tg, i ∈ own := fun i hi => by simpa using List.all_eq_true.mp hsub i hi
    have hb' : BlkOk X.N X.env.scope scope (own.map fun i => (T.N.getD i Str.empty, i)) := by
      rw [I.nm, I.sc]; exact blkOk_by hb
    have ho : ((own.map fun i => (T.N.getD i Str.empty, i)).map (·.2)) = own := by
      rw [List.map_map]
      exact List.map_id' own
    have hk' : X.env.scope.kind = .function := by
      rw [I.sc]
      cases e : sc.kind <;> simp_all
    have hl' : X.env.scope.names.lookup x = some .local := by rw [I.sc]; exact hl
    have lc := ps_setLc (i := i) (y := x) (py := pn) (spos := pos) (elt := elt) (pos := p) I.calm I.nd (by rw [I.nm]; exact hi) hl' (sw_true hk' hl' hline hany) (soundI it I hi') hb' (fun s H Cd cl fp => tg_sound (I.blk (s := s) (H := H) (cl := cl) (A := Cd) (fp := fp)) ht') (fun s H Cd cl fp => soundIf cnd (I.blk (s := s) (H := H) (cl := cl) (A := Cd) (fp := fp)) hc) (fun s H Cd cl fp => (soundE e' (I.blk (s := s) (H := H) (cl := cl) (A := Cd) (fp := fp)) he).1) (fold_of hs)
    rw [ho] at lc
    refine ps_mono lc fun D σ H q => ?_
    have eg : (ev Γ (.lc own it tg cnd e')) = gLc own tg (evI Γ it) (evBs Γ true cnd) (ev Γ e') := by funext ρ; rw [ev] <;> rfl
    unfold tAsg at q ⊢
    rw [eg] at q
    exact lc_imp hsub' q
  | _ =>
    have hc : notComp v = true := hw
    exact ps_set I.nd (by rw [I.nm]; exact hi) h1 (soundE _ I hv).1 (swap_none hc) h2
theorem swap_sub {x y : Expr} {p : Pos} {v : Expr} {l : Nat} {env : PySem.Env} : swapsWithSole [.Subscript x y p] v l env = pure false := by
  cases v <;> rfl
theorem stores_sub {x y : Expr} {p : Pos} {v : Expr} {env : PySem.Env} : swappedStores [.Subscript x y p] v env = pure none := by
  cases v <;> rfl
theorem stores_nt {t v : Expr} {env : PySem.Env} (h : notTup v = true) : swappedStores [t] v env = pure none := by
  cases v <;> first | (cases t <;> rfl) | cases h
theorem sole_of {t v : Expr} {l : Nat} {env : PySem.Env} (h : notComp v = true) : swapsWithSole [t] v l env = pure false := swap_none h
theorem asn_sub {x y : Expr} {p : Pos} {env : PySem.Env} (h : notSlice y = true) (v : Value) : assign (.Subscript x y p) env v = (do
      let ov ← holding [v] (eval x env)
      let iv ← holding [v, ov] (eval y env)
      standAt p
      holding [v, ov, iv] (setItem ov iv v)
      release [v, ov, iv] []) := by
  cases y <;> first | rfl | cases h
theorem tup_one {t : Expr} {env : PySem.Env} (h : isTup t = true) : (assignEach [t] env).map (·.2) = [assign t env] := by
  cases t <;> first | rfl | cases h
theorem few_one {e : Expr} {env : PySem.Env} {cpos : Pos} (h : notStar e = true) : ((backTo cpos (starEach [e] env)).all (fun x => !x.1) && (backToKw cpos (keywordEach [] env)).all (fun x => x.1.isSome)
      && decide ([e].length + ([] : List Keyword).length + (if ([] : List Keyword).isEmpty then 0 else 1) < 30)) = true := by
  rw [star_cons h]; rfl
end
theorem st_of {e : Expr} (h : (match e with
        | Expr.Starred _ _ => true
        | _ => false) = true) (n : notStar e = true) : False := by
  cases e <;> first | exact (Bool.false_ne_true n).elim | exact (Bool.false_ne_true h).elim
theorem stores2 {x y : Str} {px py pt pt2 : Pos} {kt k2 : Nat} {a b : Expr} {env : PySem.Env} (hk : env.scope.kind = .function) (hx : env.scope.names.lookup x = some .local) (hy : env.scope.names.lookup y = some .local) (hl : (py.line == px.line) = true) (hxy : x ≠ y)
    (hs : [a, b].all notStar = true) (hf : [a, b].all (foldedForSure 8) = false) (hc : [a, b].all (constantsAlone 8) = false) :
    swappedStores [.Tuple [.Name x px, .Name y py] kt pt] (.Tuple [a, b] k2 pt2) env = pure (some [x, y]) := by
  have kx : env.kindOf x = some .local := hx
  have ky : env.kindOf y = some .local := hy
  have bk : env.blockKind = .function := by unfold Env.blockKind; rw [hk]; rfl
  unfold swappedStores
  simp only [List.length_cons, List.length_nil, bk, hf, hc, List.filterMap_cons, List.filterMap_nil, kx, ky, List.head?_cons, Option.map_some, Option.getD_some]
  have hl' : py.line = px.line := by simpa using hl
  have hyx : (y == x) = false := by simpa using fun z => hxy z.symm
  simp [Expr.pos, hl', List.eraseDups_cons, hyx]
  simp only [List.all_cons, Bool.and_eq_true] at hs
  rintro (z | z)
  · exact (st_of z hs.1).elim
  · exact (st_of z hs.2.1).elim
theorem stores3 {x y w : Str} {px py pw pt pt2 : Pos} {kt k2 : Nat} {a b c : Expr} {env : PySem.Env} (hk : env.scope.kind = .function) (hx : env.scope.names.lookup x = some .local) (hy : env.scope.names.lookup y = some .local) (hw : env.scope.names.lookup w = some .local) (hl : (py.line == px.line) = true) (hl2 : (pw.line == px.line) = true) (hxy : x ≠ y) (hxw : x ≠ w) (hyw : y ≠ w)
    (hs : [a, b, c].all notStar = true) (hf : [a, b, c].all (foldedForSure 8) = false) (hc : [a, b, c].all (constantsAlone 8) = false) :
    swappedStores [.Tuple [.Name x px, .Name y py, .Name w pw] kt pt] (.Tuple [a, b, c] k2 pt2) env = pure (some [x, y, w]) := by
  have kx : env.kindOf x = some .local := hx
  have ky : env.kindOf y = some .local := hy
  have kw : env.kindOf w = some .local := hw
  have bk : env.blockKind = .function := by unfold Env.blockKind; rw [hk]; rfl
  unfold swappedStores
  simp only [List.length_cons, List.length_nil, bk, hf, hc, List.filterMap_cons, List.filterMap_nil, kx, ky, kw, List.head?_cons, Option.map_some, Option.getD_some]
  have hl' : py.line = px.line := by simpa using hl
  have hl2' : pw.line = px.line := by simpa using hl2
  have hyx : (y == x) = false := by simpa using fun z => hxy z.symm
  have hwx : (w == x) = false := by simpa using fun z => hxw z.symm
  have hwy : (w == y) = false := by simpa using fun z => hyw z.symm
  simp [Expr.pos, hl', hl2', List.eraseDups_cons, hyx, hwx, hwy]
  simp only [List.all_cons, Bool.and_eq_true] at hs
  rintro (z | z | z)
  · exact (st_of z hs.1).elim
  · exact (st_of z hs.2.1).elim
  · exact (st_of z hs.2.2.1).elim
section
variable {T : Tb} {Γ : Env} {C : Ctx} {X : Cx} {sc : Scope}
theorem held_val {P N H H0 : Hp} {er : ER} {v : V} {f : D → Bool → Out} {D : Ends} {P0 N0 : Hp} (h : ERr C P N H H0 er v) (hf : er.frz = er) (o : outS C P0 N0 D (held er f)) : ∃ d b, er = .val d b ∧ RepB C P N b d v ∧ outS C P0 N0 D (f d b) := by
  cases er with
  | val d b => exact ⟨d, b, rfl, h, o⟩
  | fre d b => cases hf
  | brw d b => exact o.elim
theorem evs_frz : ∀ {es : Exs} {ρ : List Sl} {r : List ER}, evs Γ es ρ = .ok r → ∀ e ∈ r, e.frz = e
  | .nil, ρ, r, h => by rw [evs] at h; cases h; intro e he; cases he
  | .cons a es, ρ, r, h => by
    rw [evs] at h
    cases e1 : ev Γ a ρ with
    | bad => rw [e1] at h; cases h
    | exc c fs => rw [e1] at h; cases h
    | ok v =>
      rw [e1, RE.bind_ok] at h
      cases e2 : evs Γ es ρ with
      | bad => rw [e2] at h; cases h
      | exc c fs => rw [e2] at h; cases h
      | ok q =>
        rw [e2, RE.bind_ok] at h
        cases h
        intro e he
        rcases List.mem_cons.mp he with rfl | he
        · cases v <;> rfl
        · exact evs_frz e2 e he
theorem par2_imp {i j : Nat} {es : Exs} {D : Ends} {σ : L2.St} {H : Hp} (q : tS C (fun ρ => (evs Γ es ρ).out fun r => parGo [i, j] r ρ) D σ H) : tPar i j (tA C (evs Γ es)) D σ H := by
  obtain ⟨ρ, P, N, S, h⟩ := q
  refine ⟨ρ, P, N, S, (h.res S.reg).mono fun r P1 N1 H1 er a1 h1 vs rv => ?_⟩
  have hf := evs_frz er
  cases r with
  | nil => exact h1.elim
  | cons e1 r1 =>
    obtain ⟨v1, u1, rfl, w1, rv⟩ := rv
    obtain ⟨d1, b1, rfl, y1, o1⟩ := held_val w1 (hf e1 (by simp)) h1
    cases r1 with
    | nil => exact o1.elim
    | cons e2 r2 =>
      obtain ⟨v2, u2, rfl, w2, rv⟩ := rv
      obtain ⟨d2, b2, rfl, y2, o2⟩ := held_val w2 (hf e2 (by simp)) o1
      cases r2 with
      | nil =>
        cases rv
        exact ⟨v1, v2, rfl, o2 _ P1 N1 H1 (((S.adv a1).setV y1).setV y2) a1.pp a1.nn⟩
      | cons _ _ => exact o2.elim
theorem par3_imp {i j k : Nat} {es : Exs} {D : Ends} {σ : L2.St} {H : Hp} (q : tS C (fun ρ => (evs Γ es ρ).out fun r => parGo [i, j, k] r ρ) D σ H) : tPar3 i j k (tA C (evs Γ es)) D σ H := by
  obtain ⟨ρ, P, N, S, h⟩ := q
  refine ⟨ρ, P, N, S, (h.res S.reg).mono fun r P1 N1 H1 er a1 h1 vs rv => ?_⟩
  have hf := evs_frz er
  cases r with
  | nil => exact h1.elim
  | cons e1 r1 =>
    obtain ⟨v1, u1, rfl, w1, rv⟩ := rv
    obtain ⟨d1, b1, rfl, y1, o1⟩ := held_val w1 (hf e1 (by simp)) h1
    cases r1 with
    | nil => exact o1.elim
    | cons e2 r2 =>
      obtain ⟨v2, u2, rfl, w2, rv⟩ := rv
      obtain ⟨d2, b2, rfl, y2, o2⟩ := held_val w2 (hf e2 (by simp)) o1
      cases r2 with
      | nil => exact o2.elim
      | cons e3 r3 =>
        obtain ⟨v3, u3, rfl, w3, rv⟩ := rv
        obtain ⟨d3, b3, rfl, y3, o3⟩ := held_val w3 (hf e3 (by simp)) o2
        cases r3 with
        | nil =>
          cases rv
          exact ⟨v1, v2, v3, rfl, o3 _ P1 N1 H1 ((((S.adv a1).setV y1).setV y2).setV y3) a1.pp a1.nn⟩
        | cons _ _ => exact o3.elim
end
theorem par_one {T : Tb} {sc : Scope} {tg : List Nat} {t : Expr} {ts : List Expr} {l : Nat} (h : parB T sc tg (t :: ts) l = true) : ∃ i is x p, tg = i :: is ∧ t = .Name x p ∧ T.N[i]? = some x ∧ sc.names.lookup x = some .local ∧ (p.line == l) = true ∧ parB T sc is ts l = true := by
  cases tg with
  | nil => cases t <;> cases h
  | cons i is =>
    cases t <;> try exact (Bool.false_ne_true h).elim
    simp only [parB, Bool.and_eq_true, decide_eq_true_eq] at h
    exact ⟨i, is, _, _, rfl, rfl, h.1.1.1, h.1.1.2, h.1.2, h.2⟩
theorem par_nil {T : Tb} {sc : Scope} {tg : List Nat} {l : Nat} (h : parB T sc tg [] l = true) : tg = [] := by
  cases tg with
  | nil => rfl
  | cons i is => cases h
theorem par_two {T : Tb} {sc : Scope} {tg : List Nat} {t1 t2 : Expr} (h : parB T sc tg [t1, t2] (([t1, t2].head?.map (·.pos.line)).getD 0) = true) : ∃ i j x y px py, tg = [i, j] ∧ t1 = .Name x px ∧ t2 = .Name y py ∧ T.N[i]? = some x ∧ sc.names.lookup x = some .local ∧ T.N[j]? = some y ∧ sc.names.lookup y = some .local ∧ (py.line == px.line) = true := by
  obtain ⟨i, is, x, px, rfl, rfl, a1, a2, a3, h⟩ := par_one h
  obtain ⟨j, js, y, py, rfl, rfl, b1, b2, b3, h⟩ := par_one h
  rw [par_nil h]
  exact ⟨i, j, x, y, px, py, rfl, rfl, rfl, a1, a2, b1, b2, b3⟩
theorem par_three {T : Tb} {sc : Scope} {tg : List Nat} {t1 t2 t3 : Expr} (h : parB T sc tg [t1, t2, t3] (([t1, t2, t3].head?.map (·.pos.line)).getD 0) = true) : ∃ i j k x y z px py pz, tg = [i, j, k] ∧ t1 = .Name x px ∧ t2 = .Name y py ∧ t3 = .Name z pz ∧ T.N[i]? = some x ∧ sc.names.lookup x = some .local ∧ T.N[j]? = some y ∧ sc.names.lookup y = some .local ∧ (py.line == px.line) = true ∧
    T.N[k]? = some z ∧ sc.names.lookup z = some .local ∧ (pz.line == px.line) = true := by
  obtain ⟨i, is, x, px, rfl, rfl, a1, a2, a3, h⟩ := par_one h
  obtain ⟨j, js, y, py, rfl, rfl, b1, b2, b3, h⟩ := par_one h
  obtain ⟨k, ks, z, pz, rfl, rfl, c1, c2, c3, h⟩ := par_one h
  rw [par_nil h]
  exact ⟨i, j, k, x, y, z, px, py, pz, rfl, rfl, rfl, rfl, a1, a2, b1, b2, b3, c1, c2, c3⟩
theorem soundTr {T : Tb} {Γ : Env} {sc : Scope} : ∀ (b : Tr) {C : Ctx} {X : Cx} {ss : List Stmt}, XOk T Γ C X none sc → chkTr T sc b ss = true → PSs X ss (tR C (trB Γ b))
  | .ex e, C, X, ss, I, h => by
    unfold chkTr at h
    split at h
    case h_2 => cases h
    simp only [Bool.and_eq_true] at h
    refine pss_mono (pss_cons (ps_expr (soundE e I h.1).1 (swap_none h.2)) pss_nil) fun D σ H q => ?_
    obtain ⟨ρ, P, N, S, h⟩ := q
    have h : res C σ P N H ((ev Γ e ρ).bind fun _ => .ok ρ) fun ρ' _ _ H' => ∀ σ' P2 N2, Same P P2 → Same N N2 → SR C P2 N2 H' ρ' σ' → D.nx σ' H' := by rw [trB] at h; exact h
    exact ⟨ρ, P, N, S, h.bind.mono fun x P1 N1 H1 _ a1 h1 v rv => (res.now (S.adv a1).reg h1) σ P1 N1 a1.pp a1.nn (S.adv a1)⟩
  | .as j e, C, X, ss, I, h => by
    unfold chkTr at h
    split at h
    case h_2 => cases h
    simp only [Bool.and_eq_true, decide_eq_true_eq] at h
    obtain ⟨⟨⟨h1, h2⟩, h3⟩, h4⟩ := h
    refine pss_mono (pss_cons (set_any I h1 h2 h3 h4) pss_nil) fun D σ H q => ?_
    obtain ⟨ρ, P, N, S, h⟩ := q
    rw [trB] at h
    refine ⟨ρ, P, N, S, h.bind.mono fun x P1 N1 H1 _ a1 h1 v rv => ?_⟩
    cases x with
    | brw ds b => exact h1.elim
    | val d b =>
      exact (res.now (S.adv a1).reg h1) _ P1 N1 a1.pp a1.nn ((S.adv a1).setV rv)
    | fre ds b =>
      obtain ⟨N2, a2, r2⟩ := rv.freeze a1
      exact (res.now (S.adv a1).reg h1) _ P1 N2 a2.pp a2.nn ((S.adv a2).setV r2)
  | .iff t a b, C, X, ss, I, h => by
    unfold chkTr at h
    split at h
    case h_2 => cases h
    simp only [Bool.and_eq_true] at h
    refine pss_mono (pss_cons (ps_if (soundT t I h.1.1) (soundTr a I h.1.2) (soundTr b I h.2)) pss_nil) fun D σ H q => ?_
    obtain ⟨ρ, P, N, S, h⟩ := q
    rw [trB] at h
    refine ⟨ρ, P, N, S, h.bind.mono fun k P1 N1 H1 _ a1 h1 => ?_⟩
    cases k with
    | true =>
      rw [if_pos rfl] at h1
      exact ⟨ρ, P1, N1, S.adv a1, h1.mono fun ρ' _ _ H' _ _ q σ' P2 N2 e1 e2 S2 => q σ' P2 N2 (a1.pp.trans e1) (a1.nn.trans e2) S2⟩
    | false =>
      rw [if_neg Bool.false_ne_true] at h1
      exact ⟨ρ, P1, N1, S.adv a1, h1.mono fun ρ' _ _ H' _ _ q σ' P2 N2 e1 e2 S2 => q σ' P2 N2 (a1.pp.trans e1) (a1.nn.trans e2) S2⟩
/-- a def's own frame -/
structure FrOk (X : Cx) : Prop where
  st : X.stack = X.env :: X.outer
  fr : X.env.frame = some X.env.locals
  ex : X.ex = []
mutual
theorem soundS {T : Tb} {Γ : Env} {C : Ctx} {X : Cx} {sc : Scope} (I : XOk T Γ C X none sc) (hp : PassesOwn (model X.prog X.w) X.A X.env X.xe) (hF : FrOk X) : ∀ (ir : Sm) {s : Stmt}, chkS T sc ir s = true → PS X s (tS C (run Γ ir))
  | .nev, s, h => ps_ev ps_nevD fun ρ => by rw [run]
  | .rse k, s, h => by
    unfold chkS at h
    split at h
    case h_2 => cases h
    simp only [Bool.and_eq_true, decide_eq_true_eq] at h
    obtain ⟨⟨h1, h2⟩, h3⟩ := h
    cases q : Γ.xk[k]? with
    | none => exact ps_ev ps_nevD fun ρ => by rw [run, q]
    | some c => exact ps_ev (ps_rseD I.K I.calm I.tk (gl_of I.sc h2) (nm_of h3).1 (I.xk k _ h1 c q)) fun ρ => by rw [run, q]
  | .tryx k i j b, s, h => by
    unfold chkS at h
    split at h
    case h_2 => cases h
    simp only [Bool.and_eq_true, decide_eq_true_eq] at h
    obtain ⟨⟨⟨⟨⟨⟨⟨⟨⟨⟨h1, h2⟩, h3⟩, h4⟩, h5⟩, rfl⟩, h7⟩, h8⟩, h9⟩, h10⟩, h11⟩ := h
    cases q : T.ck[k]? with
    | none => rw [q] at h1; cases h1
    | some t =>
      obtain ⟨x, own⟩ := t
      rw [q] at h1
      cases h1
      exact ps_ev (ps_tryD I.K hF.st hF.fr hF.ex I.nd (by rw [I.nm]; exact h4) (by rw [I.nm]; exact h5) (by unfold Env.kindOf; rw [I.sc]; exact h7) (by unfold Env.kindOf; rw [I.sc]; exact h8) (nm_of h9) (gl_of I.sc h2) (I.blt _ (by decide)) (nm_of h3).1 (I.ck k x own q) I.tk h10 (fun W pn xe tk _ => soundTr b (I.tr tk) h11)) fun ρ => by rw [run]
  | .asg i e, s, h => by
    unfold chkS at h
    split at h
    case h_2 => cases h
    simp only [Bool.and_eq_true, decide_eq_true_eq] at h
    obtain ⟨⟨⟨h1, h2⟩, h3⟩, h4⟩ := h
    exact ps_ev (ps_mono (set_any I h1 h2 h3 h4) fun D σ H q => asg_imp q) fun ρ => by rw [run]
  | .own i e, s, h => by
    unfold chkS at h
    split at h
    case h_2 => cases h
    simp only [Bool.and_eq_true, decide_eq_true_eq] at h
    obtain ⟨⟨⟨h1, h2⟩, h3⟩, h4⟩ := h
    exact ps_ev (ps_mono (set_any I h1 h2 h3 h4) fun D σ H q => own_imp q) fun ρ => by rw [run] <;> rfl
  | .asgT tg e, s, h => by
    unfold chkS at h
    split at h
    case h_2 => cases h
    simp only [Bool.and_eq_true] at h
    obtain ⟨⟨⟨⟨h1, h2⟩, h3⟩, h4⟩, h5⟩ := h
    exact ps_ev (ps_asgTD (soundE e I h3).1 (tg_sound I h1) (sole_of h4) (stores_nt h5) (tup_one h2)) fun ρ => by rw [run] <;> rfl
  | .par tg es, s, h => by
    unfold chkS at h
    split at h
    case h_2 => cases h
    rename_i ts kt pt vs k2 pt2 pos
    simp only [Bool.and_eq_true, decide_eq_true_eq, Bool.not_eq_true'] at h
    obtain ⟨⟨⟨⟨⟨⟨⟨⟨h1, h2⟩, h3⟩, h4⟩, h5⟩, h6⟩, h7⟩, h8⟩, h9⟩ := h
    have hk : X.env.scope.kind = .function := by
      rw [I.sc]
      cases e : sc.kind <;> simp_all
    have pa := soundEs es I h1 h2
    rcases h8 with h8 | h8
    · obtain ⟨t1, t2, rfl⟩ := two_len h8
      obtain ⟨v1, v2, rfl⟩ := two_len (h7 ▸ h8)
      obtain ⟨i, j, x, y, px, py, rfl, rfl, rfl, a1, a2, b1, b2, b3⟩ := par_two h3
      have hij : i ≠ j := by simpa using h6
      have hxy : x ≠ y := fun e => by
        subst e
        exact hij (nodup_ix (by rw [← I.nm]; exact I.nd) a1 b1)
      exact ps_ev (ps_mono (ps_par I.calm I.nd (by rw [I.nm]; exact a1) (by rw [I.nm]; exact b1) hij (by rw [I.sc]; exact a2) (by rw [I.sc]; exact b2) pa (stores2 hk (by rw [I.sc]; exact a2) (by rw [I.sc]; exact b2) b3 hxy h2 h4 h5)) fun D σ H q => par2_imp q) fun ρ => by rw [run]
    · obtain ⟨t1, t2, t3, rfl⟩ := three_len h8
      obtain ⟨v1, v2, v3, rfl⟩ := three_len (h7 ▸ h8)
      obtain ⟨i, j, k, x, y, z, px, py, pz, rfl, rfl, rfl, rfl, a1, a2, b1, b2, b3, c1, c2, c3⟩ := par_three h3
      have hij : i ≠ j ∧ i ≠ k ∧ j ≠ k := by
        simp at h6; omega
      have ne : ∀ {m n : Nat} {x y : Str}, m ≠ n → T.N[m]? = some x → T.N[n]? = some y → x ≠ y := fun {m n x y} hmn e1 e2 e => by
        subst e
        exact hmn (nodup_ix (by rw [← I.nm]; exact I.nd) e1 e2)
      exact ps_ev (ps_mono (ps_par3 I.calm I.nd (by rw [I.nm]; exact a1) (by rw [I.nm]; exact b1) (by rw [I.nm]; exact c1) hij.1 hij.2.1 hij.2.2 (by rw [I.sc]; exact a2) (by rw [I.sc]; exact b2) (by rw [I.sc]; exact c2) pa (stores3 hk (by rw [I.sc]; exact a2) (by rw [I.sc]; exact b2) (by rw [I.sc]; exact c2) b3 c3 (ne hij.1 a1 b1) (ne hij.2.1 a1 c1) (ne hij.2.2 b1 c1) h2 h4 h5)) fun D σ H q => par3_imp q) fun ρ => by rw [run]
  | .put i ix e, s, h => by
    unfold chkS at h
    split at h
    case h_2 => cases h
    simp only [Bool.and_eq_true, decide_eq_true_eq] at h
    obtain ⟨⟨⟨⟨⟨h1, h2⟩, h3⟩, h4⟩, h5⟩, h6⟩ := h
    obtain ⟨n1, n2⟩ := nm_of h3
    refine ps_ev (ps_mono (ps_asg (soundE e I h6).1 (pg_sub (pe_var (i := i) (by rw [I.nm]; exact h1) (vis_of I.sc h2) n1 n2) (soundE ix I h5).1 set_list (asn_sub h4)) swap_sub stores_sub rfl) fun D σ H q => put_imp q) fun ρ => by rw [run] <;> rfl
  | .app i e, s, h => by
    unfold chkS at h
    split at h
    case h_2 => cases h
    simp only [Bool.and_eq_true, decide_eq_true_eq] at h
    obtain ⟨⟨⟨⟨⟨⟨h1, h2⟩, h3⟩, rfl⟩, h5⟩, h6⟩, h7⟩ := h
    obtain ⟨n1, n2⟩ := nm_of h3
    refine ps_ev (ps_mono (ps_expr (pe_bm PySem.F.plainAttrs_list PySem.F.slot_list_append PySem.F.type_list_append mt_append (pe_var (i := i) (by rw [I.nm]; exact h1) (vis_of I.sc h2) n1 n2) (pa_cons (soundE e I h5).1 pa_nil (star_cons h6)) rfl (few_one h6) h7 (star_cons h6) rfl) rfl) fun D σ H q => app_imp q) fun ρ => by rw [run]
  | .ext i e, s, h => by
    unfold chkS at h
    split at h
    case h_2 => cases h
    simp only [Bool.and_eq_true, decide_eq_true_eq] at h
    obtain ⟨⟨⟨⟨⟨⟨h1, h2⟩, h3⟩, rfl⟩, h5⟩, h6⟩, h7⟩ := h
    obtain ⟨n1, n2⟩ := nm_of h3
    refine ps_ev (ps_mono (ps_expr (pe_bm PySem.F.plainAttrs_list PySem.F.slot_list_extend PySem.F.type_list_extend mt_extend (pe_var (i := i) (by rw [I.nm]; exact h1) (vis_of I.sc h2) n1 n2) (pa_cons (soundE e I h5).1 pa_nil (star_cons h6)) rfl (few_one h6) h7 (star_cons h6) rfl) rfl) fun D σ H q => ext_imp q) fun ρ => by rw [run] <;> rfl
  | .popv j i, s, h => by
    unfold chkS at h
    split at h
    case h_2 => cases h
    simp only [Bool.and_eq_true, decide_eq_true_eq] at h
    obtain ⟨⟨⟨⟨⟨⟨h0, h0'⟩, h1⟩, h2⟩, h3⟩, rfl⟩, h7⟩ := h
    obtain ⟨n1, n2⟩ := nm_of h3
    obtain ⟨t1, t2⟩ := tg_of I h0'
    refine ps_ev (ps_mono (ps_set (i := j) I.nd (by rw [I.nm]; exact h0) t1 (pe_bm0 PySem.F.plainAttrs_list PySem.F.slot_list_pop PySem.F.type_list_pop mt_pop (pe_var (i := i) (by rw [I.nm]; exact h1) (vis_of I.sc h2) n1 n2) rfl h7) rfl t2) fun D σ H q => popv_imp q) fun ρ => by rw [run] <;> rfl
  | .clr i, s, h => by
    unfold chkS at h
    split at h
    case h_2 => cases h
    simp only [Bool.and_eq_true, decide_eq_true_eq] at h
    obtain ⟨⟨⟨⟨h1, h2⟩, h3⟩, rfl⟩, h7⟩ := h
    obtain ⟨n1, n2⟩ := nm_of h3
    refine ps_ev (ps_mono (ps_expr (pe_bm0 PySem.F.plainAttrs_list PySem.F.slot_list_clear PySem.F.type_list_clear mt_clear (pe_var (i := i) (by rw [I.nm]; exact h1) (vis_of I.sc h2) n1 n2) rfl h7) rfl) fun D σ H q => clr_imp q) fun ρ => by rw [run]
  | .expr e, s, h => by
    unfold chkS at h
    split at h
    case h_2 => cases h
    simp only [Bool.and_eq_true] at h
    exact ps_ev (ps_exprD (soundE e I h.1).1 (swap_none h.2)) fun ρ => by rw [run]
  | .ret e, s, h => by
    unfold chkS at h
    split at h
    case h_2 => cases h
    exact ps_ev (ps_retD (soundE e I h).1) fun ρ => by rw [run]
  | .retN, s, h => by
    unfold chkS at h
    split at h
    case h_2 => cases h
    exact ps_ev ps_retND fun ρ => by rw [run]
  | .pas, s, h => by
    unfold chkS at h
    split at h
    · exact ps_ev ps_passD fun ρ => by rw [run]
    · exact ps_ev ps_docD fun ρ => by rw [run]
    · cases h
  | .brk, s, h => by
    unfold chkS at h
    split at h
    case h_2 => cases h
    exact ps_ev ps_brkD fun ρ => by rw [run]
  | .cnt, s, h => by
    unfold chkS at h
    split at h
    case h_2 => cases h
    exact ps_ev ps_cntD fun ρ => by rw [run]
  | .iff c a b, s, h => by
    unfold chkS at h
    split at h
    case h_2 => cases h
    simp only [Bool.and_eq_true] at h
    exact ps_ev (ps_iffD (soundT c I h.1.1) (soundSs I hp hF a h.1.2) (soundSs I hp hF b h.2)) fun ρ => by rw [run]
  | .for it tg b, s, h => by
    unfold chkS at h
    split at h
    case h_2 => cases h
    simp only [Bool.and_eq_true] at h
    obtain ⟨⟨⟨h1, h2⟩, h3⟩, h4⟩ := h
    exact ps_ev (ps_mono (ps_for hp I.calm (soundI it I h1) (tg_sound I h2) (soundSs I hp hF b h3) (fold_of h4)) fun D σ H q => for_imp q) fun ρ => by rw [run] <;> rfl
  | .apop i j ix, s, h => by
    unfold chkS at h
    split at h
    case h_2 => cases h
    simp only [Bool.and_eq_true, decide_eq_true_eq] at h
    obtain ⟨⟨⟨⟨⟨⟨⟨⟨⟨⟨⟨h1, h2⟩, h3⟩, rfl⟩, h4⟩, g1⟩, g2⟩, g3⟩, rfl⟩, g4⟩, h5⟩, h6⟩ := h
    obtain ⟨n1, n2⟩ := nm_of h3
    obtain ⟨m1, m2⟩ := nm_of g3
    refine ps_ev (ps_mono (ps_expr (pe_bm PySem.F.plainAttrs_list PySem.F.slot_list_append PySem.F.type_list_append mt_append (pe_var (i := i) (by rw [I.nm]; exact h1) (vis_of I.sc h2) n1 n2) (pa_cons (pe_bm PySem.F.plainAttrs_list PySem.F.slot_list_pop PySem.F.type_list_pop mt_popAt (pe_var (i := j) (by rw [I.nm]; exact g1) (vis_of I.sc g2) m1 m2) (pa_cons (soundE ix I h5).1 pa_nil (star_cons h6)) rfl (few_one h6) g4 (star_cons h6) rfl) pa_nil rfl) rfl rfl h4 rfl rfl) rfl) fun D σ H q => apop_imp q) fun ρ => by rw [run] <;> rfl
  | .fset f e, s, h => by
    unfold chkS at h
    split at h
    case h_2 => cases h
    rename_i x p fn p' v pos
    simp only [Bool.and_eq_true, decide_eq_true_eq] at h
    obtain ⟨⟨⟨⟨h1, h2⟩, h3⟩, h4⟩, h5⟩ := h
    obtain ⟨n1, n2⟩ := nm_of h3
    refine ps_ev (ps_mono (ps_fld (pe_var (i := 0) (by rw [I.nm]; exact h1) (vis_of I.sc h2) n1 n2) (soundE e I h5).1 (by cases v <;> rfl)) fun D σ H q => fset_imp (fi := fun c => Γ.fi c f) (fun c k e => I.fs f fn h4 c k e) q) fun ρ => by rw [run] <;> rfl
  | .whl c b, s, h => by
    unfold chkS at h
    split at h
    case h_2 => cases h
    simp only [Bool.and_eq_true] at h
    exact ps_ev (ps_mono (ps_while hp (soundT c I h.1) (soundSs I hp hF b h.2)) fun D σ H q => whl_imp q) fun ρ => by rw [run]
theorem soundSs {T : Tb} {Γ : Env} {C : Ctx} {X : Cx} {sc : Scope} (I : XOk T Γ C X none sc) (hp : PassesOwn (model X.prog X.w) X.A X.env X.xe) (hF : FrOk X) : ∀ (ir : Sms) {ss : List Stmt}, chkSs T sc ir ss = true → PSs X ss (tS C (runs Γ ir))
  | .nil, ss, h => by
    unfold chkSs at h
    cases ss with
    | nil => exact pss_ev pss_nilD fun ρ => by rw [runs]
    | cons _ _ => cases h
  | .cons s ir, ss, h => by
    unfold chkSs at h
    cases ss with
    | nil => cases h
    | cons st ss =>
      simp only [Bool.and_eq_true] at h
      exact pss_ev (pss_consD (soundS I hp hF s h.1) (soundSs I hp hF ir h.2)) fun ρ => by rw [runs]
  | .frz i ir, ss, h => by
    unfold chkSs at h
    exact pss_ev (pss_frzD (soundSs I hp hF ir h)) fun ρ => by rw [runs]
end
end Cm

set_option Elab.async false
set_option linter.all false
set_option maxRecDepth 100000
set_option maxHeartbeats 1000000
/-! A def of the text by its function on trees; a law's end. -/
namespace Cm
open PySem PySem.Spec PyProof.Rows L2

/-- what a def at level k leans on -/
structure TabOk (P : Program) (w : World) (K : PySem.W.Frag) (mg : Str → Option Value) (base : Heap) (T : Tb) (Γ : Env) (G : Glo) (k : Nat) : Prop where
  blt : ∀ x ∈ bltNames, mg x = none
  fn : ∀ (f : Nat) (x : Str) (n : Nat), T.fn[f]? = some (x, n) → ∀ g, Γ.fn[f]? = some g → ∃ (j : Nat) (a : Addr) (fd : FuncData) (ps : List Str), j ≤ k ∧ FnOk P w K mg base (L2.CX P w) j a fd ps (spD G n g.2) ∧ mg x = some (.ref a) ∧ PySem.W.keepIn K (.ref a) = true ∧ Binds K fd ps []
  gc : ∀ (i : Nat) (x : Str), T.gc[i]? = some x → ∀ c, Γ.gc[i]? = some c → ∃ u v, mg x = some u ∧ RelV v u ∧ ∀ (P N R : Hp), Rep G P (LNb G.K P N R true) c.2 v
  mt : ∀ (m : Nat) (x : Str) (n : Nat), T.mn[m]? = some (x, n) → ∀ c g, Γ.mt c m = some g → Cls K (G.ca c) ∧ x ∉ G.fl c ∧ ∃ (j : Nat) (a : Addr) (fd : FuncData) (ps : List Str), j ≤ k ∧ Meth K (G.ca c) x a ∧ FnOk P w K mg base (L2.CX P w) j a fd ps (spD G (n + 1) g) ∧ Binds K fd ps []
  fs : ∀ (f : Nat) (x : Str), T.fs[f]? = some x → ∀ c i, Γ.fi c f = some i → Cls K (G.ca c) ∧ NoAttr K (G.ca c) x ∧ (G.fl c)[i]? = some x ∧ (G.fl c).Nodup
  nw : ∀ (i : Nat) (x : Str) (n : Nat), T.nw[i]? = some (x, n) → ∀ g, Γ.nw[i]? = some g → ∃ (j : Nat) (a : Addr) (fd : FuncData) (ps : List Str), j + 1 ≤ k ∧ Mk K (G.ca g.1) a ∧ FnOk P w K mg base (L2.CX P w) j a fd ps (spI G g.1 n g.2) ∧ mg x = some (.ref (G.ca g.1)) ∧ Binds K fd ps []
  ck : ∀ (i : Nat) (x : Str) (own : Bool), T.ck[i]? = some (x, own) → CkOk G K mg x own Γ.ck[i]? Γ.ik[i]?
  xk : ∀ (i : Nat) (x : Str), T.xk[i]? = some x → ∀ c, Γ.xk[i]? = some c → RsOk K mg (G.ca c) x
theorem reps_old {G : Glo} {P N R : Hp} : ∀ {ds : List D} {vs : List V}, Reps G P (SqL G.K R) ds vs → Reps G P (LNb G.K P N R false) ds vs := fun {ds vs} h => Reps.mono (L2.Same.refl _) ds vs (fun a xs q => .inr (.inr ⟨rfl, q⟩)) h
theorem start_sr {C : Ctx} {ds : List D} {vs : List V} {N : List Str} {m : Nat} (hp : Same C.P0 C.B) (hr : Same C.R C.B) (h : Reps C.G C.P0 (SqL C.G.K C.R) ds vs) (hm : N.length = ds.length + m) :
    SR C C.P0 (fun _ => none) C.B (ds.map (fun d => Sl.val d d.flat) ++ List.replicate m .non) (L2.start N vs) where
  reg := ⟨hp, fun _ _ e => (nomatch e), L2.Same.refl _, hr, L2.Same.refl _, fun _ e => .inl e, fun _ e => absurd rfl e⟩
  len := by
    have := h.length
    simp only [L2.start, List.length_append, List.length_map, List.length_replicate]
    try omega
  sl := fun i s e => by
    have hl := h.length
    by_cases hi : i < ds.length
    · rw [List.getElem?_append_left (by simpa using hi), List.getElem?_map, List.getElem?_eq_getElem hi] at e
      cases e
      obtain ⟨v, q1, q2⟩ := (reps_old (N := fun _ => none) h).get (List.getElem?_eq_getElem hi)
      refine ⟨some v, ?_, v, rfl, RepB.nf (C := C) q2⟩
      unfold L2.start
      rw [List.getElem?_append_left (by simp; omega), List.getElem?_map, q1]
      rfl
    · rw [List.getElem?_append_right (by simpa using hi), List.getElem?_replicate] at e
      split at e
      · rename_i hm'
        cases e
        refine ⟨none, ?_, trivial⟩
        unfold L2.start
        simp only [List.length_map] at hm'
        rw [List.getElem?_append_right (by simp; omega), List.getElem?_replicate, if_pos]
        simp only [List.length_map]
        omega
      · cases e
  ap := fun i j p es b es' c e1 _ _ _ => by
    exfalso
    have := List.mem_of_getElem? e1
    rcases List.mem_append.mp this with z | z
    · obtain ⟨_, _, z⟩ := List.mem_map.mp z; cases z
    · have := List.eq_of_mem_replicate z; cases this
theorem defOk {P : Program} {w : World} {K : PySem.W.Frag} {mg : Str → Option Value} {base : Heap} {x qual : Str} {params : Arguments} {body : List Stmt} {scope : Scope} {dvs : List V} {kws : List (Str × V)} {f : Addr} {fd : FuncData} {T : Tb} {Γ : Env} {G : Glo} {k m : Nat} {ps : List Str} {ir : Sms}
    (F : FunD K x qual params body scope dvs kws f fd) (S : FnScope T.N ps scope) (hG : G.K = K) (tab : TabOk P w K mg base T Γ G k) (hm : T.N.length = ps.length + m) (hc : chkSs T scope ir body = true) :
    FnOk P w K mg base (L2.CX P w) (k + 1) f fd ps (spD G ps.length (defD Γ ps.length m ir)) := by
  refine F.ok S (fun vs H Q E h => spD_len h) (fun cdv A outer s H vs Q E hr h => ?_)
  obtain ⟨Pr, R, ds, h1, h2, h3, h4, h5⟩ := h
  let C : Ctx := ⟨G, R, H, Pr, fun cls d _ H' => E cls d H', 0⟩
  have I : XOk T Γ C (cxOf (L2.CX P w) P w K mg base T.N qual scope f cdv A outer s H E) none scope := {
    nm := rfl
    nd := S.nd
    sc := rfl
    K := hG.symm
    tk := takes_of rfl rfl rfl rfl
    calm := rfl
    un := by
      have h := hr.un
      have e : (cxOf (L2.CX P w) P w K mg base T.N qual scope f cdv A outer s H E).A = A.deeper (envOfC qual scope s.heap.objs.size f cdv) := rfl
      rw [e]
      omega
    blt := tab.blt
    fnc := rfl
    fn := fun i y n e g eg => by
      obtain ⟨j, a, fd', ps', hj, q1, q2, q3, q4⟩ := tab.fn i y n e g eg
      exact ⟨j, a, fd', ps', q1, hr.mono hj, q2, q3, q4⟩
    gc := fun i y e c ec => by
      obtain ⟨u, v, q1, q2, q3⟩ := tab.gc i y e c ec
      exact ⟨u, v, q1, q2, fun P N => q3 P N R⟩
    mt := fun i y n e c g eg => by
      obtain ⟨q0, q1, j, a, fd', ps', hj, q2, q3, q4⟩ := tab.mt i y n e c g eg
      exact ⟨q0, q1, j, a, fd', ps', q2, q3, hr.mono hj, q4⟩
    fs := fun i y e c j ej => by
      obtain ⟨q0, q1, q2, q3⟩ := tab.fs i y e c j ej
      exact ⟨q0, q1, q2, q3⟩
    nw := fun i y n e g eg => by
      obtain ⟨j, a, fd', ps', hj, q1, q2, q3, q4⟩ := tab.nw i y n e g eg
      exact ⟨j, a, fd', ps', q1, q2, hr.mono hj, q3, q4⟩
    ck := tab.ck
    xk := tab.xk }
  have hp : PassesOwn (model (cxOf (L2.CX P w) P w K mg base T.N qual scope f cdv A outer s H E).prog (cxOf (L2.CX P w) P w K mg base T.N qual scope f cdv A outer s H E).w) (cxOf (L2.CX P w) P w K mg base T.N qual scope f cdv A outer s H E).A (cxOf (L2.CX P w) P w K mg base T.N qual scope f cdv A outer s H E).env (cxOf (L2.CX P w) P w K mg base T.N qual scope f cdv A outer s H E).xe :=
    passes_of (K := fun e s'' => L2.CX P w outer H s E e s'') rfl
  refine ⟨tS C (runs Γ ir), soundSs I hp ⟨rfl, rfl, rfl⟩ ir hc, ds.map (fun d => Sl.val d d.flat) ++ List.replicate m .non, Pr, fun _ => none, start_sr (C := C) h1 h2 h3 (by rw [hm, h4]), ?_⟩
  unfold defD at h5
  rw [if_pos h4] at h5
  have adv : ∀ {P' N' H' : Hp}, Reg C P' N' H' → Adv Pr (fun _ => none) H P' N' H' := fun {P' N' H'} r => ⟨r.bH, r.p0, fun _ _ e => (nomatch e), r.pH, r.nH, r.pn, fun a q => .inr (r.nw a q)⟩
  cases e : runs Γ ir (ds.map (fun d => Sl.val d d.flat) ++ List.replicate m .non) with
  | bad => rw [e] at h5; exact h5.elim
  | brk ρ => rw [e] at h5; exact h5.elim
  | cnt ρ => rw [e] at h5; exact h5.elim
  | nx ρ => rw [e] at h5; exact fun σ P' N' H' S' _ _ => h5 .non H' P' N' (adv S'.reg) rfl
  | ret er =>
    rw [e] at h5
    intro v P' N' H' r q
    exact h5 v H' P' N' (adv r) (by cases er <;> exact q)
  | exc c fs =>
    rw [e] at h5
    intro σ d P' N' H' r q
    exact h5 d H' P' N' (adv r) q
theorem start_get {N : List Str} {vs : List V} {i : Nat} {o : Option V} (h : i < N.length) (e : (vs.map some ++ List.replicate (N.length - vs.length) none)[i]? = some o) : (L2.start N vs)[i]? = some o := e
theorem rep_up {C : Ctx} {P N P2 : Hp} (hp : Same P P2) (hn : Same N P2) {ds : List D} {vs : List V} (h : RepsB C P N true ds vs) : Reps C.G P2 (SqL C.G.K P2) ds vs := Reps.mono hp ds vs (fun a xs q => by
  rcases q with q | q | ⟨z, _⟩
  · exact L2.Same.seq hp q
  · exact L2.Same.seq hn q
  · cases z) h
theorem iniOk {P : Program} {w : World} {K : PySem.W.Frag} {mg : Str → Option Value} {base : Heap} {x qual : Str} {params : Arguments} {body : List Stmt} {scope : Scope} {dvs : List V} {kws : List (Str × V)} {f : Addr} {fd : FuncData} {T : Tb} {Γ : Env} {G : Glo} {k m n c nf : Nat} {ps : List Str} {ir : Sms}
    (F : FunD K x qual params body scope dvs kws f fd) (S : FnScope T.N ps scope) (hG : G.K = K) (tab : TabOk P w K mg base T Γ G k) (hm : T.N.length = ps.length + m) (hn : ps.length = n + 1) (hc : chkSs T scope ir body = true) (hf : (G.fl c).length = nf) :
    FnOk P w K mg base (L2.CX P w) (k + 1) f fd ps (spI G c n (iniD Γ c nf n m ir)) := by
  refine F.ok S (fun vs H Q E h => by rw [spI_len h, hn]) (fun cdv A outer s H vs Q E hr h => ?_)
  obtain ⟨x0, dx, H0, Pr, R, ds, us, rfl, rfl, hx, hdx, h1, h2, h3, h4, h5⟩ := h
  let C : Ctx := ⟨G, R, H0, Pr, fun cls d _ H' => E cls d H', x0⟩
  generalize eH : upd (upd H0 dx (.own x0)) x0 (.ins (G.ca c) dx []) = H at hr ⊢
  have H0x : Same H0 H := fun a o e => by
    rw [← eH, upd_ne (ne_of_none e hx), upd_ne (ne_of_none e hdx)]
    exact e
  have Hx : H x0 = some (.ins (C.G.ca c) dx []) := by rw [← eH]; exact upd_same
  have I : XOk T Γ C (cxOf (L2.CX P w) P w K mg base T.N qual scope f cdv A outer s H E) none scope := {
    nm := rfl
    nd := S.nd
    sc := rfl
    K := hG.symm
    tk := takes_of rfl rfl rfl rfl
    calm := rfl
    un := by
      have h := hr.un
      have e : (cxOf (L2.CX P w) P w K mg base T.N qual scope f cdv A outer s H E).A = A.deeper (envOfC qual scope s.heap.objs.size f cdv) := rfl
      rw [e]
      omega
    blt := tab.blt
    fnc := rfl
    fn := fun i y n e g eg => by
      obtain ⟨j, a, fd', ps', hj, q1, q2, q3, q4⟩ := tab.fn i y n e g eg
      exact ⟨j, a, fd', ps', q1, hr.mono hj, q2, q3, q4⟩
    gc := fun i y e c ec => by
      obtain ⟨u, v, q1, q2, q3⟩ := tab.gc i y e c ec
      exact ⟨u, v, q1, q2, fun P N => q3 P N R⟩
    mt := fun i y n e c g eg => by
      obtain ⟨q0, q1, j, a, fd', ps', hj, q2, q3, q4⟩ := tab.mt i y n e c g eg
      exact ⟨q0, q1, j, a, fd', ps', q2, q3, hr.mono hj, q4⟩
    fs := fun i y e c j ej => by
      obtain ⟨q0, q1, q2, q3⟩ := tab.fs i y e c j ej
      exact ⟨q0, q1, q2, q3⟩
    nw := fun i y n e g eg => by
      obtain ⟨j, a, fd', ps', hj, q1, q2, q3, q4⟩ := tab.nw i y n e g eg
      exact ⟨j, a, fd', ps', q1, q2, hr.mono hj, q3, q4⟩
    ck := tab.ck
    xk := tab.xk }
  have hp : PassesOwn (model (cxOf (L2.CX P w) P w K mg base T.N qual scope f cdv A outer s H E).prog (cxOf (L2.CX P w) P w K mg base T.N qual scope f cdv A outer s H E).w) (cxOf (L2.CX P w) P w K mg base T.N qual scope f cdv A outer s H E).A (cxOf (L2.CX P w) P w K mg base T.N qual scope f cdv A outer s H E).env (cxOf (L2.CX P w) P w K mg base T.N qual scope f cdv A outer s H E).xe :=
    passes_of (K := fun e s'' => L2.CX P w outer H s E e s'') rfl
  have hl := h3.length
  have st0 : SR C Pr (fun _ => none) H (.slf c [] :: (ds.map (fun d => Sl.val d d.flat) ++ List.replicate m .non)) (L2.start T.N (.ref x0 :: us)) := by
    refine ⟨⟨h1.trans H0x, fun _ _ e => (nomatch e), H0x, h2, L2.Same.refl _, fun _ e => .inl e, fun _ e => absurd rfl e⟩, ?_, fun i s e => ?_, fun i j p es b es' c' e1 _ _ _ => ?_⟩
    · simp only [L2.start, List.length_append, List.length_map, List.length_replicate, List.length_cons]
      omega
    · cases i with
      | zero =>
        simp at e
        subst e
        exact ⟨_, by simp [L2.start], x0, dx, [], ⟨rfl, rfl⟩, by rw [Hx]; simp, h1.free hx, rfl, hx, Nat.zero_le _, rfl⟩
      | succ i =>
        have e : (ds.map (fun d => Sl.val d d.flat) ++ List.replicate m .non)[i]? = some s := by simpa using e
        by_cases hi : i < ds.length
        · rw [List.getElem?_append_left (by simpa using hi), List.getElem?_map, List.getElem?_eq_getElem hi] at e
          cases e
          obtain ⟨v, q1, q2⟩ := (reps_old (N := fun _ => none) h3).get (List.getElem?_eq_getElem hi)
          refine ⟨some v, ?_, v, rfl, RepB.nf (C := C) q2⟩
          unfold L2.start
          rw [List.getElem?_append_left (by simp; omega), List.getElem?_map, List.getElem?_cons_succ, q1]
          rfl
        · rw [List.getElem?_append_right (by simpa using hi), List.getElem?_replicate] at e
          split at e
          · rename_i hm'
            cases e
            refine ⟨none, ?_, trivial⟩
            unfold L2.start
            simp only [List.length_map] at hm'
            rw [List.getElem?_append_right (by simp; omega), List.getElem?_replicate, if_pos]
            simp only [List.length_map, List.length_cons]
            omega
          · cases e
    · exfalso
      cases i with
      | zero => simp at e1
      | succ i =>
        have := List.mem_of_getElem? (show (ds.map (fun d => Sl.val d d.flat) ++ List.replicate m .non)[i]? = some (.own es b) by simpa using e1)
        rcases List.mem_append.mp this with z | z
        · obtain ⟨_, _, z⟩ := List.mem_map.mp z; cases z
        · have := List.eq_of_mem_replicate z; cases this
  refine ⟨tS C (runs Γ ir), soundSs I hp ⟨rfl, rfl, rfl⟩ ir hc, _, Pr, fun _ => none, st0, ?_⟩
  unfold iniD at h5
  rw [if_pos h4] at h5
  cases e : runs Γ ir (.slf c [] :: (ds.map (fun d => Sl.val d d.flat) ++ List.replicate m .non)) with
  | bad => rw [e] at h5; exact h5.elim
  | brk ρ => rw [e] at h5; exact h5.elim
  | cnt ρ => rw [e] at h5; exact h5.elim
  | ret er => rw [e] at h5; exact h5.elim
  | exc c fs =>
    rw [e] at h5
    intro σ d P' N' H' r q
    exact h5 d H' P' N' ⟨r.bH, r.p0, fun _ _ e => (nomatch e), r.pH, r.nH, r.pn, fun a q => .inr (r.nw a q)⟩ q
  | nx ρ =>
    rw [e] at h5
    intro σ P' N' H' S' e1 e2
    cases ρ with
    | nil => exact h5.elim
    | cons s0 r =>
      cases s0 with
      | non => exact h5.elim
      | val _ _ => exact h5.elim
      | own _ _ => exact h5.elim
      | slf c' fs =>
        simp only at h5
        by_cases hc' : c' = c
        · rw [if_pos hc'] at h5
          by_cases hfs : fs.length = nf
          · rw [if_pos hfs] at h5
            subst hc'
            obtain ⟨o, z1, p, dx', xs, ⟨ep, rfl⟩, z2, z3, z4, z5, z6, z7⟩ := S'.sl 0 _ rfl
            have ep : p = x0 := ep
            subst ep
            have rg := S'.reg
            have z3' : un2 P' N' H' p = none := by
              unfold un2
              rw [if_neg]
              rintro (z | z)
              · exact z z3
              · exact z z4
            refine h5 H' (upd (un2 P' N' H') p (.ins (G.ca c') dx' ((G.fl c').zip xs))) rg.bH ((rg.p0.trans (un2_l rg.pH)).trans (same_upd z3')) (same_in un2_H z2) (fun a ha => ?_) ⟨p, dx', xs, rfl, upd_same, by rw [hfs, hf], rep_up (C := C) ((un2_l rg.pH).trans (same_upd z3')) ((un2_r rg.nH).trans (same_upd z3')) z7⟩
            by_cases q : a = p
            · rw [q]; exact .inr hx
            · rw [upd_ne q] at ha
              unfold un2 at ha
              split at ha
              · rename_i z
                rcases z with z | z
                · exact rg.pn a z
                · exact .inr (rg.nw a z)
              · exact absurd rfl ha
          · rw [if_neg hfs] at h5; exact h5.elim
        · rw [if_neg hc'] at h5; exact h5.elim
end Cm

set_option Elab.async false
set_option linter.all false
set_option maxRecDepth 100000
set_option maxHeartbeats 1000000
/-! Tables of defs, the head's run in parts, a law's end. -/
namespace Cm
open PySem PySem.Spec PyProof.Rows L2 PySem.W

structure DefAt (P : Program) (w : World) (K : PySem.W.Frag) (mg : Str → Option Value) (base : Heap) (G : Glo) (k : Nat) (x : Str) (n : Nat) (g : List D → RE ER) : Prop where
  ex : ∃ (j : Nat) (a : Addr) (fd : FuncData) (ps : List Str), j ≤ k ∧ FnOk P w K mg base (L2.CX P w) j a fd ps (spD G n g) ∧ mg x = some (.ref a) ∧ PySem.W.keepIn K (.ref a) = true ∧ Binds K fd ps []
theorem DefAt.mono {P : Program} {w : World} {K : PySem.W.Frag} {mg : Str → Option Value} {base : Heap} {G : Glo} {k k' : Nat} {x : Str} {n : Nat} {g : List D → RE ER} (h : DefAt P w K mg base G k x n g) (e : k ≤ k') : DefAt P w K mg base G k' x n g := by
  obtain ⟨j, a, fd, ps, q, r⟩ := h
  exact ⟨j, a, fd, ps, Nat.le_trans q e, r⟩
def FnsOk (P : Program) (w : World) (K : PySem.W.Frag) (mg : Str → Option Value) (base : Heap) (G : Glo) (k : Nat) : List (Str × Nat) → List (Str × (List D → RE ER)) → Prop
  | t :: ts, g :: gs => DefAt P w K mg base G k t.1 t.2 g.2 ∧ FnsOk P w K mg base G k ts gs
  | _, _ => True
theorem FnsOk.get {P : Program} {w : World} {K : PySem.W.Frag} {mg : Str → Option Value} {base : Heap} {G : Glo} {k : Nat} : ∀ {ts : List (Str × Nat)} {gs : List (Str × (List D → RE ER))}, FnsOk P w K mg base G k ts gs →
    ∀ (f : Nat) (x : Str) (n : Nat), ts[f]? = some (x, n) → ∀ g, gs[f]? = some g → ∃ (j : Nat) (a : Addr) (fd : FuncData) (ps : List Str), j ≤ k ∧ FnOk P w K mg base (L2.CX P w) j a fd ps (spD G n g.2) ∧ mg x = some (.ref a) ∧ PySem.W.keepIn K (.ref a) = true ∧ Binds K fd ps []
  | [], _, _, f, x, n, e, _, _ => by simp at e
  | _ :: _, [], _, f, x, n, _, g, e => by simp at e
  | t :: ts, g :: gs, ⟨h, hs⟩, 0, x, n, e, g', e' => by
    simp at e e'
    subst e e'
    exact h.ex
  | t :: ts, g :: gs, ⟨h, hs⟩, f + 1, x, n, e, g', e' => FnsOk.get hs f x n (by simpa using e) g' (by simpa using e')
/-- the facts of the built-in names stand first -/
theorem blt_ok {fa : List He.Fa} {fn : List He.DefD} {K : PySem.W.Frag} {h : Heap} {mg : Str → Option Value} (c : He.SaysD (bltNames.map He.Fa.free ++ fa) fn K) (X : K.In h) (N : h.Ns mainGlobals mg) : ∀ x ∈ bltNames, mg x = none := fun x hx => by
  have hm : He.Fa.free x ∈ bltNames.map He.Fa.free ++ fa := List.mem_append_left _ (List.mem_map_of_mem hx)
  obtain ⟨i, hi⟩ := List.getElem?_of_mem hm
  exact He.free_ok X N (c.fact i hi)
/-! ### methods, fields, instances, constants -/
structure MthAt (P : Program) (w : World) (K : PySem.W.Frag) (mg : Str → Option Value) (base : Heap) (G : Glo) (k : Nat) (c : Nat) (x : Str) (n : Nat) (g : List D → RE ER) : Prop where
  ex : Cls K (G.ca c) ∧ x ∉ G.fl c ∧ ∃ (j : Nat) (a : Addr) (fd : FuncData) (ps : List Str), j ≤ k ∧ Meth K (G.ca c) x a ∧ FnOk P w K mg base (L2.CX P w) j a fd ps (spD G (n + 1) g) ∧ Binds K fd ps []
theorem MthAt.mono {P : Program} {w : World} {K : PySem.W.Frag} {mg : Str → Option Value} {base : Heap} {G : Glo} {k k' c : Nat} {x : Str} {n : Nat} {g : List D → RE ER} (h : MthAt P w K mg base G k c x n g) (e : k ≤ k') : MthAt P w K mg base G k' c x n g := by
  obtain ⟨h1, h2, j, a, fd, ps, q, r⟩ := h
  exact ⟨h1, h2, j, a, fd, ps, Nat.le_trans q e, r⟩
def MtsOk (P : Program) (w : World) (K : PySem.W.Frag) (mg : Str → Option Value) (base : Heap) (G : Glo) (k : Nat) (mn : List (Str × Nat)) : List (Nat × Nat × (List D → RE ER)) → Prop
  | [] => True
  | t :: ts => (∀ x n, mn[t.2.1]? = some (x, n) → MthAt P w K mg base G k t.1 x n t.2.2) ∧ MtsOk P w K mg base G k mn ts
theorem MtsOk.get {P : Program} {w : World} {K : PySem.W.Frag} {mg : Str → Option Value} {base : Heap} {G : Glo} {k : Nat} {mn : List (Str × Nat)} : ∀ {ts : List (Nat × Nat × (List D → RE ER))}, MtsOk P w K mg base G k mn ts →
    ∀ (m : Nat) (x : Str) (n : Nat), mn[m]? = some (x, n) → ∀ c g, lookM ts c m = some g → MthAt P w K mg base G k c x n g
  | [], _, m, x, n, _, c, g, e => by cases e
  | t :: ts, ⟨h, hs⟩, m, x, n, e, c, g, e' => by
    unfold lookM at e'
    split at e'
    · rename_i h1
      split at e'
      · rename_i h2
        subst h1 h2
        cases e'
        exact h x n e
      · exact MtsOk.get hs m x n e c g e'
    · exact MtsOk.get hs m x n e c g e'
def FdAt (K : PySem.W.Frag) (G : Glo) (c i : Nat) (x : Str) : Prop := Cls K (G.ca c) ∧ NoAttr K (G.ca c) x ∧ (G.fl c)[i]? = some x ∧ (G.fl c).Nodup
def FdsOk (K : PySem.W.Frag) (G : Glo) (fs : List Str) : List (Nat × Nat × Nat) → Prop
  | [] => True
  | t :: ts => (∀ x, fs[t.2.1]? = some x → FdAt K G t.1 t.2.2 x) ∧ FdsOk K G fs ts
theorem FdsOk.get {K : PySem.W.Frag} {G : Glo} {fs : List Str} : ∀ {ts : List (Nat × Nat × Nat)}, FdsOk K G fs ts → ∀ (f : Nat) (x : Str), fs[f]? = some x → ∀ c i, lookF ts c f = some i → FdAt K G c i x
  | [], _, f, x, _, c, i, e => by cases e
  | t :: ts, ⟨h, hs⟩, f, x, e, c, i, e' => by
    unfold lookF at e'
    split at e'
    · rename_i h1
      split at e'
      · rename_i h2
        subst h1 h2
        cases e'
        exact h x e
      · exact FdsOk.get hs f x e c i e'
    · exact FdsOk.get hs f x e c i e'
structure NwAt (P : Program) (w : World) (K : PySem.W.Frag) (mg : Str → Option Value) (base : Heap) (G : Glo) (k : Nat) (x : Str) (n : Nat) (c : Nat) (g : List D → RE (List D)) : Prop where
  ex : ∃ (j : Nat) (a : Addr) (fd : FuncData) (ps : List Str), j + 1 ≤ k ∧ Mk K (G.ca c) a ∧ FnOk P w K mg base (L2.CX P w) j a fd ps (spI G c n g) ∧ mg x = some (.ref (G.ca c)) ∧ Binds K fd ps []
theorem NwAt.mono {P : Program} {w : World} {K : PySem.W.Frag} {mg : Str → Option Value} {base : Heap} {G : Glo} {k k' : Nat} {x : Str} {n c : Nat} {g : List D → RE (List D)} (h : NwAt P w K mg base G k x n c g) (e : k ≤ k') : NwAt P w K mg base G k' x n c g := by
  obtain ⟨j, a, fd, ps, q, r⟩ := h
  exact ⟨j, a, fd, ps, Nat.le_trans q e, r⟩
def NwsOk (P : Program) (w : World) (K : PySem.W.Frag) (mg : Str → Option Value) (base : Heap) (G : Glo) (k : Nat) : List (Str × Nat) → List (Nat × (List D → RE (List D))) → Prop
  | t :: ts, g :: gs => NwAt P w K mg base G k t.1 t.2 g.1 g.2 ∧ NwsOk P w K mg base G k ts gs
  | _, _ => True
theorem NwsOk.get {P : Program} {w : World} {K : PySem.W.Frag} {mg : Str → Option Value} {base : Heap} {G : Glo} {k : Nat} : ∀ {ts : List (Str × Nat)} {gs : List (Nat × (List D → RE (List D)))}, NwsOk P w K mg base G k ts gs →
    ∀ (f : Nat) (x : Str) (n : Nat), ts[f]? = some (x, n) → ∀ g, gs[f]? = some g → NwAt P w K mg base G k x n g.1 g.2
  | [], _, _, f, x, n, e, _, _ => by simp at e
  | _ :: _, [], _, f, x, n, _, g, e => by simp at e
  | t :: ts, g :: gs, ⟨h, hs⟩, 0, x, n, e, g', e' => by
    simp at e e'
    subst e e'
    exact h
  | t :: ts, g :: gs, ⟨h, hs⟩, f + 1, x, n, e, g', e' => NwsOk.get hs f x n (by simpa using e) g' (by simpa using e')
def GcAt (G : Glo) (mg : Str → Option Value) (x : Str) (c : D) : Prop := ∃ u v, mg x = some u ∧ RelV v u ∧ ∀ (P N R : Hp), Rep G P (LNb G.K P N R true) c v
def GcsOk (G : Glo) (mg : Str → Option Value) : List Str → List (Str × D) → Prop
  | t :: ts, g :: gs => GcAt G mg t g.2 ∧ GcsOk G mg ts gs
  | _, _ => True
theorem GcsOk.get {G : Glo} {mg : Str → Option Value} : ∀ {ts : List Str} {gs : List (Str × D)}, GcsOk G mg ts gs → ∀ (f : Nat) (x : Str), ts[f]? = some x → ∀ g, gs[f]? = some g → GcAt G mg x g.2
  | [], _, _, f, x, e, _, _ => by simp at e
  | _ :: _, [], _, f, x, _, g, e => by simp at e
  | t :: ts, g :: gs, ⟨h, hs⟩, 0, x, e, g', e' => by
    simp at e e'
    subst e e'
    exact h
  | t :: ts, g :: gs, ⟨h, hs⟩, f + 1, x, e, g', e' => GcsOk.get hs f x (by simpa using e) g' (by simpa using e')
theorem gc_str {K : PySem.W.Frag} {h : Heap} {mg : Str → Option Value} {G : Glo} {fa : List He.Fa} {fn : List He.DefD} {x : Str} {s : List Nat} {j : Nat} (c : He.SaysD fa fn K) (X : K.In h) (N : h.Ns mainGlobals mg) (hx : fa[j]? = some (.str x ⟨s.toArray⟩)) : GcAt G mg x (.str s) := by
  obtain ⟨t, e⟩ := He.str_ok X N (c.fact j hx)
  exact ⟨_, .str ⟨s.toArray⟩, e, ⟨t, rfl⟩, fun _ _ _ => rfl⟩
theorem gc_int {K : PySem.W.Frag} {h : Heap} {mg : Str → Option Value} {G : Glo} {fa : List He.Fa} {fn : List He.DefD} {x : Str} {i : Int} {j : Nat} (c : He.SaysD fa fn K) (X : K.In h) (N : h.Ns mainGlobals mg) (hx : fa[j]? = some (.int x i)) : GcAt G mg x (.int i) := by
  obtain ⟨t, e⟩ := He.int_ok X N (c.fact j hx)
  exact ⟨_, .int i, e, ⟨t, rfl⟩, fun _ _ _ => rfl⟩
/-! ### own classes: errors, isinstance -/
inductive Xa where
  /-- is an error of the class d one of x (the module's own, or ValueError) -/
  | ck (x : Str) (own : Bool) (d : Str) (b : Bool)
  | ik (x : Str) (own : Bool) (d : Str) (b : Bool)
def cv (K : PySem.W.Frag) (x : Str) (own : Bool) : Value := match own with
  | true => .ref (He.ga K x)
  | false => .type "ValueError"
def Xa.ok (K : PySem.W.Frag) : Xa → Bool
  | .ck x own d b => decide (PySem.W.kitOne K (.ref (He.ga K d)) (cv K x own) = some b) && (decide (PySem.W.exmOne K (.ref (He.ga K d)) (cv K x own) = some b) &&
    (He.eqO (PySem.W.findIn K (.ref (He.ga K d)) "__getattribute__") (some (some (.builtin "BaseException.__getattribute__"))) && (He.eqO (PySem.W.findIn K (.ref (He.ga K d)) "__getattr__") (some none) &&
    (decide (PySem.W.subIn K (.ref (He.ga K d)) (.type "BaseException") = some true) && (PySem.W.hasDictIn K (He.ga K d) && (He.eqO (PySem.W.findIn K (.ref (He.ga K d)) "__class__") (some (some (.builtin "object.__class__"))) &&
    (He.eqO (PySem.W.specialIn K (.builtin "object.__class__") "__get__") (some (some (.builtin "getset_descriptor.__get__"))) && (decide (PySem.W.takesIn K (.builtin "object.__class__") = some true) && decide (PySem.W.mroIn K (He.ga K d) (.type "object") = some true)))))))))
  | .ik x own d b => decide (PySem.W.kitOne K (.ref (He.ga K d)) (cv K x own) = some b) && ((He.Fa.cls d).ok K && (He.eqO (PySem.W.findIn K (.ref (He.ga K d)) "__class__") (some (some (.builtin "object.__class__"))) &&
    (He.eqO (PySem.W.specialIn K (.builtin "object.__class__") "__get__") (some (some (.builtin "getset_descriptor.__get__"))) && (decide (PySem.W.takesIn K (.builtin "object.__class__") = some true) && decide (PySem.W.mroIn K (He.ga K d) (.type "object") = some true)))))
def xaOk (xa : List Xa) (K : PySem.W.Frag) : Bool := xa.all (Xa.ok K)
theorem xa_get {xa : List Xa} {K : PySem.W.Frag} (h : xaOk xa K = true) {i : Nat} {a : Xa} (e : xa[i]? = some a) : a.ok K = true := List.all_eq_true.mp h a (List.mem_of_getElem? e)
theorem xck_ok {K : PySem.W.Frag} {x d : Str} {own b : Bool} (h : (Xa.ck x own d b).ok K = true) : PySem.W.kitOne K (.ref (He.ga K d)) (cv K x own) = some b ∧ PySem.W.exmOne K (.ref (He.ga K d)) (cv K x own) = some b ∧ ExcC K (He.ga K d) := by
  unfold Xa.ok at h
  simp only [Bool.and_eq_true, decide_eq_true_eq] at h
  obtain ⟨h1, h2, h3, h4, h5, h6, h7, h8, h9, h10⟩ := h
  exact ⟨h1, h2, ⟨He.eqO_ok h3, He.eqO_ok h4, h5, h6, He.eqO_ok h7, He.eqO_ok h8, h9, h10⟩⟩
theorem xik_ok {K : PySem.W.Frag} {x d : Str} {own b : Bool} (h : (Xa.ik x own d b).ok K = true) : PySem.W.kitOne K (.ref (He.ga K d)) (cv K x own) = some b ∧ InsC K (He.ga K d) := by
  unfold Xa.ok at h
  simp only [Bool.and_eq_true, decide_eq_true_eq] at h
  obtain ⟨h1, h2, h3, h4, h5, h6⟩ := h
  exact ⟨h1, ⟨He.cls_ok h2, He.eqO_ok h3, He.eqO_ok h4, h5, h6⟩⟩
/-- one name's tables -/
def CkAt (G : Glo) (K : PySem.W.Frag) (x : Str) (own : Bool) (t : List (Nat × Bool)) : Prop := ∀ c b, t.lookup c = some b → PySem.W.kitOne K (.ref (G.ca c)) (cv K x own) = some b ∧ PySem.W.exmOne K (.ref (G.ca c)) (cv K x own) = some b ∧ ExcC K (G.ca c)
def IkAt (G : Glo) (K : PySem.W.Frag) (x : Str) (own : Bool) (t : List (Nat × Bool)) : Prop := ∀ c b, t.lookup c = some b → PySem.W.kitOne K (.ref (G.ca c)) (cv K x own) = some b ∧ InsC K (G.ca c)
theorem ck_nil {G : Glo} {K : PySem.W.Frag} {x : Str} {own : Bool} : CkAt G K x own [] := fun c b e => by cases e
theorem ik_nil {G : Glo} {K : PySem.W.Frag} {x : Str} {own : Bool} : IkAt G K x own [] := fun c b e => by cases e
theorem ck_cons {G : Glo} {K : PySem.W.Frag} {x d : Str} {own b0 : Bool} {c0 j : Nat} {t : List (Nat × Bool)} {xa : List Xa} (h : xaOk xa K = true) (e : xa[j]? = some (.ck x own d b0)) (hc : G.ca c0 = He.ga K d) (ht : CkAt G K x own t) : CkAt G K x own ((c0, b0) :: t) := fun c b q => by
  rw [List.lookup_cons] at q
  split at q
  · rename_i z
    have z : c = c0 := by simpa using z
    subst z
    cases q
    rw [hc]
    exact xck_ok (xa_get h e)
  · exact ht c b q
theorem ik_cons {G : Glo} {K : PySem.W.Frag} {x d : Str} {own b0 : Bool} {c0 j : Nat} {t : List (Nat × Bool)} {xa : List Xa} (h : xaOk xa K = true) (e : xa[j]? = some (.ik x own d b0)) (hc : G.ca c0 = He.ga K d) (ht : IkAt G K x own t) : IkAt G K x own ((c0, b0) :: t) := fun c b q => by
  rw [List.lookup_cons] at q
  split at q
  · rename_i z
    have z : c = c0 := by simpa using z
    subst z
    cases q
    rw [hc]
    exact xik_ok (xa_get h e)
  · exact ht c b q
theorem ck_own {K : PySem.W.Frag} {h : Heap} {mg : Str → Option Value} {G : Glo} {fa : List He.Fa} {fn : List He.DefD} {x : Str} {j : Nat} {t1 t2 : List (Nat × Bool)} (c : He.SaysD fa fn K) (X : K.In h) (N : h.Ns mainGlobals mg) (hx : fa[j]? = some (.glo x)) (h1 : CkAt G K x true t1) (h2 : IkAt G K x true t2) :
    CkOk G K mg x true (some fun c => t1.lookup c) (some fun c => t2.lookup c) :=
  ⟨.ref (He.ga K x), .ref (He.ga K x), ⟨.own _, He.glo_ok X N (c.fact j hx)⟩, fun g e c b q => by cases e; exact h1 c b q, fun g e c b q => by cases e; exact h2 c b q⟩
theorem ck_ve {K : PySem.W.Frag} {mg : Str → Option Value} {G : Glo} {t1 t2 : List (Nat × Bool)} (h1 : CkAt G K "ValueError" false t1) (h2 : IkAt G K "ValueError" false t2) :
    CkOk G K mg "ValueError" false (some fun c => t1.lookup c) (some fun c => t2.lookup c) :=
  ⟨.ty "ValueError", .type "ValueError", ⟨.ty _, rfl, rfl⟩, fun g e c b q => by cases e; exact h1 c b q, fun g e c b q => by cases e; exact h2 c b q⟩
def CksOk (G : Glo) (K : PySem.W.Frag) (mg : Str → Option Value) : List (Str × Bool) → List (Nat → Option Bool) → List (Nat → Option Bool) → Prop
  | t :: ts, a :: as, b :: bs => CkOk G K mg t.1 t.2 (some a) (some b) ∧ CksOk G K mg ts as bs
  | [], _, _ => True
  | _, _, _ => False
theorem CksOk.get {G : Glo} {K : PySem.W.Frag} {mg : Str → Option Value} : ∀ {ts : List (Str × Bool)} {as bs : List (Nat → Option Bool)}, CksOk G K mg ts as bs → ∀ (f : Nat) (x : Str) (own : Bool), ts[f]? = some (x, own) → CkOk G K mg x own as[f]? bs[f]?
  | [], _, _, _, f, x, own, e => by simp at e
  | _ :: _, [], _, h, f, x, own, e => h.elim
  | _ :: _, _ :: _, [], h, f, x, own, e => h.elim
  | t :: ts, a :: as, b :: bs, ⟨h, hs⟩, 0, x, own, e => by
    simp at e
    subst e
    exact h
  | t :: ts, a :: as, b :: bs, ⟨h, hs⟩, f + 1, x, own, e => by
    simp only [List.getElem?_cons_succ]
    exact CksOk.get hs f x own (by simpa using e)
theorem rs1 {K : PySem.W.Frag} {h : Heap} {mg : Str → Option Value} {G : Glo} {fa : List He.Fa} {fn : List He.DefD} {x : Str} {j j2 c0 : Nat} (c : He.SaysD fa fn K) (X : K.In h) (N : h.Ns mainGlobals mg) (hx : fa[j]? = some (.glo x)) (hx2 : fa[j2]? = some (.exc x)) (hc : G.ca c0 = He.ga K x) : RsOk K mg (G.ca c0) x := by
  obtain ⟨h1, h2, h3, h4⟩ := He.exc_ok (c.fact j2 hx2)
  rw [hc]
  exact ⟨He.glo_ok X N (c.fact j hx), h1, h2, h3, h4⟩
def XksOk (G : Glo) (K : PySem.W.Frag) (mg : Str → Option Value) : List Str → List Nat → Prop
  | t :: ts, c :: cs => RsOk K mg (G.ca c) t ∧ XksOk G K mg ts cs
  | _, _ => True
theorem XksOk.get {G : Glo} {K : PySem.W.Frag} {mg : Str → Option Value} : ∀ {ts : List Str} {cs : List Nat}, XksOk G K mg ts cs → ∀ (f : Nat) (x : Str), ts[f]? = some x → ∀ c, cs[f]? = some c → RsOk K mg (G.ca c) x
  | [], _, _, f, x, e, _, _ => by simp at e
  | _ :: _, [], _, f, x, _, c, e => by simp at e
  | t :: ts, g :: gs, ⟨h, hs⟩, 0, x, e, g', e' => by
    simp at e e'
    subst e e'
    exact h
  | t :: ts, g :: gs, ⟨h, hs⟩, f + 1, x, e, g', e' => XksOk.get hs f x (by simpa using e) g' (by simpa using e')
theorem tab1 {P : Program} {w : World} {K : PySem.W.Frag} {h : Heap} {mg : Str → Option Value} {base : Heap} {G : Glo} {fa : List He.Fa} {fn : List He.DefD} {T : Tb} {Γ : Env} {k : Nat} {mts : List (Nat × Nat × (List D → RE ER))} {fds : List (Nat × Nat × Nat)}
    (c : He.SaysD (bltNames.map He.Fa.free ++ fa) fn K) (X : K.In h) (N : h.Ns mainGlobals mg) (hf : FnsOk P w K mg base G k T.fn Γ.fn) (hgc : GcsOk G mg T.gc Γ.gc) (hmt : Γ.mt = lookM mts) (hm : MtsOk P w K mg base G k T.mn mts)
    (hfi : Γ.fi = lookF fds) (hfd : FdsOk K G T.fs fds) (hnw : NwsOk P w K mg base G k T.nw Γ.nw) (hck : CksOk G K mg T.ck Γ.ck Γ.ik) (hxk : XksOk G K mg T.xk Γ.xk) : TabOk P w K mg base T Γ G k where
  blt := blt_ok c X N
  fn := hf.get
  gc := hgc.get
  mt := fun m x n e c g e' => by
    rw [hmt] at e'
    exact (hm.get m x n e c g e').ex
  fs := fun f x e c i e' => by
    rw [hfi] at e'
    exact hfd.get f x e c i e'
  nw := fun i x n e g e' => (hnw.get i x n e g e').ex
  ck := hck.get
  xk := hxk.get
section
variable {P : Program} {w : World} {K : PySem.W.Frag} {h : Heap} {mg : Str → Option Value} {base : Heap} {G : Glo} {fa : List He.Fa} {fn : List He.DefD} {T : Tb} {Γ : Env} {k m i j : Nat} {ir : Sms} {ps : List Str} {d : He.DefD} {x y : Str}
theorem def1 (c : He.SaysD fa fn K) (X : K.In h) (N : h.Ns mainGlobals mg) (hG : G.K = K) (hd : fn[i]? = some d) (hat : d.at_ = (x, none)) (hdf : d.dfl = []) (hkw : d.kwd = []) (hx : fa[j]? = some (.glo x))
    (S : FnScope T.N ps d.scope) (hm : T.N.length = ps.length + m) (hc : chkSs T d.scope ir d.body = true)
    (hb : ∀ (kV doc pm : Value) (an : Option Addr) (cdv ct : Value) (us : List Value), us.length = ps.length → bindArgs (PySem.W.fnOf d.name d.qual d.params d.body d.scope .none kV doc pm an cdv ct) ⟨us, []⟩ = pure (ps.zip us))
    (tab : TabOk P w K mg base T Γ G k) : DefAt P w K mg base G (k + 1) x ps.length (defD Γ ps.length m ir) := by
  obtain ⟨fd, F⟩ := c.def_ i hd
  have e1 : d.dvs K = [] := by unfold He.DefD.dvs; rw [hdf]; rfl
  have e2 : d.kws K = [] := by unfold He.DefD.kws; rw [hkw]; rfl
  rw [e1, e2, hat] at F
  exact ⟨k + 1, _, fd, ps, Nat.le_refl _, defOk F S hG tab hm hc, He.glo_ok X N (c.fact j hx), F.kp, FunD.bindsN F hb⟩
theorem mth1 {cn n j2 : Nat} (c : He.SaysD fa fn K) (hG : G.K = K) (hd : fn[i]? = some d) (hat : d.at_ = (x, some y)) (hdf : d.dfl = []) (hkw : d.kwd = []) (hx : fa[j]? = some (.meth x y)) (hx2 : fa[j2]? = some (.cls x)) (hca : G.ca cn = He.ga K x) (hfl : y ∉ G.fl cn) (hn : ps.length = n + 1)
    (S : FnScope T.N ps d.scope) (hm : T.N.length = ps.length + m) (hc : chkSs T d.scope ir d.body = true)
    (hb : ∀ (kV doc pm : Value) (an : Option Addr) (cdv ct : Value) (us : List Value), us.length = ps.length → bindArgs (PySem.W.fnOf d.name d.qual d.params d.body d.scope .none kV doc pm an cdv ct) ⟨us, []⟩ = pure (ps.zip us))
    (tab : TabOk P w K mg base T Γ G k) : MthAt P w K mg base G (k + 1) cn y n (defD Γ (n + 1) m ir) := by
  obtain ⟨fd, F⟩ := c.def_ i hd
  have e1 : d.dvs K = [] := by unfold He.DefD.dvs; rw [hdf]; rfl
  have e2 : d.kws K = [] := by unfold He.DefD.kws; rw [hkw]; rfl
  rw [e1, e2, hat] at F
  have M := He.meth_ok (c.fact j hx)
  have O := defOk F S hG tab hm hc
  rw [hn] at O
  exact ⟨hca ▸ He.cls_ok (c.fact j2 hx2), hfl, k + 1, _, fd, ps, Nat.le_refl _, hca ▸ M, O, FunD.bindsN F hb⟩
theorem ini1 {cn n nf j2 : Nat} (c : He.SaysD fa fn K) (X : K.In h) (N : h.Ns mainGlobals mg) (hG : G.K = K) (hd : fn[i]? = some d) (hat : d.at_ = (x, some ("__init__" : Str))) (hdf : d.dfl = []) (hkw : d.kwd = []) (hx : fa[j]? = some (.mkr x)) (hx2 : fa[j2]? = some (.glo x)) (hca : G.ca cn = He.ga K x) (hn : ps.length = n + 1) (hnf : (G.fl cn).length = nf)
    (S : FnScope T.N ps d.scope) (hm : T.N.length = ps.length + m) (hc : chkSs T d.scope ir d.body = true)
    (hb : ∀ (kV doc pm : Value) (an : Option Addr) (cdv ct : Value) (us : List Value), us.length = ps.length → bindArgs (PySem.W.fnOf d.name d.qual d.params d.body d.scope .none kV doc pm an cdv ct) ⟨us, []⟩ = pure (ps.zip us))
    (tab : TabOk P w K mg base T Γ G k) : NwAt P w K mg base G (k + 2) x n cn (iniD Γ cn nf n m ir) := by
  obtain ⟨fd, F⟩ := c.def_ i hd
  have e1 : d.dvs K = [] := by unfold He.DefD.dvs; rw [hdf]; rfl
  have e2 : d.kws K = [] := by unfold He.DefD.kws; rw [hkw]; rfl
  rw [e1, e2, hat] at F
  have M := He.mkr_ok (c.fact j hx)
  exact ⟨k + 1, _, fd, ps, Nat.le_refl _, hca ▸ M, iniOk F S hG tab hm hn hc hnf, hca ▸ He.glo_ok X N (c.fact j2 hx2), FunD.bindsN F hb⟩
theorem fd1 {cn n j2 : Nat} (c : He.SaysD fa fn K) (hx : fa[j]? = some (.cls x)) (hx2 : fa[j2]? = some (.noat x y)) (hca : G.ca cn = He.ga K x) (h1 : (G.fl cn)[n]? = some y) (h2 : (G.fl cn).Nodup) : FdAt K G cn n y :=
  ⟨hca ▸ He.cls_ok (c.fact j hx), hca ▸ He.noat_ok (c.fact j2 hx2), h1, h2⟩
end
/-! ### the head's run, by parts -/
theorem run3 {r : PySem.W.OpenRow} {q : Program} {H : PySem.W.Hook} {ob : PySem.W.SharedT → H.α} {M : Nat} {loose : List Str} {w : World}
    (a : ∀ os : OsState, (HandSHeadRun.endF (HandSHeadRun.stepQ (HandSHeadRun.denQ HandSHeadRun.tabQ) r.prog w) M r.prog w os).map (fun s => HandSHeadRun.looksF r.prog (boot_heap w.params) s.abs) = some true)
    (b : ∀ os : OsState, (HandSHeadRun.endF (HandSHeadRun.stepQ (HandSHeadRun.denQ HandSHeadRun.tabQ) r.prog w) M r.prog w os).map (fun s => HandSHeadRun.seenQ q loose (PySem.importedModules r.prog.main.body) (fun s => PySem.W.xlAt q [] s && PySem.W.recOk r.toRowW.records s) s.abs) = some (PySem.W.openGood q loose))
    (c : ∀ os : OsState, (HandSHeadRun.endF (HandSHeadRun.stepQ (HandSHeadRun.denQ HandSHeadRun.tabQ) r.prog w) M r.prog w os).map ob = some (H.val w)) : HandSHeadRun.RunEq r q H ob M loose w := by
  intro os
  have a := a os
  have b := b os
  have c := c os
  cases e : HandSHeadRun.endF (HandSHeadRun.stepQ (HandSHeadRun.denQ HandSHeadRun.tabQ) r.prog w) M r.prog w os with
  | none => rw [e] at a; cases a
  | some s =>
    rw [e] at a b c
    simp only [Option.map_some, Option.some.injEq] at a b c ⊢
    rw [a, b, c]
/-! ### the hook of a literal list of addresses -/
def obL (as : List Addr) (fa : List He.Fa) (fn : List He.DefD) (xa : List Xa) (g : Addr → Option Obj) : He.AlD × Bool := (He.obsD fa fn (He.frG g as), xaOk xa (He.frG g as))
def hookL (as : List Addr) (fa : List He.Fa) (fn : List He.DefD) (xa : List Xa) : PySem.W.Hook where
  α := He.AlD × Bool
  obs := fun s => obL as fa fn xa s.heap.get?
  val := fun _ => (He.valD fn, true)
  says := fun _ h => ∃ K : PySem.W.Frag, K.In h ∧ He.SaysD fa fn K ∧ xaOk xa K = true
  of := fun _ _ e => ⟨_, He.frG_in, congrArg Prod.fst e, congrArg Prod.snd e⟩
  keeps := fun _ _ _ ⟨K, kin, says⟩ st => ⟨K, PySem.W.Frag.In.keeps kin st, says⟩
def obT (as : List Addr) (fa : List He.Fa) (fn : List He.DefD) (xa : List Xa) (s : PySem.W.SharedT) : He.AlD × Bool := obL as fa fn xa (HandSHeadRun.getT s)
theorem obT_eq {as : List Addr} {fa : List He.Fa} {fn : List He.DefD} {xa : List Xa} (s : PySem.W.SharedT) : obT as fa fn xa s = (hookL as fa fn xa).obs s.abs := by
  have : HandSHeadRun.getT s = s.abs.heap.get? := funext fun a => HandSHeadRun.getT_eq s a
  show (He.obsD fa fn (He.frG (HandSHeadRun.getT s) as), xaOk xa (He.frG (HandSHeadRun.getT s) as)) = (He.obsD fa fn (He.frG s.abs.heap.get? as), xaOk xa (He.frG s.abs.heap.get? as))
  rw [this]
/-! ### the law -/
theorem law1 {P : Program} {w : World} {K : PySem.W.Frag} {h : Heap} {mg : Str → Option Value} {G : Glo} {fa : List He.Fa} {fn : List He.DefD} {T : Tb} {Γ : Env} {k m i j : Nat} {ir : Sms} {y : Str} {d : He.DefD} {x : Str} {f : Addr}
    (c : He.SaysD fa fn K) (X : K.In h) (N : h.Ns mainGlobals mg) (hG : G.K = K) (hd : fn[i]? = some d) (hat : d.at_ = (x, none)) (hdf : d.dfl = []) (hkw : d.kwd = []) (hx : fa[j]? = some (.glo x)) (hfa : mg x = some (.ref f))
    (S : FnScope T.N [y] d.scope) (hm : T.N.length = 1 + m) (hc : chkSs T d.scope ir d.body = true)
    (hb : ∀ (kV doc pm : Value) (an : Option Addr) (cdv ct : Value) (us : List Value), us.length = 1 → bindArgs (PySem.W.fnOf d.name d.qual d.params d.body d.scope .none kV doc pm an cdv ct) ⟨us, []⟩ = pure ([y].zip us))
    (tab : ∀ base : Heap, K.In base → base.Ns mainGlobals mg → TabOk P w K mg base T Γ G k) :
    ∃ fd : FuncData, (∀ (s : Shared) (u : Value), BindsTo s fd ⟨[u], []⟩ [(y, u)]) ∧ ∀ base : Heap, K.In base → base.Ns mainGlobals mg → FnOk P w K mg base (L2.CX P w) (k + 1) f fd [y] (spD G 1 (defD Γ 1 m ir)) := by
  obtain ⟨fd, F⟩ := c.def_ i hd
  have e1 : d.dvs K = [] := by unfold He.DefD.dvs; rw [hdf]; rfl
  have e2 : d.kws K = [] := by unfold He.DefD.kws; rw [hkw]; rfl
  rw [e1, e2, hat] at F
  have e := hfa.symm.trans (He.glo_ok X N (c.fact j hx))
  cases e
  exact ⟨fd, fun s u => FunD.bindsA (ps := [y]) F hb s [u] rfl, fun base hB hN => defOk F S hG (tab base hB hN) hm hc⟩
/-- a law's end: the law's function on trees tells True -/
theorem law_at {l : PySem.W.OpenLaw} {w : World} {K : PySem.W.Frag} {mg : Str → Option Value} {f : Addr} {h : Heap} {G : Glo} {g : List D → RE ER} {k n : Nat} {y : Str} (hG : G.K = K)
    (ok : ∃ fd : FuncData, (∀ (s : Shared) (u : Value), BindsTo s fd ⟨[u], []⟩ [(y, u)]) ∧ ∀ base : Heap, K.In base → base.Ns mainGlobals mg → FnOk l.prog w K mg base (L2.CX l.prog w) k f fd [y] (spD G 1 g))
    (tr : ∀ ns : List Int, ns.length ≤ n → (∀ z ∈ ns, Builtin.Int.intBits z ≤ 1048576) → ∃ b, g [.lst (ns.map D.int)] = .ok (.val (.bl true) b)) : LamX.LawAtS l w K (L2.CX l.prog w) k n y mg f h := by
  obtain ⟨fd, hb, hF⟩ := ok
  refine ⟨fd, [], spD G 1 g, fun p hp => (nomatch hp), fun p hp => (nomatch hp), fun p hp => (nomatch hp), hb, fun H a ns hl hz _ hS => ?_, fun base h1 h2 _ => hF base h1 h2⟩
  obtain ⟨b, e⟩ := tr ns hl hz
  refine ⟨fun _ => none, H, [.lst (ns.map D.int)], fun _ _ q => (nomatch q), L2.Same.refl _, ⟨_, [], rfl, ⟨a, _, rfl, hG ▸ hS, Reps.ints.mpr rfl⟩, rfl⟩, rfl, ?_⟩
  rw [e]
  intro v H' P' N' _ q
  exact q
theorem cx_end {P : Program} {w : World} (H : Hp) (s : Shared) (e : Value) (s' : Shared) (h : L2.CX P w [] H s (fun _ _ _ => False) e s') : False := by
  obtain ⟨a, B, H', cls, d, _, _, _, _, _, _, _, z⟩ := h
  exact z
end Cm

set_option Elab.async false
set_option linter.all false
set_option maxRecDepth 100000
/-! The plain side: loops and comprehensions on trees. -/
namespace Cm
theorem lcl_filter {α : Type} {f : D → RE (Option (D × Bool))} {en h : α → D} {p : α → Bool} : ∀ {xs : List α}, (∀ x ∈ xs, f (en x) = .ok (if p x = true then some (h x, true) else none)) → lcl f (xs.map en) = .ok ((xs.filter p).map h, true)
  | [], _ => rfl
  | x :: xs, e => by
    have ih := lcl_filter (xs := xs) fun y hy => e y (List.mem_cons_of_mem _ hy)
    have e0 := e x (by simp)
    simp only [List.map_cons, lcl, e0, RE.bind_ok, ih]
    by_cases q : p x = true
    · simp [q]
    · simp [q]
theorem lcl_map {α : Type} {f : D → RE (Option (D × Bool))} {en h : α → D} {xs : List α} (e : ∀ x ∈ xs, f (en x) = .ok (some (h x, true))) : lcl f (xs.map en) = .ok (xs.map h, true) := by
  have := lcl_filter (f := f) (en := en) (h := h) (p := fun _ => true) (xs := xs) (by simpa using e)
  rw [List.filter_eq_self.mpr (fun _ _ => rfl)] at this
  exact this
/-- a comprehension without a condition -/
theorem ev_lc {α : Type} {Γ : Env} {own : List Nat} {it : Itx} {i : Nat} {e : Ex} {ρ : List Sl} {xs : List α} {en h : α → D} {b o : Bool} (hi : evI Γ it ρ = .ok ⟨xs.map en, b, o⟩) (hl : xs.length ≤ LIM)
    (hx : ∀ x ∈ xs, ∃ y, ev Γ e ((wipeS ρ own).set i (.val (en x) (b || (en x).flat))) = .ok y ∧ y.isB = false ∧ y.d = h x ∧ y.b = true) : ev Γ (.lc own it [i] .nil e) ρ = .ok (.fre (xs.map h) true) := by
  rw [ev, hi]
  simp only [RE.bind_ok, List.length_map, (leB_iff _).mpr hl, gd_true]
  rw [lcl_map (h := h)]
  · rfl
  · intro x hm
    obtain ⟨y, e1, e2, e3, e4⟩ := hx x hm
    simp only [bindT, evBs, RE.bind_ok, if_true, e1]
    cases y with
    | brw _ _ => cases e2
    | val d b => cases e4; rw [← e3]; rfl
    | fre d b => cases e4; rw [← e3]; rfl
/-- one with a condition -/
theorem ev_lcf {α : Type} {Γ : Env} {own : List Nat} {it : Itx} {i : Nat} {e : Ex} {c : Te} {ρ : List Sl} {xs : List α} {en h : α → D} {p : α → Bool} {b o : Bool} (hi : evI Γ it ρ = .ok ⟨xs.map en, b, o⟩) (hl : xs.length ≤ LIM)
    (hc : ∀ x ∈ xs, evT Γ c ((wipeS ρ own).set i (.val (en x) (b || (en x).flat))) = .ok (p x))
    (hx : ∀ x ∈ xs, p x = true → ∃ y, ev Γ e ((wipeS ρ own).set i (.val (en x) (b || (en x).flat))) = .ok y ∧ y.isB = false ∧ y.d = h x ∧ y.b = true) : ev Γ (.lc own it [i] (.cons c .nil) e) ρ = .ok (.fre ((xs.filter p).map h) true) := by
  rw [ev, hi]
  simp only [RE.bind_ok, List.length_map, (leB_iff _).mpr hl, gd_true]
  rw [lcl_filter (h := h) (p := p)]
  · rfl
  · intro x hm
    simp only [bindT, evBs, hc x hm, RE.bind_ok]
    cases hp : p x with
    | false => rfl
    | true =>
      obtain ⟨y, e1, e2, e3, e4⟩ := hx x hm hp
      simp only [if_true, e1, RE.bind_ok]
      cases y with
      | brw _ _ => cases e2
      | val d b => cases e4; rw [← e3]; rfl
      | fre d b => cases e4; rw [← e3]; rfl
/-- a loop by the turn -/
theorem forGo_ix {f : D → List Sl → Out} : ∀ {xs : List D} {ρ : List Sl} (I : Nat → List Sl → Prop), (∀ i x ρ, xs[i]? = some x → I i ρ → ∃ ρ', f x ρ = .nx ρ' ∧ I (i + 1) ρ') → I 0 ρ → ∃ ρ', forGo f xs ρ = .nx ρ' ∧ I xs.length ρ'
  | [], ρ, I, _, h => ⟨ρ, rfl, h⟩
  | x :: xs, ρ, I, hs, h => by
    obtain ⟨ρ1, e1, h1⟩ := hs 0 x ρ rfl h
    obtain ⟨ρ2, e2, h2⟩ := forGo_ix (xs := xs) (fun i => I (i + 1)) (fun i y ρ e => hs (i + 1) y ρ (by simpa using e)) h1
    refine ⟨ρ2, ?_, h2⟩
    unfold forGo
    rw [e1]
    exact e2
theorem ints_flat : ∀ ns : List Int, D.flats (ns.map D.int) = true
  | [] => rfl
  | n :: ns => by simp [ints_flat ns]
theorem intsD_map : ∀ ns : List Int, intsD (ns.map D.int) = some ns
  | [] => rfl
  | n :: ns => by simp [intsD, intsD_map ns]
theorem fits_ints (n : Nat) : ∀ ns : List Int, D.fits (ns.map D.int) n = true
  | [] => rfl
  | m :: ns => by simp [D.fits, D.fit, fits_ints n ns]
theorem eqbs_ints : ∀ ns ms : List Int, D.eqbs (ns.map D.int) (ms.map D.int) = decide (ns = ms)
  | [], [] => by simp [D.eqbs]
  | [], _ :: _ => by simp [D.eqbs]
  | _ :: _, [] => by simp [D.eqbs]
  | n :: ns, m :: ms => by
    simp only [List.map_cons, D.eqbs, D.eqb, eqbs_ints ns ms]
    by_cases h : n = m <;> simp [h]
/-- two lists of numbers are the same -/
theorem eq_ints (ns ms : List Int) : evEq (.lst (ns.map D.int)) (.lst (ms.map D.int)) = .ok (decide (ns = ms)) := by
  simp [evEq, D.fit, fits_ints, D.eqb, eqbs_ints]
theorem any_ints (x : Int) : ∀ ns : List Int, ((ns.map D.int).any fun z => z.eqb (.int x)) = decide (x ∈ ns)
  | [] => by simp
  | n :: ns => by
    show (D.eqb (.int n) (.int x) || (ns.map D.int).any fun z => z.eqb (.int x)) = _
    rw [any_ints x ns]
    simp only [D.eqb, List.mem_cons]
    by_cases h : n = x
    · subst h; simp
    · have : ¬ x = n := fun e => h e.symm
      simp [h, this]
theorem in_ints (x : Int) (ns : List Int) : evIn (.int x) (.lst (ns.map D.int)) = .ok (decide (x ∈ ns)) := by
  show (if ((D.int x).fit 64 && (D.lst (ns.map D.int)).fit 64) = true then RE.ok ((ns.map D.int).any fun z => z.eqb (.int x)) else RE.bad) = _
  rw [if_pos (by simp [D.fit, fits_ints]), any_ints]
theorem map_erase {α β : Type} (f : α → β) : ∀ (l : List α) (i : Nat), (l.map f).eraseIdx i = (l.eraseIdx i).map f
  | [], _ => rfl
  | a :: l, 0 => rfl
  | a :: l, i + 1 => by simp [map_erase f l i]
theorem erase_perm {α : Type} : ∀ (l : List α) (i : Nat) (h : i < l.length), (l[i] :: l.eraseIdx i).Perm l
  | [], _, h => absurd h (Nat.not_lt_zero _)
  | a :: l, 0, _ => List.Perm.refl _
  | a :: l, i + 1, h => (List.Perm.swap a _ _).trans ((erase_perm l i (Nat.lt_of_succ_lt_succ h)).cons a)
/-- numbers of cells -/
def IC (cs : List Nat) : List Int := cs.map fun c => ((c : Nat) : Int)
theorem IC_get {cs : List Nat} {i : Nat} {x : D} (h : ((IC cs).map D.int)[i]? = some x) : ∃ c, cs[i]? = some c ∧ x = .int ((c : Nat) : Int) := by
  rw [IC, List.map_map, List.getElem?_map] at h
  cases e : cs[i]? with
  | none => rw [e] at h; cases h
  | some m => rw [e] at h; cases h; exact ⟨m, rfl, rfl⟩
theorem IC_at {cs : List Nat} {i c : Nat} (h : cs[i]? = some c) : ((IC cs).map D.int)[i]? = some (.int ((c : Nat) : Int)) := by
  rw [IC, List.map_map, List.getElem?_map, h]; rfl
theorem IC_len (cs : List Nat) : ((IC cs).map D.int).length = cs.length := by simp [IC]
theorem rngL_IC (n : Nat) : rngL 0 1 n = IC (List.range n) := by
  unfold rngL IC
  exact List.map_congr_left fun i _ => by omega
theorem atI_int {ns : List Int} {k : Nat} {v : Int} (h : ns[k]? = some v) : L2.atI (ns.map D.int) (k : Int) = some (.int v) := by
  apply L2.atI_nat
  rw [List.getElem?_map, h]; rfl
theorem mul_t {i j : Int} (h : MulOk i j) : mulB i j = true := by rw [mulB_iff]; exact .inl h
theorem mul_x {i j : Int} (h : L2.CMulX i j) : mulB i j = true := by rw [mulB_iff]; exact .inr h
theorem div_t {j : Int} (h : DivOk j) : divB j = true := by rw [divB_iff]; exact h
theorem pow_t {i j : Int} (h : PowOk i j) : powB i j = true := by rw [powB_iff]; exact h
theorem nz_t {j : Int} (h : j ≠ 0) : nzB j = true := by rw [nzB_iff]; exact h
theorem le_t {n : Nat} (h : n ≤ LIM) : leB n = true := by rw [leB_iff]; exact h
theorem inb_t {i : Int} (h : -1000000 ≤ i ∧ i ≤ 1000000) : inBB i = true := by
  unfold inBB
  rw [Nat.ble_eq]
  omega
theorem rg1_t {n : Nat} (h : n ≤ 1000000) : rg1B (n : Int) = true := by
  have : LIM = 16777216 := rfl
  unfold rg1B
  rw [Bool.and_eq_true, leB_iff]
  exact ⟨inb_t (by omega), by omega⟩
theorem rg2_t {i j : Int} (h : -1000000 ≤ i ∧ i ≤ 1000000 ∧ -1000000 ≤ j ∧ j ≤ 1000000) : rg2B i j = true := by
  have : LIM = 16777216 := rfl
  unfold rg2B
  rw [Bool.and_eq_true, Bool.and_eq_true, leB_iff]
  exact ⟨inb_t (by omega), inb_t (by omega), by omega⟩
/-! ### statement by statement -/
section
variable {Γ : Env} {ss a b : Sms} {ρ ρ' : List Sl} {i : Nat} {e ix : Ex} {d : D} {ds : List D} {f c : Bool}
theorem st_asg (h : ev Γ e ρ = .ok (.val d f)) : runs Γ (.cons (.asg i e) ss) ρ = runs Γ ss (ρ.set i (.val d f)) := by rw [runs, Cm.run, h]; rfl
theorem st_asgL (h : ev Γ e ρ = .ok (.fre ds f)) : runs Γ (.cons (.asg i e) ss) ρ = runs Γ ss (ρ.set i (.val (.lst ds) f)) := by rw [runs, Cm.run, h]; rfl
theorem st_own (h : ev Γ e ρ = .ok (.fre ds f)) : runs Γ (.cons (.own i e) ss) ρ = runs Γ ss (ρ.set i (.own ds f)) := by rw [runs, Cm.run, h]; rfl
theorem st_asgT {tg : List Nat} (h : ev Γ e ρ = .ok (.val d f)) (h2 : bindT tg d f ρ = some ρ') : runs Γ (.cons (.asgT tg e) ss) ρ = runs Γ ss ρ' := by rw [runs, Cm.run, h]; simp only [RE.out_ok, held, h2, onB_some]; rfl
theorem st_ifT {t : Te} (h : evT Γ t ρ = .ok true) : runs Γ (.cons (.iff t a b) ss) ρ = (runs Γ a ρ).seq fun ρ' => runs Γ ss ρ' := by rw [runs, Cm.run, h]; rfl
theorem st_ifF {t : Te} (h : evT Γ t ρ = .ok false) : runs Γ (.cons (.iff t a b) ss) ρ = (runs Γ b ρ).seq fun ρ' => runs Γ ss ρ' := by rw [runs, Cm.run, h]; rfl
theorem st_if {t : Te} {k : Bool} (h : evT Γ t ρ = .ok k) : runs Γ (.cons (.iff t a b) ss) ρ = (if k = true then runs Γ a ρ else runs Γ b ρ).seq fun ρ' => runs Γ ss ρ' := by rw [runs, Cm.run, h]; rfl
theorem st_nil : runs Γ .nil ρ = .nx ρ := by rw [runs]
theorem st_ret {x : ER} (h : ev Γ e ρ = .ok x) : runs Γ (.cons (.ret e) ss) ρ = .ret (retE x) := by rw [runs, Cm.run, h]; rfl
theorem st_app (h0 : ρ[i]? = some (.own ds c)) (h : ev Γ e ρ = .ok (.val d f)) (hl : ds.length < LIM) : runs Γ (.cons (.app i e) ss) ρ = runs Γ ss (ρ.set i (.own (ds ++ [d]) (f && c))) := by
  rw [runs, Cm.run, ownAt, h0]
  simp only [h, RE.out_ok, held, (leB_iff _).mpr hl, gdO_true]
  rfl
theorem st_put {k : Int} {x : ER} {j : Nat} (h : ev Γ e ρ = .ok (.val d f)) (h0 : ρ[i]? = some (.own ds c)) (h1 : ev Γ ix ρ = .ok x) (h2 : x.d = .int k) (h3 : L2.ixN ds.length k = some j) : runs Γ (.cons (.put i ix e) ss) ρ = runs Γ ss (ρ.set i (.own (ds.set j d) (f && c))) := by
  rw [runs, Cm.run, h]
  simp only [RE.out_ok, held, ownAt, h0, h1, h2, h3]
  rfl
theorem st_putL {es : List D} {k : Int} {x : ER} {j : Nat} (h : ev Γ e ρ = .ok (.fre es f)) (h0 : ρ[i]? = some (.own ds c)) (h1 : ev Γ ix ρ = .ok x) (h2 : x.d = .int k) (h3 : L2.ixN ds.length k = some j) : runs Γ (.cons (.put i ix e) ss) ρ = runs Γ ss (ρ.set i (.own (ds.set j (.lst es)) (f && c))) := by
  rw [runs, Cm.run, h]
  simp only [RE.out_ok, held, ownAt, h0, h1, h2, h3]
  rfl
theorem st_appL {es : List D} (h0 : ρ[i]? = some (.own ds c)) (h : ev Γ e ρ = .ok (.fre es f)) (hl : ds.length < LIM) : runs Γ (.cons (.app i e) ss) ρ = runs Γ ss (ρ.set i (.own (ds ++ [.lst es]) (f && c))) := by
  rw [runs, Cm.run, ownAt, h0]
  simp only [h, RE.out_ok, held, (leB_iff _).mpr hl, gdO_true]
  rfl
theorem ixN_nat {n k : Nat} (h : k < n) : L2.ixN n (k : Int) = some k := by
  unfold L2.ixN
  rw [if_pos (by omega), if_pos (by omega)]
  simp
theorem st_apop {j m : Nat} {es : List D} {c2 : Bool} {x : ER} {k : Int} (hij : i ≠ j) (h0 : ρ[i]? = some (.own ds c)) (h1 : ρ[j]? = some (.own es c2)) (h : ev Γ ix ρ = .ok x) (hx : x.d = .int k) (hm : L2.ixN es.length k = some m) (hd : es[m]? = some d) (l1 : es.length ≤ LIM) (l2 : ds.length < LIM) :
    runs Γ (.cons (.apop i j ix) ss) ρ = runs Γ ss ((ρ.set j (.own (es.eraseIdx m) c2)).set i (.own (ds ++ [d]) (c2 && c))) := by
  rw [runs, Cm.run, if_neg hij, ownAt, h0]
  simp only [ownAt, h1, h, RE.out_ok, hx, hm, hd, (leB_iff _).mpr l1, (leB_iff _).mpr (show ds.length + 1 ≤ LIM from l2), gdO_true]
  rfl
theorem st_clr (h0 : ρ[i]? = some (.own ds c)) : runs Γ (.cons (.clr i) ss) ρ = runs Γ ss (ρ.set i (.own [] true)) := by
  rw [runs, Cm.run, ownAt, h0]; rfl
theorem st_frz (h0 : ρ[i]? = some (.own ds c)) : runs Γ (.frz i ss) ρ = runs Γ ss (ρ.set i (.val (.lst ds) c)) := by
  rw [runs, ownAt, h0]
theorem st_for {it : Itx} {tg : List Nat} {w : Wk} (h : evI Γ it ρ = .ok w) (ho : w.own = false) (h2 : forGo (fun x ρ => onB (bindT tg x w.b ρ) fun ρ' => runs Γ b ρ') w.xs ρ = .nx ρ') : runs Γ (.cons (.for it tg b) ss) ρ = runs Γ ss ρ' := by
  rw [runs, Cm.run, h]
  simp only [RE.out_ok, ho, Bool.false_eq_true, if_false, h2]
  rfl
/-- a call of a def -/
theorem ev_call {k : Nat} {es : Exs} {g : PySem.Str × (List D → RE ER)} {as : List ER} {d : D} {f : Bool} (hg : Γ.fn[k]? = some g) (hs : evs Γ es ρ = .ok as) (h : g.2 (as.map ER.d) = .ok (.val d f)) (ha : as.all ER.isV = true) : ev Γ (.call k es) ρ = .ok (.val d (f || d.flat)) := by
  rw [ev, hg]
  simp only [hs, RE.bind_ok, h, ha, Bool.not_true, callR]
theorem ev_callL {k : Nat} {es : Exs} {g : PySem.Str × (List D → RE ER)} {as : List ER} {ds : List D} {f : Bool} (hg : Γ.fn[k]? = some g) (hs : evs Γ es ρ = .ok as) (h : g.2 (as.map ER.d) = .ok (.fre ds f)) (ha : as.all ER.isV = true) : ev Γ (.call k es) ρ = .ok (.fre ds f) := by
  rw [ev, hg]
  simp only [hs, RE.bind_ok, h, ha, Bool.not_true, callR]
theorem ev_callB {k : Nat} {es : Exs} {g : PySem.Str × (List D → RE ER)} {as : List ER} {d : D} {f : Bool} (hg : Γ.fn[k]? = some g) (hs : evs Γ es ρ = .ok as) (h : g.2 (as.map ER.d) = .ok (.val d f)) (hd : d.flat = true) : ev Γ (.call k es) ρ = .ok (.val d true) := by
  rw [ev, hg]
  simp only [hs, RE.bind_ok, h]
  cases e : as.all ER.isV <;> simp [callR, hd]
theorem ev_callBL {k : Nat} {es : Exs} {g : PySem.Str × (List D → RE ER)} {as : List ER} {ds : List D} {f : Bool} (hg : Γ.fn[k]? = some g) (hs : evs Γ es ρ = .ok as) (h : g.2 (as.map ER.d) = .ok (.fre ds true)) : ev Γ (.call k es) ρ = .ok (.fre ds true) := by
  rw [ev, hg]
  simp only [hs, RE.bind_ok, h]
  cases e : as.all ER.isV <;> simp [callR]
theorem ev_len {a : Ex} {x : ER} {ds : List D} (h : ev Γ a ρ = .ok x) (hd : x.d = .lst ds) : ev Γ (.pri .len (.cons a .nil)) ρ = ok (.int ds.length) := by
  rw [ev, evs, evs, h]
  simp only [RE.bind_ok, evP]
  have : x.frz.d = .lst ds := by cases x <;> exact hd
  rw [this]
/-- a def by its run -/
theorem def_run {n m : Nat} {b : Sms} {as : List D} {x : ER} (hn : as.length = n) (h : runs Γ b (as.map (fun d => Sl.val d d.flat) ++ List.replicate m .non) = .ret x) : defD Γ n m b as = .ok x := by
  rw [defD, if_pos hn, h]; rfl
theorem st_expr {x : ER} (h : ev Γ e ρ = .ok x) : runs Γ (.cons (.expr e) ss) ρ = runs Γ ss ρ := by rw [runs, Cm.run, h]; rfl
theorem st_exprE {k : Nat} {fs : List D} (h : ev Γ e ρ = .exc k fs) : runs Γ (.cons (.expr e) ss) ρ = .exc k fs := by rw [runs, Cm.run, h]; rfl
theorem st_rse {k c : Nat} (h : Γ.xk[k]? = some c) : runs Γ (.cons (.rse k) ss) ρ = .exc c [] := by rw [runs, Cm.run, h]; rfl
theorem st_tryE {k i j c : Nat} {t : Tr} {g : Nat → Option Bool} (h : trB Γ t ρ = .exc c []) (hg : Γ.ck[k]? = some g) (hc : g c = some true) (hij : i ≠ j) : runs Γ (.cons (.tryx k i j t) ss) ρ = runs Γ ss ((ρ.set j (.val (.exc c []) true)).set i .non) := by
  rw [runs, Cm.run, h, hg]
  simp only [trX, hc, if_neg hij]
  rfl
theorem st_tryO {k i j : Nat} {t : Tr} (h : trB Γ t ρ = .ok ρ') : runs Γ (.cons (.tryx k i j t) ss) ρ = runs Γ ss ρ' := by
  rw [runs, Cm.run, h]
  rfl
/-- a def that raises -/
theorem def_exc {n m c : Nat} {b : Sms} {as : List D} {fs : List D} (hn : as.length = n) (h : runs Γ b (as.map (fun d => Sl.val d d.flat) ++ List.replicate m .non) = .exc c fs) : defD Γ n m b as = .exc c fs := by
  rw [defD, if_pos hn, h]; rfl
end
/-- an answer that is True -/
def isTr (r : RE ER) : Bool := match r with
  | .ok (.val (.bl true) _) => true
  | _ => false
theorem isTr_ok {r : RE ER} (h : isTr r = true) : ∃ b, r = .ok (.val (.bl true) b) := by
  unfold isTr at h
  split at h
  · exact ⟨_, rfl⟩
  · cases h
end Cm

set_option Elab.async false
set_option linter.all false
set_option maxRecDepth 100000
namespace K16
open Cm
/-- Unlike.holds(self, filling) : 0=self 1=filling 2=cell -/
def i_Unlike_holds : Sms := (.cons (.ret (.cmp .eq (.lset (.lc [2] (.any (.fld (.var 0) 0)) [2] .nil (.idx (.var 1) (.var 2)))) (.pri .len (.cons (.fld (.var 0) 0) .nil))))
    .nil)
def G_Unlike_holds : Env := { fn := [], gc := [], mn := [], mt := lookM [], fs := [], fi := lookF [(0, 0, 1), (1, 0, 1), (2, 0, 1), (3, 0, 1), (4, 0, 1), (5, 0, 1), (6, 0, 1), (7, 0, 1)], nw := [], ck := [], ik := [], xk := [] }
def g_Unlike_holds : List D → RE ER := defD G_Unlike_holds 2 1 i_Unlike_holds
/-- Total.holds(self, filling) : 0=self 1=filling 2=cell -/
def i_Total_holds : Sms := (.cons (.ret (.cmp .eq (.pri .sum (.cons (.lc [2] (.any (.fld (.var 0) 0)) [2] .nil (.idx (.var 1) (.var 2))) .nil)) (.fld (.var 0) 1)))
    .nil)
def G_Total_holds : Env := { fn := [], gc := [], mn := [], mt := lookM [], fs := [], fi := lookF [(0, 0, 1), (1, 0, 1), (2, 0, 1), (3, 0, 1), (4, 0, 1), (5, 0, 1), (6, 0, 1), (7, 0, 1), (0, 1, 2), (1, 1, 2), (2, 1, 2), (3, 1, 2), (4, 1, 2), (5, 1, 2), (6, 1, 2), (7, 1, 2)], nw := [], ck := [], ik := [], xk := [] }
def g_Total_holds : List D → RE ER := defD G_Total_holds 2 1 i_Total_holds
/-- Rising.holds(self, filling) : 0=self 1=filling 2=ahead 3=cell -/
def i_Rising_holds : Sms := (.cons (.for (.zp (.fld (.var 0) 0) (.slc (.fld (.var 0) 0) (.cons (.cint 1) .nil) .nil)) [2, 3] (.cons (.iff (.val (.cmp .ge (.idx (.var 1) (.var 2)) (.idx (.var 1) (.var 3)))) (.cons (.ret (.cbl false))
    .nil) .nil)
    .nil))
    (.cons (.ret (.cbl true))
    .nil))
def G_Rising_holds : Env := { fn := [], gc := [], mn := [], mt := lookM [], fs := [], fi := lookF [(0, 0, 1), (1, 0, 1), (2, 0, 1), (3, 0, 1), (4, 0, 1), (5, 0, 1), (6, 0, 1), (7, 0, 1)], nw := [], ck := [], ik := [], xk := [] }
def g_Rising_holds : List D → RE ER := defD G_Rising_holds 2 2 i_Rising_holds
/-- Seen.holds(self, filling) : 0=self 1=filling 2=many 3=highest 4=cell -/
def i_Seen_holds : Sms := (.cons (.asg 2 (.cint 0))
    (.cons (.asg 3 (.cint 0))
    (.cons (.for (.any (.fld (.var 0) 1)) [4] (.cons (.iff (.val (.cmp .gt (.idx (.var 1) (.var 4)) (.var 3))) (.cons (.asg 2 (.bin .add (.var 2) (.cint 1)))
    (.cons (.asg 3 (.idx (.var 1) (.var 4)))
    .nil)) .nil)
    .nil))
    (.cons (.ret (.cmp .eq (.var 2) (.fld (.var 0) 0)))
    .nil))))
def G_Seen_holds : Env := { fn := [], gc := [], mn := [], mt := lookM [], fs := [], fi := lookF [(0, 0, 2), (1, 0, 2), (2, 0, 2), (3, 0, 2), (4, 0, 2), (5, 0, 2), (6, 0, 2), (7, 0, 2), (0, 1, 1), (1, 1, 1), (2, 1, 1), (3, 1, 1), (4, 1, 1), (5, 1, 1), (6, 1, 1), (7, 1, 1)], nw := [], ck := [], ik := [], xk := [] }
def g_Seen_holds : List D → RE ER := defD G_Seen_holds 2 3 i_Seen_holds
/-- Counted.holds(self, filling) : 0=self 1=filling 2=cell -/
def i_Counted_holds : Sms := (.cons (.ret (.cmp .eq (.pri .len (.cons (.lc [2] (.any (.fld (.var 0) 0)) [2] (.cons (.val (.cmp .eq (.idx (.var 1) (.var 2)) (.fld (.var 0) 1))) .nil) (.var 2)) .nil)) (.fld (.var 0) 2)))
    .nil)
def G_Counted_holds : Env := { fn := [], gc := [], mn := [], mt := lookM [], fs := [], fi := lookF [(0, 0, 1), (1, 0, 1), (2, 0, 1), (3, 0, 1), (4, 0, 1), (5, 0, 1), (6, 0, 1), (7, 0, 1), (0, 1, 3), (1, 1, 3), (2, 1, 3), (3, 1, 3), (4, 1, 3), (5, 1, 3), (6, 1, 3), (7, 1, 3), (0, 2, 2), (1, 2, 2), (2, 2, 2), (3, 2, 2), (4, 2, 2), (5, 2, 2), (6, 2, 2), (7, 2, 2)], nw := [], ck := [], ik := [], xk := [] }
def g_Counted_holds : List D → RE ER := defD G_Counted_holds 2 1 i_Counted_holds
/-- spot_of(floor, cell) : 0=floor 1=cell -/
def i_spot_of : Sms := (.cons (.ret (.tup (.cons (.bin .fdv (.var 1) (.idx (.var 0) (.cint 1))) (.cons (.bin .mdl (.var 1) (.idx (.var 0) (.cint 1))) .nil))))
    .nil)
def G_spot_of : Env := { fn := [], gc := [], mn := [], mt := lookM [], fs := [], fi := lookF [], nw := [], ck := [], ik := [], xk := [] }
def g_spot_of : List D → RE ER := defD G_spot_of 2 0 i_spot_of
/-- beside(floor, cell) : 0=floor 1=cell 2=high 3=wide 4=signs 5=row 6=column 7=found -/
def i_beside : Sms := (.cons (.asgT [2, 3, 4] (.var 0))
    (.cons (.asgT [5, 6] (.call 0 (.cons (.var 0) (.cons (.var 1) .nil))))
    (.cons (.own 7 (.lst .nil))
    (.cons (.iff (.val (.cmp .gt (.var 5) (.cint 0))) (.cons (.app 7 (.bin .sub (.var 1) (.var 3)))
    .nil) .nil)
    (.cons (.iff (.val (.cmp .gt (.var 6) (.cint 0))) (.cons (.app 7 (.bin .sub (.var 1) (.cint 1)))
    .nil) .nil)
    (.cons (.iff (.val (.cmp .lt (.var 6) (.bin .sub (.var 3) (.cint 1)))) (.cons (.app 7 (.bin .add (.var 1) (.cint 1)))
    .nil) .nil)
    (.cons (.iff (.val (.cmp .lt (.var 5) (.bin .sub (.var 2) (.cint 1)))) (.cons (.app 7 (.bin .add (.var 1) (.var 3)))
    .nil) .nil)
    (.cons (.ret (.var 7))
    .nil))))))))
def G_beside : Env := { fn := [("spot_of", g_spot_of)], gc := [], mn := [], mt := lookM [], fs := [], fi := lookF [], nw := [], ck := [], ik := [], xk := [] }
def g_beside : List D → RE ER := defD G_beside 2 6 i_beside
/-- reached(floor, cells, start) : 0=floor 1=cells 2=start 3=found 4=at 5=cell -/
def i_reached : Sms := (.cons (.iff (.val (.cmp .nin (.var 2) (.var 1))) (.cons (.ret (.lst .nil))
    .nil) .nil)
    (.cons (.own 3 (.lst (.cons (.var 2) .nil)))
    (.cons (.asg 4 (.cint 0))
    (.cons (.whl (.val (.cmp .lt (.var 4) (.pri .len (.cons (.var 3) .nil)))) (.cons (.for (.any (.call 0 (.cons (.var 0) (.cons (.idx (.var 3) (.var 4)) .nil)))) [5] (.cons (.iff (.bop true (.cons (.val (.cmp .isin (.var 5) (.var 1))) (.cons (.val (.cmp .nin (.var 5) (.var 3))) .nil))) (.cons (.app 3 (.var 5))
    .nil) .nil)
    .nil))
    (.cons (.asg 4 (.bin .add (.var 4) (.cint 1)))
    .nil)))
    (.cons (.ret (.pri .sorted (.cons (.var 3) .nil)))
    .nil)))))
def G_reached : Env := { fn := [("beside", g_beside)], gc := [], mn := [], mt := lookM [], fs := [], fi := lookF [], nw := [], ck := [], ik := [], xk := [] }
def g_reached : List D → RE ER := defD G_reached 3 3 i_reached
/-- are_joined(floor, cells) : 0=floor 1=cells -/
def i_are_joined : Sms := (.cons (.ret (.bop false (.cons (.cmp .eq (.var 1) (.lst .nil)) (.cons (.cmp .eq (.pri .len (.cons (.call 0 (.cons (.var 0) (.cons (.var 1) (.cons (.idx (.var 1) (.cint 0)) .nil)))) .nil)) (.pri .len (.cons (.var 1) .nil))) .nil))))
    .nil)
def G_are_joined : Env := { fn := [("reached", g_reached)], gc := [], mn := [], mt := lookM [], fs := [], fi := lookF [], nw := [], ck := [], ik := [], xk := [] }
def g_are_joined : List D → RE ER := defD G_are_joined 2 0 i_are_joined
/-- Rule.spots(self) : 0=self -/
def i_Rule_spots : Sms := (.cons (.ret (.pri .list (.cons (.fld (.var 0) 0) .nil)))
    .nil)
def G_Rule_spots : Env := { fn := [], gc := [], mn := [], mt := lookM [], fs := [], fi := lookF [(0, 0, 1), (1, 0, 1), (2, 0, 1), (3, 0, 1), (4, 0, 1), (5, 0, 1), (6, 0, 1), (7, 0, 1)], nw := [], ck := [], ik := [], xk := [] }
def g_Rule_spots : List D → RE ER := defD G_Rule_spots 1 0 i_Rule_spots
/-- Rule.sign(self) : 0=self -/
def i_Rule_sign : Sms := (.cons (.ret (.fld (.var 0) 0))
    .nil)
def G_Rule_sign : Env := { fn := [], gc := [], mn := [], mt := lookM [], fs := [], fi := lookF [(0, 0, 3), (1, 0, 3), (2, 0, 3), (3, 0, 3), (4, 0, 3), (5, 0, 3), (6, 0, 3), (7, 0, 3)], nw := [], ck := [], ik := [], xk := [] }
def g_Rule_sign : List D → RE ER := defD G_Rule_sign 1 0 i_Rule_sign
/-- cells_with(rule, filling) : 0=rule 1=filling 2=cell -/
def i_cells_with : Sms := (.cons (.ret (.lc [2] (.any (.mth 0 (.var 0) .nil)) [2] (.cons (.val (.cmp .eq (.idx (.var 1) (.var 2)) (.mth 1 (.var 0) .nil))) .nil) (.var 2)))
    .nil)
def G_cells_with : Env := { fn := [], gc := [], mn := [], mt := lookM [(0, 0, g_Rule_spots), (1, 0, g_Rule_spots), (2, 0, g_Rule_spots), (3, 0, g_Rule_spots), (4, 0, g_Rule_spots), (5, 0, g_Rule_spots), (6, 0, g_Rule_spots), (7, 0, g_Rule_spots), (0, 1, g_Rule_sign), (1, 1, g_Rule_sign), (2, 1, g_Rule_sign), (3, 1, g_Rule_sign), (4, 1, g_Rule_sign), (5, 1, g_Rule_sign), (6, 1, g_Rule_sign), (7, 1, g_Rule_sign)], fs := [], fi := lookF [], nw := [], ck := [], ik := [], xk := [] }
def g_cells_with : List D → RE ER := defD G_cells_with 2 1 i_cells_with
/-- Joined.holds(self, filling) : 0=self 1=filling -/
def i_Joined_holds : Sms := (.cons (.ret (.call 0 (.cons (.fld (.var 0) 0) (.cons (.call 1 (.cons (.var 0) (.cons (.var 1) .nil))) .nil))))
    .nil)
def G_Joined_holds : Env := { fn := [("are_joined", g_are_joined), ("cells_with", g_cells_with)], gc := [], mn := [], mt := lookM [], fs := [], fi := lookF [(0, 0, 0), (1, 0, 0), (2, 0, 0), (3, 0, 0), (4, 0, 0), (5, 0, 0), (6, 0, 0), (7, 0, 0)], nw := [], ck := [], ik := [], xk := [] }
def g_Joined_holds : List D → RE ER := defD G_Joined_holds 2 0 i_Joined_holds
/-- many_cells(floor) : 0=floor -/
def i_many_cells : Sms := (.cons (.ret (.bin .mul (.idx (.var 0) (.cint 0)) (.idx (.var 0) (.cint 1))))
    .nil)
def G_many_cells : Env := { fn := [], gc := [], mn := [], mt := lookM [], fs := [], fi := lookF [], nw := [], ck := [], ik := [], xk := [] }
def g_many_cells : List D → RE ER := defD G_many_cells 1 0 i_many_cells
/-- squares(floor) : 0=floor 1=high 2=wide 3=signs 4=found 5=cell 6=row 7=column -/
def i_squares : Sms := (.cons (.asgT [1, 2, 3] (.var 0))
    (.cons (.own 4 (.lst .nil))
    (.cons (.for (.rng (.cons (.call 0 (.cons (.var 0) .nil)) .nil)) [5] (.cons (.asgT [6, 7] (.call 1 (.cons (.var 0) (.cons (.var 5) .nil))))
    (.cons (.iff (.bop true (.cons (.val (.cmp .lt (.var 6) (.bin .sub (.var 1) (.cint 1)))) (.cons (.val (.cmp .lt (.var 7) (.bin .sub (.var 2) (.cint 1)))) .nil))) (.cons (.app 4 (.lst (.cons (.var 5) (.cons (.bin .add (.var 5) (.cint 1)) (.cons (.bin .add (.var 5) (.var 2)) (.cons (.bin .add (.bin .add (.var 5) (.var 2)) (.cint 1)) .nil))))))
    .nil) .nil)
    .nil)))
    (.cons (.ret (.var 4))
    .nil))))
def G_squares : Env := { fn := [("many_cells", g_many_cells), ("spot_of", g_spot_of)], gc := [], mn := [], mt := lookM [], fs := [], fi := lookF [], nw := [], ck := [], ik := [], xk := [] }
def g_squares : List D → RE ER := defD G_squares 1 7 i_squares
/-- NoSquare.holds(self, filling) : 0=self 1=filling 2=square 3=cell -/
def i_NoSquare_holds : Sms := (.cons (.for (.any (.call 0 (.cons (.fld (.var 0) 0) .nil))) [2] (.cons (.iff (.val (.cmp .eq (.pri .len (.cons (.lc [3] (.any (.var 2)) [3] (.cons (.val (.cmp .eq (.idx (.var 1) (.var 3)) (.fld (.var 0) 1))) .nil) (.var 3)) .nil)) (.cint 4))) (.cons (.ret (.cbl false))
    .nil) .nil)
    .nil))
    (.cons (.ret (.cbl true))
    .nil))
def G_NoSquare_holds : Env := { fn := [("squares", g_squares)], gc := [], mn := [], mt := lookM [], fs := [], fi := lookF [(0, 0, 0), (1, 0, 0), (2, 0, 0), (3, 0, 0), (4, 0, 0), (5, 0, 0), (6, 0, 0), (7, 0, 0), (0, 1, 3), (1, 1, 3), (2, 1, 3), (3, 1, 3), (4, 1, 3), (5, 1, 3), (6, 1, 3), (7, 1, 3)], nw := [], ck := [], ik := [], xk := [] }
def g_NoSquare_holds : List D → RE ER := defD G_NoSquare_holds 2 2 i_NoSquare_holds
/-- Ring.holds(self, filling) : 0=self 1=filling 2=found 3=cell 4=other -/
def i_Ring_holds : Sms := (.cons (.asg 2 (.call 2 (.cons (.var 0) (.cons (.var 1) .nil))))
    (.cons (.for (.any (.var 2)) [3] (.cons (.iff (.val (.cmp .ne (.pri .len (.cons (.lc [4] (.any (.call 1 (.cons (.fld (.var 0) 0) (.cons (.var 3) .nil)))) [4] (.cons (.val (.cmp .isin (.var 4) (.var 2))) .nil) (.var 4)) .nil)) (.cint 2))) (.cons (.ret (.cbl false))
    .nil) .nil)
    .nil))
    (.cons (.ret (.call 0 (.cons (.fld (.var 0) 0) (.cons (.var 2) .nil))))
    .nil)))
def G_Ring_holds : Env := { fn := [("are_joined", g_are_joined), ("beside", g_beside), ("cells_with", g_cells_with)], gc := [], mn := [], mt := lookM [], fs := [], fi := lookF [(0, 0, 0), (1, 0, 0), (2, 0, 0), (3, 0, 0), (4, 0, 0), (5, 0, 0), (6, 0, 0), (7, 0, 0)], nw := [], ck := [], ik := [], xk := [] }
def g_Ring_holds : List D → RE ER := defD G_Ring_holds 2 3 i_Ring_holds
/-- _law_asked(_law_rule, _law_fillings, _law_dues) : 0=_law_rule 1=_law_fillings 2=_law_dues 3=_law_k 4=_law_handed 5=_law_found -/
def i__law_asked : Sms := (.cons (.for (.rng (.cons (.pri .len (.cons (.var 1) .nil)) .nil)) [3] (.cons (.asg 4 (.pri .list (.cons (.idx (.var 1) (.var 3)) .nil)))
    (.cons (.asg 5 (.mth 0 (.var 0) (.cons (.var 4) .nil)))
    (.cons (.iff (.bop false (.cons (.not (.val (.isi (.var 5) .bool))) (.cons (.val (.cmp .ne (.var 5) (.idx (.var 2) (.var 3)))) (.cons (.val (.cmp .ne (.var 4) (.idx (.var 1) (.var 3)))) .nil)))) (.cons (.ret (.cbl false))
    .nil) .nil)
    .nil))))
    (.cons (.ret (.cbl true))
    .nil))
def G__law_asked : Env := { fn := [], gc := [], mn := [], mt := lookM [(0, 0, g_Unlike_holds), (1, 0, g_Total_holds), (2, 0, g_Rising_holds), (3, 0, g_Seen_holds), (4, 0, g_Counted_holds), (5, 0, g_Joined_holds), (6, 0, g_NoSquare_holds), (7, 0, g_Ring_holds)], fs := [], fi := lookF [], nw := [], ck := [], ik := [], xk := [] }
def g__law_asked : List D → RE ER := defD G__law_asked 3 3 i__law_asked
/-- _law_due(_law_floor_here, _law_sign, _law_filling_here) : 0=_law_floor_here 1=_law_sign 2=_law_filling_here 3=_law_row 4=_law_column 5=_law_at 6=_law_some -/
def i__law_due : Sms := (.cons (.for (.rng (.cons (.cint 1) (.cons (.idx (.var 0) (.cint 0)) .nil))) [3] (.cons (.for (.rng (.cons (.cint 1) (.cons (.idx (.var 0) (.cint 1)) .nil))) [4] (.cons (.asg 5 (.bin .add (.bin .mul (.var 3) (.idx (.var 0) (.cint 1))) (.var 4)))
    (.cons (.asg 6 (.lst (.cons (.idx (.var 2) (.var 5)) (.cons (.idx (.var 2) (.bin .sub (.var 5) (.cint 1))) (.cons (.idx (.var 2) (.bin .sub (.var 5) (.idx (.var 0) (.cint 1)))) (.cons (.idx (.var 2) (.bin .sub (.bin .sub (.var 5) (.idx (.var 0) (.cint 1))) (.cint 1))) .nil))))))
    (.cons (.iff (.val (.cmp .eq (.cntL (.var 6) (.var 1)) (.cint 4))) (.cons (.ret (.cbl false))
    .nil) .nil)
    .nil))))
    .nil))
    (.cons (.ret (.cbl true))
    .nil))
def G__law_due : Env := { fn := [], gc := [], mn := [], mt := lookM [], fs := [], fi := lookF [], nw := [], ck := [], ik := [], xk := [] }
def g__law_due : List D → RE ER := defD G__law_due 3 4 i__law_due
/-- _law_mixed(_law_script, _law_k) : 0=_law_script 1=_law_k 2=_law_number 3=_law_cell -/
def i__law_mixed : Sms := (.cons (.asg 2 (.bin .add (.bin .add (.bin .mul (.bin .mul (.var 1) (.var 1)) (.cint 7919)) (.bin .mul (.cint 104729) (.var 1))) (.cint 11)))
    (.cons (.iff (.val (.cmp .gt (.pri .len (.cons (.var 0) .nil)) (.cint 0))) (.cons (.asg 3 (.bin .mdl (.idx (.var 0) (.bin .mdl (.var 1) (.pri .len (.cons (.var 0) .nil)))) (.bin .pow (.cint 10) (.cint 30))))
    (.cons (.asg 2 (.bin .add (.var 2) (.bin .mul (.var 3) (.bin .add (.cint 48271) (.bin .fdv (.var 1) (.pri .len (.cons (.var 0) .nil)))))))
    .nil)) .nil)
    (.cons (.ret (.bin .mdl (.var 2) (.cint 2147483629)))
    .nil)))
def G__law_mixed : Env := { fn := [], gc := [], mn := [], mt := lookM [], fs := [], fi := lookF [], nw := [], ck := [], ik := [], xk := [] }
def g__law_mixed : List D → RE ER := defD G__law_mixed 2 2 i__law_mixed
/-- _law_other(_law_script, _law_at, _law_k, _law_sign, _law_signs) : 0=_law_script 1=_law_at 2=_law_k 3=_law_sign 4=_law_signs -/
def i__law_other : Sms := (.cons (.ret (.bin .add (.cint 1) (.bin .mdl (.bin .add (.var 3) (.bin .mdl (.bin .fdv (.call 0 (.cons (.var 0) (.cons (.bin .add (.var 1) (.var 2)) .nil))) (.cint 7)) (.pri .max2 (.cons (.cint 1) (.cons (.bin .sub (.var 4) (.cint 1)) .nil))))) (.var 4))))
    .nil)
def G__law_other : Env := { fn := [("_law_mixed", g__law_mixed)], gc := [], mn := [], mt := lookM [], fs := [], fi := lookF [], nw := [], ck := [], ik := [], xk := [] }
def g__law_other : List D → RE ER := defD G__law_other 5 0 i__law_other
/-- _law_filling(_law_script, _law_at, _law_floor_here, _law_sign) : 0=_law_script 1=_law_at 2=_law_floor_here 3=_law_sign 4=_law_number 5=_law_high 6=_law_wide 7=_law_signs 8=_law_filling_here 9=_law_others 10=_law_k 11=_law_drawn 12=_law_row 13=_law_column 14=_law_spots 15=_law_spot -/
def i__law_filling : Sms := (.cons (.asg 4 (.call 0 (.cons (.var 0) (.cons (.var 1) .nil))))
    (.cons (.asgT [5, 6, 7] (.var 2))
    (.cons (.own 8 (.lst .nil))
    (.cons (.asg 9 (.lc [10] (.rng (.cons (.bin .mul (.var 5) (.var 6)) .nil)) [10] .nil (.call 1 (.cons (.var 0) (.cons (.bin .add (.var 1) (.cint 1)) (.cons (.var 10) (.cons (.var 3) (.cons (.var 7) .nil))))))))
    (.cons (.for (.rng (.cons (.bin .mul (.var 5) (.var 6)) .nil)) [10] (.cons (.asg 11 (.bin .mdl (.call 0 (.cons (.var 0) (.cons (.bin .add (.bin .add (.var 1) (.cint 1)) (.var 10)) .nil))) (.cint 8)))
    (.cons (.app 8 (.idx (.lst (.cons (.idx (.var 9) (.var 10)) (.cons (.var 3) .nil))) (.pri .int (.cons (.cmp .lt (.var 11) (.idx (.lst (.cons (.cint 4) (.cons (.cint 4) (.cons (.cint 3) (.cons (.cint 7) .nil))))) (.bin .mdl (.var 4) (.cint 4)))) .nil))))
    .nil)))
    (.cons (.iff (.val (.cmp .eq (.bin .mdl (.bin .fdv (.var 4) (.cint 4)) (.cint 2)) (.cint 1))) (.cons (.own 8 (.pri .list (.cons (.var 9) .nil)))
    (.cons (.asg 12 (.bin .mdl (.bin .fdv (.var 4) (.cint 100)) (.var 5)))
    (.cons (.asg 13 (.bin .mdl (.bin .fdv (.var 4) (.cint 1000)) (.var 6)))
    (.cons (.asg 14 (.lst (.cons (.bin .add (.bin .mul (.var 12) (.var 6)) (.var 13)) (.cons (.bin .add (.bin .mul (.var 12) (.var 6)) (.bin .mdl (.bin .add (.var 13) (.cint 1)) (.var 6))) .nil))))
    (.cons (.asg 14 (.bin .add (.var 14) (.lc [15] (.any (.var 14)) [15] .nil (.bin .mdl (.bin .add (.var 15) (.var 6)) (.bin .mul (.var 5) (.var 6))))))
    (.cons (.for (.rng (.cons (.cint 4) .nil)) [10] (.cons (.iff (.val (.cmp .ne (.bin .mdl (.bin .fdv (.var 4) (.cint 8)) (.cint 5)) (.var 10))) (.cons (.put 8 (.idx (.var 14) (.var 10)) (.var 3))
    .nil) .nil)
    .nil))
    .nil)))))) .nil)
    (.cons (.ret (.var 8))
    .nil)))))))
def G__law_filling : Env := { fn := [("_law_mixed", g__law_mixed), ("_law_other", g__law_other)], gc := [], mn := [], mt := lookM [], fs := [], fi := lookF [], nw := [], ck := [], ik := [], xk := [] }
def g__law_filling : List D → RE ER := defD G__law_filling 4 12 i__law_filling
/-- _law_whole(_law_found) : 0=_law_found -/
def i__law_whole : Sms := (.cons (.ret (.bop true (.cons (.isi (.var 0) .int) (.cons (.bnot (.isi (.var 0) .bool)) .nil))))
    .nil)
def G__law_whole : Env := { fn := [], gc := [], mn := [], mt := lookM [], fs := [], fi := lookF [], nw := [], ck := [], ik := [], xk := [] }
def g__law_whole : List D → RE ER := defD G__law_whole 1 0 i__law_whole
/-- Unlike.name(self) : 0=self -/
def i_Unlike_name : Sms := (.cons (.ret (.cstr [117, 110, 108, 105, 107, 101]))
    .nil)
def G_Unlike_name : Env := { fn := [], gc := [], mn := [], mt := lookM [], fs := [], fi := lookF [], nw := [], ck := [], ik := [], xk := [] }
def g_Unlike_name : List D → RE ER := defD G_Unlike_name 1 0 i_Unlike_name
/-- Total.name(self) : 0=self -/
def i_Total_name : Sms := (.cons (.ret (.cstr [115, 117, 109]))
    .nil)
def G_Total_name : Env := { fn := [], gc := [], mn := [], mt := lookM [], fs := [], fi := lookF [], nw := [], ck := [], ik := [], xk := [] }
def g_Total_name : List D → RE ER := defD G_Total_name 1 0 i_Total_name
/-- Rising.name(self) : 0=self -/
def i_Rising_name : Sms := (.cons (.ret (.cstr [114, 105, 115, 105, 110, 103]))
    .nil)
def G_Rising_name : Env := { fn := [], gc := [], mn := [], mt := lookM [], fs := [], fi := lookF [], nw := [], ck := [], ik := [], xk := [] }
def g_Rising_name : List D → RE ER := defD G_Rising_name 1 0 i_Rising_name
/-- Seen.name(self) : 0=self -/
def i_Seen_name : Sms := (.cons (.ret (.cstr [115, 101, 101, 110]))
    .nil)
def G_Seen_name : Env := { fn := [], gc := [], mn := [], mt := lookM [], fs := [], fi := lookF [], nw := [], ck := [], ik := [], xk := [] }
def g_Seen_name : List D → RE ER := defD G_Seen_name 1 0 i_Seen_name
/-- Counted.name(self) : 0=self -/
def i_Counted_name : Sms := (.cons (.ret (.cstr [99, 111, 117, 110, 116]))
    .nil)
def G_Counted_name : Env := { fn := [], gc := [], mn := [], mt := lookM [], fs := [], fi := lookF [], nw := [], ck := [], ik := [], xk := [] }
def g_Counted_name : List D → RE ER := defD G_Counted_name 1 0 i_Counted_name
/-- Joined.name(self) : 0=self -/
def i_Joined_name : Sms := (.cons (.ret (.cstr [106, 111, 105, 110, 101, 100]))
    .nil)
def G_Joined_name : Env := { fn := [], gc := [], mn := [], mt := lookM [], fs := [], fi := lookF [], nw := [], ck := [], ik := [], xk := [] }
def g_Joined_name : List D → RE ER := defD G_Joined_name 1 0 i_Joined_name
/-- NoSquare.name(self) : 0=self -/
def i_NoSquare_name : Sms := (.cons (.ret (.cstr [110, 111, 115, 113, 117, 97, 114, 101]))
    .nil)
def G_NoSquare_name : Env := { fn := [], gc := [], mn := [], mt := lookM [], fs := [], fi := lookF [], nw := [], ck := [], ik := [], xk := [] }
def g_NoSquare_name : List D → RE ER := defD G_NoSquare_name 1 0 i_NoSquare_name
/-- Ring.name(self) : 0=self -/
def i_Ring_name : Sms := (.cons (.ret (.cstr [114, 105, 110, 103]))
    .nil)
def G_Ring_name : Env := { fn := [], gc := [], mn := [], mt := lookM [], fs := [], fi := lookF [], nw := [], ck := [], ik := [], xk := [] }
def g_Ring_name : List D → RE ER := defD G_Ring_name 1 0 i_Ring_name
/-- Rule.told_numbers(self) : 0=self -/
def i_Rule_told_numbers : Sms := (.cons (.ret (.pri .list (.cons (.fld (.var 0) 0) .nil)))
    .nil)
def G_Rule_told_numbers : Env := { fn := [], gc := [], mn := [], mt := lookM [], fs := [], fi := lookF [(0, 0, 1), (1, 0, 1), (2, 0, 1), (3, 0, 1), (4, 0, 1), (5, 0, 1), (6, 0, 1), (7, 0, 1)], nw := [], ck := [], ik := [], xk := [] }
def g_Rule_told_numbers : List D → RE ER := defD G_Rule_told_numbers 1 0 i_Rule_told_numbers
/-- Total.told_numbers(self) : 0=self -/
def i_Total_told_numbers : Sms := (.cons (.ret (.bin .add (.lst (.cons (.fld (.var 0) 0) .nil)) (.fld (.var 0) 1)))
    .nil)
def G_Total_told_numbers : Env := { fn := [], gc := [], mn := [], mt := lookM [], fs := [], fi := lookF [(0, 0, 2), (1, 0, 2), (2, 0, 2), (3, 0, 2), (4, 0, 2), (5, 0, 2), (6, 0, 2), (7, 0, 2), (0, 1, 1), (1, 1, 1), (2, 1, 1), (3, 1, 1), (4, 1, 1), (5, 1, 1), (6, 1, 1), (7, 1, 1)], nw := [], ck := [], ik := [], xk := [] }
def g_Total_told_numbers : List D → RE ER := defD G_Total_told_numbers 1 0 i_Total_told_numbers
/-- Seen.told_numbers(self) : 0=self -/
def i_Seen_told_numbers : Sms := (.cons (.ret (.bin .add (.lst (.cons (.fld (.var 0) 0) .nil)) (.fld (.var 0) 1)))
    .nil)
def G_Seen_told_numbers : Env := { fn := [], gc := [], mn := [], mt := lookM [], fs := [], fi := lookF [(0, 0, 2), (1, 0, 2), (2, 0, 2), (3, 0, 2), (4, 0, 2), (5, 0, 2), (6, 0, 2), (7, 0, 2), (0, 1, 1), (1, 1, 1), (2, 1, 1), (3, 1, 1), (4, 1, 1), (5, 1, 1), (6, 1, 1), (7, 1, 1)], nw := [], ck := [], ik := [], xk := [] }
def g_Seen_told_numbers : List D → RE ER := defD G_Seen_told_numbers 1 0 i_Seen_told_numbers
/-- Counted.told_numbers(self) : 0=self -/
def i_Counted_told_numbers : Sms := (.cons (.ret (.bin .add (.lst (.cons (.fld (.var 0) 0) (.cons (.fld (.var 0) 1) .nil))) (.fld (.var 0) 2)))
    .nil)
def G_Counted_told_numbers : Env := { fn := [], gc := [], mn := [], mt := lookM [], fs := [], fi := lookF [(0, 0, 2), (1, 0, 2), (2, 0, 2), (3, 0, 2), (4, 0, 2), (5, 0, 2), (6, 0, 2), (7, 0, 2), (0, 1, 3), (1, 1, 3), (2, 1, 3), (3, 1, 3), (4, 1, 3), (5, 1, 3), (6, 1, 3), (7, 1, 3), (0, 2, 1), (1, 2, 1), (2, 2, 1), (3, 2, 1), (4, 2, 1), (5, 2, 1), (6, 2, 1), (7, 2, 1)], nw := [], ck := [], ik := [], xk := [] }
def g_Counted_told_numbers : List D → RE ER := defD G_Counted_told_numbers 1 0 i_Counted_told_numbers
/-- Joined.told_numbers(self) : 0=self -/
def i_Joined_told_numbers : Sms := (.cons (.ret (.lst (.cons (.fld (.var 0) 0) .nil)))
    .nil)
def G_Joined_told_numbers : Env := { fn := [], gc := [], mn := [], mt := lookM [], fs := [], fi := lookF [(0, 0, 3), (1, 0, 3), (2, 0, 3), (3, 0, 3), (4, 0, 3), (5, 0, 3), (6, 0, 3), (7, 0, 3)], nw := [], ck := [], ik := [], xk := [] }
def g_Joined_told_numbers : List D → RE ER := defD G_Joined_told_numbers 1 0 i_Joined_told_numbers
/-- NoSquare.told_numbers(self) : 0=self -/
def i_NoSquare_told_numbers : Sms := (.cons (.ret (.lst (.cons (.fld (.var 0) 0) .nil)))
    .nil)
def G_NoSquare_told_numbers : Env := { fn := [], gc := [], mn := [], mt := lookM [], fs := [], fi := lookF [(0, 0, 3), (1, 0, 3), (2, 0, 3), (3, 0, 3), (4, 0, 3), (5, 0, 3), (6, 0, 3), (7, 0, 3)], nw := [], ck := [], ik := [], xk := [] }
def g_NoSquare_told_numbers : List D → RE ER := defD G_NoSquare_told_numbers 1 0 i_NoSquare_told_numbers
/-- Ring.told_numbers(self) : 0=self -/
def i_Ring_told_numbers : Sms := (.cons (.ret (.lst (.cons (.fld (.var 0) 0) .nil)))
    .nil)
def G_Ring_told_numbers : Env := { fn := [], gc := [], mn := [], mt := lookM [], fs := [], fi := lookF [(0, 0, 3), (1, 0, 3), (2, 0, 3), (3, 0, 3), (4, 0, 3), (5, 0, 3), (6, 0, 3), (7, 0, 3)], nw := [], ck := [], ik := [], xk := [] }
def g_Ring_told_numbers : List D → RE ER := defD G_Ring_told_numbers 1 0 i_Ring_told_numbers
/-- Rule.line(self) : 0=self 1=number -/
def i_Rule_line : Sms := (.cons (.ret (.bm1 .join (.cstr [32]) (.bin .add (.lst (.cons (.mth 0 (.var 0) .nil) .nil)) (.lc [1] (.any (.mth 1 (.var 0) .nil)) [1] .nil (.pri .str (.cons (.var 1) .nil))))))
    .nil)
def G_Rule_line : Env := { fn := [], gc := [], mn := [], mt := lookM [(0, 0, g_Unlike_name), (1, 0, g_Total_name), (2, 0, g_Rising_name), (3, 0, g_Seen_name), (4, 0, g_Counted_name), (5, 0, g_Joined_name), (6, 0, g_NoSquare_name), (7, 0, g_Ring_name), (0, 1, g_Rule_told_numbers), (1, 1, g_Total_told_numbers), (2, 1, g_Rule_told_numbers), (3, 1, g_Seen_told_numbers), (4, 1, g_Counted_told_numbers), (5, 1, g_Joined_told_numbers), (6, 1, g_NoSquare_told_numbers), (7, 1, g_Ring_told_numbers)], fs := [], fi := lookF [], nw := [], ck := [], ik := [], xk := [] }
def g_Rule_line : List D → RE ER := defD G_Rule_line 1 1 i_Rule_line
/-- Rule.reckons(self) : 0=self -/
def i_Rule_reckons : Sms := (.cons (.ret (.cbl false))
    .nil)
def G_Rule_reckons : Env := { fn := [], gc := [], mn := [], mt := lookM [], fs := [], fi := lookF [], nw := [], ck := [], ik := [], xk := [] }
def g_Rule_reckons : List D → RE ER := defD G_Rule_reckons 1 0 i_Rule_reckons
/-- Total.reckons(self) : 0=self -/
def i_Total_reckons : Sms := (.cons (.ret (.cbl true))
    .nil)
def G_Total_reckons : Env := { fn := [], gc := [], mn := [], mt := lookM [], fs := [], fi := lookF [], nw := [], ck := [], ik := [], xk := [] }
def g_Total_reckons : List D → RE ER := defD G_Total_reckons 1 0 i_Total_reckons
/-- Rising.reckons(self) : 0=self -/
def i_Rising_reckons : Sms := (.cons (.ret (.cbl true))
    .nil)
def G_Rising_reckons : Env := { fn := [], gc := [], mn := [], mt := lookM [], fs := [], fi := lookF [], nw := [], ck := [], ik := [], xk := [] }
def g_Rising_reckons : List D → RE ER := defD G_Rising_reckons 1 0 i_Rising_reckons
/-- Seen.reckons(self) : 0=self -/
def i_Seen_reckons : Sms := (.cons (.ret (.cbl true))
    .nil)
def G_Seen_reckons : Env := { fn := [], gc := [], mn := [], mt := lookM [], fs := [], fi := lookF [], nw := [], ck := [], ik := [], xk := [] }
def g_Seen_reckons : List D → RE ER := defD G_Seen_reckons 1 0 i_Seen_reckons
/-- Rule.number(self) : 0=self -/
def i_Rule_number : Sms := (.cons (.ret (.fld (.var 0) 0))
    .nil)
def G_Rule_number : Env := { fn := [], gc := [], mn := [], mt := lookM [], fs := [], fi := lookF [(0, 0, 2), (1, 0, 2), (2, 0, 2), (3, 0, 2), (4, 0, 2), (5, 0, 2), (6, 0, 2), (7, 0, 2)], nw := [], ck := [], ik := [], xk := [] }
def g_Rule_number : List D → RE ER := defD G_Rule_number 1 0 i_Rule_number
/-- _law_told(_law_rule, _law_name, _law_cells, _law_number, _law_sign, _law_by_size, _law_line) : 0=_law_rule 1=_law_name 2=_law_cells 3=_law_number 4=_law_sign 5=_law_by_size 6=_law_line 7=_law_found -/
def i__law_told : Sms := (.cons (.own 7 (.mth 0 (.var 0) .nil))
    (.cons (.iff (.bop false (.cons (.not (.val (.isi (.var 7) .list))) (.cons (.val (.cmp .ne (.var 7) (.var 2))) (.cons (.not (.val (.isi (.mth 5 (.var 0) .nil) .str))) (.cons (.val (.cmp .ne (.mth 5 (.var 0) .nil) (.var 1))) .nil))))) (.cons (.ret (.cbl false))
    .nil) .nil)
    (.cons (.iff (.bop false (.cons (.not (.val (.call 0 (.cons (.mth 4 (.var 0) .nil) .nil)))) (.cons (.val (.cmp .ne (.mth 4 (.var 0) .nil) (.var 3))) .nil))) (.cons (.ret (.cbl false))
    .nil) .nil)
    (.cons (.iff (.bop false (.cons (.not (.val (.call 0 (.cons (.mth 3 (.var 0) .nil) .nil)))) (.cons (.val (.cmp .ne (.mth 3 (.var 0) .nil) (.var 4))) .nil))) (.cons (.ret (.cbl false))
    .nil) .nil)
    (.cons (.iff (.bop false (.cons (.not (.val (.isi (.mth 2 (.var 0) .nil) .bool))) (.cons (.val (.cmp .ne (.mth 2 (.var 0) .nil) (.var 5))) .nil))) (.cons (.ret (.cbl false))
    .nil) .nil)
    (.cons (.app 7 (.cint 0))
    (.cons (.ret (.bop true (.cons (.cmp .eq (.mth 0 (.var 0) .nil) (.var 2)) (.cons (.isi (.mth 1 (.var 0) .nil) .str) (.cons (.cmp .eq (.mth 1 (.var 0) .nil) (.var 6)) .nil)))))
    .nil)))))))
def G__law_told : Env := { fn := [("_law_whole", g__law_whole)], gc := [], mn := [], mt := lookM [(0, 0, g_Rule_spots), (1, 0, g_Rule_spots), (2, 0, g_Rule_spots), (3, 0, g_Rule_spots), (4, 0, g_Rule_spots), (5, 0, g_Rule_spots), (6, 0, g_Rule_spots), (7, 0, g_Rule_spots), (0, 1, g_Rule_line), (1, 1, g_Rule_line), (2, 1, g_Rule_line), (3, 1, g_Rule_line), (4, 1, g_Rule_line), (5, 1, g_Rule_line), (6, 1, g_Rule_line), (7, 1, g_Rule_line), (0, 2, g_Rule_reckons), (1, 2, g_Total_reckons), (2, 2, g_Rising_reckons), (3, 2, g_Seen_reckons), (4, 2, g_Rule_reckons), (5, 2, g_Rule_reckons), (6, 2, g_Rule_reckons), (7, 2, g_Rule_reckons), (0, 3, g_Rule_sign), (1, 3, g_Rule_sign), (2, 3, g_Rule_sign), (3, 3, g_Rule_sign), (4, 3, g_Rule_sign), (5, 3, g_Rule_sign), (6, 3, g_Rule_sign), (7, 3, g_Rule_sign), (0, 4, g_Rule_number), (1, 4, g_Rule_number), (2, 4, g_Rule_number), (3, 4, g_Rule_number), (4, 4, g_Rule_number), (5, 4, g_Rule_number), (6, 4, g_Rule_number), (7, 4, g_Rule_number), (0, 5, g_Unlike_name), (1, 5, g_Total_name), (2, 5, g_Rising_name), (3, 5, g_Seen_name), (4, 5, g_Counted_name), (5, 5, g_Joined_name), (6, 5, g_NoSquare_name), (7, 5, g_Ring_name)], fs := [], fi := lookF [], nw := [], ck := [], ik := [], xk := [] }
def g__law_told : List D → RE ER := defD G__law_told 7 1 i__law_told
/-- cells_told(floor, numbers) : 0=floor 1=numbers -/
def i_cells_told : Sms := (.cons (.iff (.bop false (.cons (.val (.cmp .eq (.var 1) (.lst .nil))) (.cons (.val (.cmp .ne (.lset (.var 1)) (.pri .len (.cons (.var 1) .nil)))) (.cons (.val (.cmp .ge (.pri .max1 (.cons (.var 1) .nil)) (.call 0 (.cons (.var 0) .nil)))) .nil)))) (.cons (.rse 0)
    .nil) .nil)
    (.cons (.ret (.var 1))
    .nil))
def G_cells_told : Env := { fn := [("many_cells", g_many_cells)], gc := [], mn := [], mt := lookM [], fs := [], fi := lookF [], nw := [], ck := [], ik := [], xk := [8] }
def g_cells_told : List D → RE ER := defD G_cells_told 2 0 i_cells_told
/-- sign_told(floor, numbers, at) : 0=floor 1=numbers 2=at -/
def i_sign_told : Sms := (.cons (.iff (.bop false (.cons (.val (.cmp .ge (.var 2) (.pri .len (.cons (.var 1) .nil)))) (.cons (.not (.val (.chn .le .le (.cint 1) (.idx (.var 1) (.var 2)) (.idx (.var 0) (.cint 2))))) .nil))) (.cons (.rse 0)
    .nil) .nil)
    (.cons (.ret (.idx (.var 1) (.var 2)))
    .nil))
def G_sign_told : Env := { fn := [], gc := [], mn := [], mt := lookM [], fs := [], fi := lookF [], nw := [], ck := [], ik := [], xk := [8] }
def g_sign_told : List D → RE ER := defD G_sign_told 3 0 i_sign_told
/-- Rule.__init__(self, ground, cells, wanted, of_sign) : 0=self 1=ground 2=cells 3=wanted 4=of_sign -/
def i_Rule___init__ : Sms := (.cons (.fset 3 (.var 1))
    (.cons (.fset 2 (.pri .list (.cons (.var 2) .nil)))
    (.cons (.fset 1 (.var 3))
    (.cons (.fset 0 (.var 4))
    .nil))))
def G_Rule___init__ : Env := { fn := [], gc := [], mn := [], mt := lookM [], fs := [], fi := lookF [(0, 0, 3), (1, 0, 3), (2, 0, 3), (3, 0, 3), (4, 0, 3), (5, 0, 3), (6, 0, 3), (7, 0, 3), (0, 1, 2), (1, 1, 2), (2, 1, 2), (3, 1, 2), (4, 1, 2), (5, 1, 2), (6, 1, 2), (7, 1, 2), (0, 2, 1), (1, 2, 1), (2, 2, 1), (3, 2, 1), (4, 2, 1), (5, 2, 1), (6, 2, 1), (7, 2, 1), (0, 3, 0), (1, 3, 0), (2, 3, 0), (3, 3, 0), (4, 3, 0), (5, 3, 0), (6, 3, 0), (7, 3, 0)], nw := [], ck := [], ik := [], xk := [] }
def ini_Unlike : List D → RE (List D) := iniD G_Rule___init__ 0 4 4 0 i_Rule___init__
def ini_Total : List D → RE (List D) := iniD G_Rule___init__ 1 4 4 0 i_Rule___init__
def ini_Rising : List D → RE (List D) := iniD G_Rule___init__ 2 4 4 0 i_Rule___init__
def ini_Seen : List D → RE (List D) := iniD G_Rule___init__ 3 4 4 0 i_Rule___init__
def ini_Counted : List D → RE (List D) := iniD G_Rule___init__ 4 4 4 0 i_Rule___init__
def ini_Joined : List D → RE (List D) := iniD G_Rule___init__ 5 4 4 0 i_Rule___init__
def ini_NoSquare : List D → RE (List D) := iniD G_Rule___init__ 6 4 4 0 i_Rule___init__
def ini_Ring : List D → RE (List D) := iniD G_Rule___init__ 7 4 4 0 i_Rule___init__
/-- whole_rule(floor, word, numbers) : 0=floor 1=word 2=numbers 3=sign 4=cells -/
def i_whole_rule : Sms := (.cons (.iff (.val (.cmp .ne (.pri .len (.cons (.var 2) .nil)) (.cint 1))) (.cons (.rse 0)
    .nil) .nil)
    (.cons (.asg 3 (.call 1 (.cons (.var 0) (.cons (.var 2) (.cons (.cint 0) .nil)))))
    (.cons (.asg 4 (.lrng (.cons (.call 0 (.cons (.var 0) .nil)) .nil)))
    (.cons (.iff (.val (.cmp .eq (.var 1) (.cstr [106, 111, 105, 110, 101, 100]))) (.cons (.ret (.new 2 (.cons (.var 0) (.cons (.var 4) (.cons (.cint 0) (.cons (.var 3) .nil))))))
    .nil) .nil)
    (.cons (.iff (.val (.cmp .eq (.var 1) (.cstr [110, 111, 115, 113, 117, 97, 114, 101]))) (.cons (.ret (.new 1 (.cons (.var 0) (.cons (.var 4) (.cons (.cint 0) (.cons (.var 3) .nil))))))
    .nil) .nil)
    (.cons (.ret (.new 0 (.cons (.var 0) (.cons (.var 4) (.cons (.cint 0) (.cons (.var 3) .nil))))))
    .nil))))))
def G_whole_rule : Env := { fn := [("many_cells", g_many_cells), ("sign_told", g_sign_told)], gc := [], mn := [], mt := lookM [], fs := [], fi := lookF [], nw := [(7, ini_Ring), (6, ini_NoSquare), (5, ini_Joined)], ck := [], ik := [], xk := [8] }
def g_whole_rule : List D → RE ER := defD G_whole_rule 3 2 i_whole_rule
/-- number_of(word) : 0=word 1=sign -/
def i_number_of : Sms := (.cons (.iff (.bop false (.cons (.not (.val (.chn .le .le (.cint 1) (.pri .len (.cons (.var 0) .nil)) (.glo 1)))) (.cons (.bop true (.cons (.val (.cmp .eq (.idx (.var 0) (.cint 0)) (.cstr [48]))) (.cons (.val (.cmp .gt (.pri .len (.cons (.var 0) .nil)) (.cint 1))) .nil))) .nil))) (.cons (.rse 0)
    .nil) .nil)
    (.cons (.for (.any (.var 0)) [1] (.cons (.iff (.val (.cmp .nin (.var 1) (.glo 0))) (.cons (.rse 0)
    .nil) .nil)
    .nil))
    (.cons (.ret (.pri .int (.cons (.var 0) .nil)))
    .nil)))
def G_number_of : Env := { fn := [], gc := [("FIGURES", .str [48, 49, 50, 51, 52, 53, 54, 55, 56, 57]), ("LONGEST", .int 2)], mn := [], mt := lookM [], fs := [], fi := lookF [], nw := [], ck := [], ik := [], xk := [8] }
def g_number_of : List D → RE ER := defD G_number_of 1 1 i_number_of
/-- read_rule(floor, line) : 0=floor 1=line 2=words 3=word 4=numbers 5=one 6=sign 7=cells -/
def i_read_rule : Sms := (.cons (.iff (.not (.val (.isi (.var 1) .str))) (.cons (.rse 0)
    .nil) .nil)
    (.cons (.asg 2 (.bm1 .split (.var 1) (.cstr [32])))
    (.cons (.asg 3 (.idx (.var 2) (.cint 0)))
    (.cons (.iff (.val (.cmp .nin (.var 3) (.tup (.cons (.cstr [117, 110, 108, 105, 107, 101]) (.cons (.cstr [115, 117, 109]) (.cons (.cstr [114, 105, 115, 105, 110, 103]) (.cons (.cstr [115, 101, 101, 110]) (.cons (.cstr [99, 111, 117, 110, 116]) (.cons (.cstr [106, 111, 105, 110, 101, 100]) (.cons (.cstr [110, 111, 115, 113, 117, 97, 114, 101]) (.cons (.cstr [114, 105, 110, 103]) .nil))))))))))) (.cons (.rse 0)
    .nil) .nil)
    (.cons (.asg 4 (.lc [5] (.any (.slc (.var 2) (.cons (.cint 1) .nil) .nil)) [5] .nil (.call 3 (.cons (.var 5) .nil))))
    (.cons (.iff (.val (.cmp .isin (.var 3) (.tup (.cons (.cstr [106, 111, 105, 110, 101, 100]) (.cons (.cstr [110, 111, 115, 113, 117, 97, 114, 101]) (.cons (.cstr [114, 105, 110, 103]) .nil)))))) (.cons (.ret (.call 2 (.cons (.var 0) (.cons (.var 3) (.cons (.var 4) .nil)))))
    .nil) .nil)
    (.cons (.iff (.val (.cmp .eq (.var 3) (.cstr [117, 110, 108, 105, 107, 101]))) (.cons (.ret (.new 4 (.cons (.var 0) (.cons (.call 0 (.cons (.var 0) (.cons (.var 4) .nil))) (.cons (.cint 0) (.cons (.cint 0) .nil))))))
    .nil) .nil)
    (.cons (.iff (.val (.cmp .eq (.var 3) (.cstr [114, 105, 115, 105, 110, 103]))) (.cons (.ret (.new 3 (.cons (.var 0) (.cons (.call 0 (.cons (.var 0) (.cons (.var 4) .nil))) (.cons (.cint 0) (.cons (.cint 0) .nil))))))
    .nil) .nil)
    (.cons (.iff (.val (.cmp .eq (.var 3) (.cstr [99, 111, 117, 110, 116]))) (.cons (.asg 6 (.call 1 (.cons (.var 0) (.cons (.var 4) (.cons (.cint 1) .nil)))))
    (.cons (.ret (.new 2 (.cons (.var 0) (.cons (.call 0 (.cons (.var 0) (.cons (.slc (.var 4) (.cons (.cint 2) .nil) .nil) .nil))) (.cons (.idx (.var 4) (.cint 0)) (.cons (.var 6) .nil))))))
    .nil)) .nil)
    (.cons (.asg 7 (.call 0 (.cons (.var 0) (.cons (.slc (.var 4) (.cons (.cint 1) .nil) .nil) .nil))))
    (.cons (.iff (.val (.cmp .eq (.var 3) (.cstr [115, 117, 109]))) (.cons (.ret (.new 1 (.cons (.var 0) (.cons (.var 7) (.cons (.idx (.var 4) (.cint 0)) (.cons (.cint 0) .nil))))))
    .nil) .nil)
    (.cons (.ret (.new 0 (.cons (.var 0) (.cons (.var 7) (.cons (.idx (.var 4) (.cint 0)) (.cons (.cint 0) .nil))))))
    .nil))))))))))))
def G_read_rule : Env := { fn := [("cells_told", g_cells_told), ("sign_told", g_sign_told), ("whole_rule", g_whole_rule), ("number_of", g_number_of)], gc := [], mn := [], mt := lookM [], fs := [], fi := lookF [], nw := [(3, ini_Seen), (1, ini_Total), (4, ini_Counted), (2, ini_Rising), (0, ini_Unlike)], ck := [], ik := [], xk := [8] }
def g_read_rule : List D → RE ER := defD G_read_rule 2 6 i_read_rule
/-- _law_floor(_law_number) : 0=_law_number 1=_law_sizes 2=_law_high 3=_law_wide -/
def i__law_floor : Sms := (.cons (.own 1 (.lst .nil))
    (.cons (.for (.rng (.cons (.cint 1) (.cons (.cint 7) .nil))) [2] (.cons (.for (.rng (.cons (.cint 1) (.cons (.cint 7) .nil))) [3] (.cons (.iff (.val (.cmp .le (.bin .mul (.var 2) (.var 3)) (.cint 16))) (.cons (.app 1 (.tup (.cons (.var 2) (.cons (.var 3) .nil))))
    .nil) .nil)
    .nil))
    .nil))
    (.cons (.asgT [2, 3] (.idx (.var 1) (.bin .mdl (.var 0) (.pri .len (.cons (.var 1) .nil)))))
    (.cons (.ret (.tup (.cons (.var 2) (.cons (.var 3) (.cons (.bin .add (.cint 1) (.bin .mdl (.bin .fdv (.var 0) (.cint 100)) (.cint 6))) .nil)))))
    .nil))))
def G__law_floor : Env := { fn := [], gc := [], mn := [], mt := lookM [], fs := [], fi := lookF [], nw := [], ck := [], ik := [], xk := [] }
def g__law_floor : List D → RE ER := defD G__law_floor 1 3 i__law_floor
/-- law(_law_script) : 0=_law_script 1=_law_floor_here 2=_law_many 3=_law_sign 4=_law_line 5=_law_rule 6=_law_fillings 7=_law_j 8=_law_dues 9=_law_filling_here -/
def i_law : Sms := (.cons (.asg 1 (.call 6 (.cons (.call 5 (.cons (.var 0) (.cons (.cint 400) .nil))) .nil)))
    (.cons (.asg 2 (.bin .mul (.idx (.var 1) (.cint 0)) (.idx (.var 1) (.cint 1))))
    (.cons (.asg 3 (.bin .add (.cint 1) (.bin .mdl (.call 5 (.cons (.var 0) (.cons (.cint 401) .nil))) (.idx (.var 1) (.cint 2)))))
    (.cons (.asg 4 (.bin .add (.cstr [110, 111, 115, 113, 117, 97, 114, 101, 32]) (.pri .str (.cons (.var 3) .nil))))
    (.cons (.asg 5 (.call 4 (.cons (.var 1) (.cons (.var 4) .nil))))
    (.cons (.iff (.not (.val (.call 3 (.cons (.var 5) (.cons (.cstr [110, 111, 115, 113, 117, 97, 114, 101]) (.cons (.lrng (.cons (.var 2) .nil)) (.cons (.cint 0) (.cons (.var 3) (.cons (.cbl false) (.cons (.var 4) .nil)))))))))) (.cons (.ret (.cbl false))
    .nil) .nil)
    (.cons (.asg 6 (.lc [7] (.rng (.cons (.cint 8) .nil)) [7] .nil (.call 2 (.cons (.var 0) (.cons (.bin .mul (.cint 20) (.var 7)) (.cons (.var 1) (.cons (.var 3) .nil)))))))
    (.cons (.asg 8 (.lc [9] (.any (.var 6)) [9] .nil (.call 1 (.cons (.var 1) (.cons (.var 3) (.cons (.var 9) .nil))))))
    (.cons (.iff (.not (.val (.call 0 (.cons (.var 5) (.cons (.var 6) (.cons (.var 8) .nil)))))) (.cons (.ret (.cbl false))
    .nil) .nil)
    (.cons (.ret (.call 0 (.cons (.var 5) (.cons (.rev (.var 6)) (.cons (.rev (.var 8)) .nil)))))
    .nil))))))))))
def G_law : Env := { fn := [("_law_asked", g__law_asked), ("_law_due", g__law_due), ("_law_filling", g__law_filling), ("_law_told", g__law_told), ("read_rule", g_read_rule), ("_law_mixed", g__law_mixed), ("_law_floor", g__law_floor)], gc := [], mn := [], mt := lookM [], fs := [], fi := lookF [], nw := [], ck := [], ik := [], xk := [] }
def g_law : List D → RE ER := defD G_law 1 9 i_law
end K16

set_option Elab.async false
set_option linter.all false
set_option maxRecDepth 100000
set_option maxHeartbeats 0
namespace K16
open Cm
theorem fmod_lt (a : Int) {n : Int} (h : 0 < n) : 0 ≤ a.fmod n ∧ a.fmod n < n := by
  rw [Int.fmod_eq_emod_of_nonneg _ (Int.le_of_lt h)]
  exact ⟨Int.emod_nonneg _ (by omega), Int.emod_lt_of_pos _ h⟩
theorem atI_ex {α : Type} {xs : List α} {i : Int} (h0 : 0 ≤ i) (h1 : i < xs.length) : ∃ (k : Nat) (hk : k < xs.length), i = (k : Int) ∧ L2.atI xs i = some xs[k] := by
  have hk : i.toNat < xs.length := by omega
  refine ⟨i.toNat, hk, by omega, ?_⟩
  have := L2.atI_nat (List.getElem?_eq_getElem hk)
  rwa [show ((i.toNat : Nat) : Int) = i from by omega] at this
theorem fdivN (n k : Nat) : ((n : Nat) : Int).fdiv (k : Int) = ((n / k : Nat) : Int) := by
  rw [Int.fdiv_eq_ediv_of_nonneg _ (by omega)]; rfl
theorem fmodN (n k : Nat) : ((n : Nat) : Int).fmod (k : Int) = ((n % k : Nat) : Int) := by
  rw [Int.fmod_eq_emod_of_nonneg _ (by omega)]; rfl
theorem get_ints {fl : List Int} {i : Nat} {x : D} (h : (fl.map D.int)[i]? = some x) : ∃ v, fl[i]? = some v ∧ x = .int v := by
  rw [List.getElem?_map] at h
  cases e : fl[i]? with
  | none => rw [e] at h; cases h
  | some m => rw [e] at h; cases h; exact ⟨m, rfl, rfl⟩
theorem seq_if {k : Bool} {a b : Out} {f : List Sl → Out} {ρ : List Sl} (h : (if k = true then a else b) = .nx ρ) : (if k = true then a else b).seq f = f ρ := by rw [h]; rfl
theorem rng_map (n : Nat) : (rngL 0 1 n).map D.int = (List.range n).map fun a => D.int ((a : Nat) : Int) := by
  rw [rngL_IC, IC, List.map_map]; rfl
/-- a loop that goes on while p, and ends with an answer at the first that isn't -/
theorem forGo_all {α : Type} {f : D → List Sl → Out} {p : α → Bool} {en : α → D} {r : Out} {I : List Sl → Prop} (hr : ∀ ρ, r ≠ .nx ρ ∧ r ≠ .cnt ρ ∧ r ≠ .brk ρ) : ∀ {xs : List α} {ρ : List Sl}, (∀ x ∈ xs, ∀ ρ, I ρ → (p x = true → ∃ ρ', f (en x) ρ = .nx ρ' ∧ I ρ') ∧ (p x = false → f (en x) ρ = r)) → I ρ →
    (xs.all p = true → ∃ ρ', forGo f (xs.map en) ρ = .nx ρ' ∧ I ρ') ∧ (xs.all p = false → forGo f (xs.map en) ρ = r)
  | [], ρ, _, h => ⟨fun _ => ⟨ρ, rfl, h⟩, fun h => by cases h⟩
  | x :: xs, ρ, hs, h => by
    have h0 := hs x (by simp) ρ h
    cases hp : p x with
    | true =>
      obtain ⟨ρ1, e1, h1⟩ := h0.1 hp
      have ih := forGo_all hr (xs := xs) (ρ := ρ1) (fun y hy => hs y (List.mem_cons_of_mem _ hy)) h1
      simp only [List.all_cons, hp, Bool.true_and, List.map_cons]
      unfold forGo
      rw [e1]
      exact ih
    | false =>
      have e1 := h0.2 hp
      simp only [List.all_cons, hp, Bool.false_and, List.map_cons, Bool.false_eq_true, false_implies, true_and]
      intro _
      unfold forGo
      rw [e1]
      cases r with
      | nx ρ => exact absurd rfl (hr ρ).1
      | cnt ρ => exact absurd rfl (hr ρ).2.1
      | brk ρ => exact absurd rfl (hr ρ).2.2
      | _ => rfl
theorem firstMet_full (f : Nat → Int) : ∀ i, (PyProof.Rows.firstMet f i).length = i → ((List.range i).map f).Nodup
  | 0, _ => by simp
  | i + 1, h => by
    rw [PyProof.Rows.firstMet_succ] at h
    unfold PyProof.Rows.step_dedup at h
    have hle := PyProof.Rows.firstMet_length_le f i
    split at h
    · omega
    · rename_i hn
      rw [List.length_append, List.length_singleton] at h
      have ih := firstMet_full f i (by omega)
      rw [PyProof.Rows.firstMet_any] at hn
      rw [List.range_succ, List.map_append, List.nodup_append]
      refine ⟨ih, by simp, ?_⟩
      intro a ha b hb e
      simp only [List.map_cons, List.map_nil, List.mem_singleton] at hb
      subst hb
      subst e
      exact hn (List.any_eq_true.mpr ⟨_, ha, by simp⟩)
theorem range_getD (ns : List Int) : (List.range ns.length).map (fun i => ns.getD i 0) = ns := by
  apply List.ext_getElem
  · simp
  · intro i h1 h2
    simp at h1
    simp [h2]
theorem firstMet_nd (f : Nat → Int) : ∀ i, ((List.range i).map f).Nodup → (PyProof.Rows.firstMet f i).length = i
  | 0, _ => rfl
  | i + 1, h => by
    rw [List.range_succ, List.map_append, List.nodup_append] at h
    have ih := firstMet_nd f i h.1
    rw [PyProof.Rows.firstMet_succ]
    unfold PyProof.Rows.step_dedup
    split
    · rename_i hn
      rw [PyProof.Rows.firstMet_any] at hn
      obtain ⟨a, ha, e⟩ := List.any_eq_true.mp hn
      exact absurd (by simpa using e) (h.2.2 a ha (f i) (by simp))
    · rw [List.length_append, List.length_singleton, ih]
theorem cnt_nodup {ns : List Int} (h : ns.Nodup) : cntI ns = ns.length := firstMet_nd _ _ (by rwa [range_getD])
theorem cnt_iff (ns : List Int) : cntI ns = ns.length ↔ ns.Nodup :=
  ⟨fun h => by have := firstMet_full _ _ h; rwa [range_getD] at this, cnt_nodup⟩
theorem mixed_ex (ns : List Int) (k : Nat) (hk : k < 10000) (hl : ns.length ≤ 63) : ∃ z : Nat, z < 2147483629 ∧ g__law_mixed [.lst (ns.map D.int), .int k] = .ok (.val (.int (z : Nat)) true) := by
  have el : ((ns.map D.int).length : Int) = ns.length := by simp
  have m1 : mulB (k : Int) k = true := mul_t (.inr (by omega))
  have m2 : mulB ((k : Int) * k) 7919 = true := mul_t (.inr (by decide))
  have m3 : mulB 104729 (k : Int) = true := mul_t (.inr (by omega))
  have nz : nzB 2147483629 = true := nz_t (by decide)
  obtain ⟨n0, hn0⟩ : ∃ n0 : Int, (k : Int) * k * 7919 + 104729 * k + 11 = n0 := ⟨_, rfl⟩
  have fin : ∀ n : Int, ∃ z : Nat, n.fmod 2147483629 = z ∧ z < 2147483629 := fun n => by
    have := fmod_lt n (n := 2147483629) (by decide)
    exact ⟨(n.fmod 2147483629).toNat, by omega, by omega⟩
  by_cases h0 : 0 < ns.length
  · have e0 : ((0 : Int) < ns.length) = True := eq_true (by omega)
    have ne : nzB (ns.length : Int) = true := nz_t (by omega)
    have hm : (k : Int).fmod ns.length = ((k % ns.length : Nat) : Int) := by
      rw [Int.fmod_eq_emod_of_nonneg _ (by omega)]; rfl
    have hd : (k : Int).fdiv ns.length = ((k / ns.length : Nat) : Int) := by
      rw [Int.fdiv_eq_ediv_of_nonneg _ (by omega)]; rfl
    have hg : L2.atI (ns.map D.int) ((k % ns.length : Nat) : Int) = some (.int (ns.getD (k % ns.length) 0)) := by
      refine atI_int ?_
      rw [List.getD_eq_getElem?_getD, List.getElem?_eq_getElem (Nat.mod_lt _ h0)]; rfl
    have dl : divB (ns.length : Int) = true := div_t ⟨by omega, by omega⟩
    have hq : k / ns.length ≤ k := Nat.div_le_self _ _
    generalize ns.getD (k % ns.length) 0 = a at hg
    generalize k / ns.length = b at hd hq
    obtain ⟨c, hc⟩ : ∃ c : Int, a.fmod (10 ^ 30) = c := ⟨_, rfl⟩
    have m4 : mulB c (48271 + (b : Int)) = true := mul_t (.inr (by omega))
    obtain ⟨z, hz, z1⟩ := fin (n0 + c * (48271 + b))
    refine ⟨z, z1, ?_⟩
    have p0 : powB 10 30 = true := rfl
    have nzp : nzB (10 ^ 30) = true := nz_t (by decide)
    have t30 : (30 : Int).toNat = 30 := rfl
    refine def_run rfl ?_
    rw [i__law_mixed]
    simp only [List.map_cons, List.map_nil, List.replicate, List.cons_append, List.nil_append, D.flat]
    rw [st_asg (d := .int n0) (f := true) (by simp only [evIsc, ev, evs, evO, evT, evBs, evBv, evI, Cm.run, runs, evB, evC, evEq, evTr, evIx, evSl, evP, evM, evTy, evRng, callR, bindL, bindT, dis, evAny, Out.fin, retE, held, parGo, ok, onB, ownAt, valAt, noX, wipeS, D.isNon, ER.frz, ER.isV, ER.isB, D.flat, D.flats, defD,
    gd_true, gdO_true, RE.bind_ok, RE.bind_bad, RE.out_ok, RE.out_bad, Out.seq_nx, Out.seq_ret, Out.seq_brk, Out.seq_cnt, ER.d_val, ER.d_fre, ER.d_brw, ER.b_val, ER.b_fre, ER.b_brw, List.getElem?_cons_zero, List.getElem?_cons_succ, List.set_cons_zero, List.set_cons_succ, List.map_cons, List.map_nil, List.cons_append, List.nil_append, List.replicate, List.length_cons, List.length_nil,
    List.all_cons, List.all_nil, List.any_cons, List.any_nil, Bool.and_true, Bool.true_and, Bool.and_self, Bool.or_true, Bool.true_or, Bool.false_or, Bool.or_false, Bool.not_true, Bool.not_false, Bool.and_false, Bool.false_and, if_true, if_false, ite_true, ite_false, decide_true, decide_false, decide_eq_true_eq, Bool.false_eq_true, reduceCtorEq, Option.some.injEq, Nat.zero_add, eq_self, ↓reduceIte, m1, m2, m3, hn0])]
    simp only [List.set_cons_zero, List.set_cons_succ]
    rw [st_ifT (by simp only [evIsc, ev, evs, evO, evT, evBs, evBv, evI, Cm.run, runs, evB, evC, evEq, evTr, evIx, evSl, evP, evM, evTy, evRng, callR, bindL, bindT, dis, evAny, Out.fin, retE, held, parGo, ok, onB, ownAt, valAt, noX, wipeS, D.isNon, ER.frz, ER.isV, ER.isB, D.flat, D.flats, defD,
    gd_true, gdO_true, RE.bind_ok, RE.bind_bad, RE.out_ok, RE.out_bad, Out.seq_nx, Out.seq_ret, Out.seq_brk, Out.seq_cnt, ER.d_val, ER.d_fre, ER.d_brw, ER.b_val, ER.b_fre, ER.b_brw, List.getElem?_cons_zero, List.getElem?_cons_succ, List.set_cons_zero, List.set_cons_succ, List.map_cons, List.map_nil, List.cons_append, List.nil_append, List.replicate, List.length_cons, List.length_nil,
    List.all_cons, List.all_nil, List.any_cons, List.any_nil, Bool.and_true, Bool.true_and, Bool.and_self, Bool.or_true, Bool.true_or, Bool.false_or, Bool.or_false, Bool.not_true, Bool.not_false, Bool.and_false, Bool.false_and, if_true, if_false, ite_true, ite_false, decide_true, decide_false, decide_eq_true_eq, Bool.false_eq_true, reduceCtorEq, Option.some.injEq, Nat.zero_add, eq_self, ↓reduceIte, el, e0])]
    rw [st_asg (d := .int c) (f := true) (by simp only [evIsc, ev, evs, evO, evT, evBs, evBv, evI, Cm.run, runs, evB, evC, evEq, evTr, evIx, evSl, evP, evM, evTy, evRng, callR, bindL, bindT, dis, evAny, Out.fin, retE, held, parGo, ok, onB, ownAt, valAt, noX, wipeS, D.isNon, ER.frz, ER.isV, ER.isB, D.flat, D.flats, defD,
    gd_true, gdO_true, RE.bind_ok, RE.bind_bad, RE.out_ok, RE.out_bad, Out.seq_nx, Out.seq_ret, Out.seq_brk, Out.seq_cnt, ER.d_val, ER.d_fre, ER.d_brw, ER.b_val, ER.b_fre, ER.b_brw, List.getElem?_cons_zero, List.getElem?_cons_succ, List.set_cons_zero, List.set_cons_succ, List.map_cons, List.map_nil, List.cons_append, List.nil_append, List.replicate, List.length_cons, List.length_nil,
    List.all_cons, List.all_nil, List.any_cons, List.any_nil, Bool.and_true, Bool.true_and, Bool.and_self, Bool.or_true, Bool.true_or, Bool.false_or, Bool.or_false, Bool.not_true, Bool.not_false, Bool.and_false, Bool.false_and, if_true, if_false, ite_true, ite_false, decide_true, decide_false, decide_eq_true_eq, Bool.false_eq_true, reduceCtorEq, Option.some.injEq, Nat.zero_add, eq_self, ↓reduceIte, el, ne, hm, hg, p0, t30, nzp, hc])]
    simp only [List.set_cons_zero, List.set_cons_succ]
    rw [st_asg (d := .int (n0 + c * (48271 + b))) (f := true) (by simp only [evIsc, ev, evs, evO, evT, evBs, evBv, evI, Cm.run, runs, evB, evC, evEq, evTr, evIx, evSl, evP, evM, evTy, evRng, callR, bindL, bindT, dis, evAny, Out.fin, retE, held, parGo, ok, onB, ownAt, valAt, noX, wipeS, D.isNon, ER.frz, ER.isV, ER.isB, D.flat, D.flats, defD,
    gd_true, gdO_true, RE.bind_ok, RE.bind_bad, RE.out_ok, RE.out_bad, Out.seq_nx, Out.seq_ret, Out.seq_brk, Out.seq_cnt, ER.d_val, ER.d_fre, ER.d_brw, ER.b_val, ER.b_fre, ER.b_brw, List.getElem?_cons_zero, List.getElem?_cons_succ, List.set_cons_zero, List.set_cons_succ, List.map_cons, List.map_nil, List.cons_append, List.nil_append, List.replicate, List.length_cons, List.length_nil,
    List.all_cons, List.all_nil, List.any_cons, List.any_nil, Bool.and_true, Bool.true_and, Bool.and_self, Bool.or_true, Bool.true_or, Bool.false_or, Bool.or_false, Bool.not_true, Bool.not_false, Bool.and_false, Bool.false_and, if_true, if_false, ite_true, ite_false, decide_true, decide_false, decide_eq_true_eq, Bool.false_eq_true, reduceCtorEq, Option.some.injEq, Nat.zero_add, eq_self, ↓reduceIte, el, dl, hd, m4]), st_nil, Out.seq_nx]
    simp only [List.set_cons_zero, List.set_cons_succ]
    rw [st_ret (x := .val (.int z) true) (by simp only [evIsc, ev, evs, evO, evT, evBs, evBv, evI, Cm.run, runs, evB, evC, evEq, evTr, evIx, evSl, evP, evM, evTy, evRng, callR, bindL, bindT, dis, evAny, Out.fin, retE, held, parGo, ok, onB, ownAt, valAt, noX, wipeS, D.isNon, ER.frz, ER.isV, ER.isB, D.flat, D.flats, defD,
    gd_true, gdO_true, RE.bind_ok, RE.bind_bad, RE.out_ok, RE.out_bad, Out.seq_nx, Out.seq_ret, Out.seq_brk, Out.seq_cnt, ER.d_val, ER.d_fre, ER.d_brw, ER.b_val, ER.b_fre, ER.b_brw, List.getElem?_cons_zero, List.getElem?_cons_succ, List.set_cons_zero, List.set_cons_succ, List.map_cons, List.map_nil, List.cons_append, List.nil_append, List.replicate, List.length_cons, List.length_nil,
    List.all_cons, List.all_nil, List.any_cons, List.any_nil, Bool.and_true, Bool.true_and, Bool.and_self, Bool.or_true, Bool.true_or, Bool.false_or, Bool.or_false, Bool.not_true, Bool.not_false, Bool.and_false, Bool.false_and, if_true, if_false, ite_true, ite_false, decide_true, decide_false, decide_eq_true_eq, Bool.false_eq_true, reduceCtorEq, Option.some.injEq, Nat.zero_add, eq_self, ↓reduceIte, nz, hz])]
    rfl
  · have e0 : ((0 : Int) < ns.length) = False := eq_false (by omega)
    obtain ⟨z, hz, z1⟩ := fin n0
    refine ⟨z, z1, def_run rfl ?_⟩
    rw [i__law_mixed]
    simp only [List.map_cons, List.map_nil, List.replicate, List.cons_append, List.nil_append, D.flat]
    rw [st_asg (d := .int n0) (f := true) (by simp only [evIsc, ev, evs, evO, evT, evBs, evBv, evI, Cm.run, runs, evB, evC, evEq, evTr, evIx, evSl, evP, evM, evTy, evRng, callR, bindL, bindT, dis, evAny, Out.fin, retE, held, parGo, ok, onB, ownAt, valAt, noX, wipeS, D.isNon, ER.frz, ER.isV, ER.isB, D.flat, D.flats, defD,
    gd_true, gdO_true, RE.bind_ok, RE.bind_bad, RE.out_ok, RE.out_bad, Out.seq_nx, Out.seq_ret, Out.seq_brk, Out.seq_cnt, ER.d_val, ER.d_fre, ER.d_brw, ER.b_val, ER.b_fre, ER.b_brw, List.getElem?_cons_zero, List.getElem?_cons_succ, List.set_cons_zero, List.set_cons_succ, List.map_cons, List.map_nil, List.cons_append, List.nil_append, List.replicate, List.length_cons, List.length_nil,
    List.all_cons, List.all_nil, List.any_cons, List.any_nil, Bool.and_true, Bool.true_and, Bool.and_self, Bool.or_true, Bool.true_or, Bool.false_or, Bool.or_false, Bool.not_true, Bool.not_false, Bool.and_false, Bool.false_and, if_true, if_false, ite_true, ite_false, decide_true, decide_false, decide_eq_true_eq, Bool.false_eq_true, reduceCtorEq, Option.some.injEq, Nat.zero_add, eq_self, ↓reduceIte, m1, m2, m3, hn0])]
    simp only [List.set_cons_zero, List.set_cons_succ]
    rw [st_ifF (by simp only [evIsc, ev, evs, evO, evT, evBs, evBv, evI, Cm.run, runs, evB, evC, evEq, evTr, evIx, evSl, evP, evM, evTy, evRng, callR, bindL, bindT, dis, evAny, Out.fin, retE, held, parGo, ok, onB, ownAt, valAt, noX, wipeS, D.isNon, ER.frz, ER.isV, ER.isB, D.flat, D.flats, defD,
    gd_true, gdO_true, RE.bind_ok, RE.bind_bad, RE.out_ok, RE.out_bad, Out.seq_nx, Out.seq_ret, Out.seq_brk, Out.seq_cnt, ER.d_val, ER.d_fre, ER.d_brw, ER.b_val, ER.b_fre, ER.b_brw, List.getElem?_cons_zero, List.getElem?_cons_succ, List.set_cons_zero, List.set_cons_succ, List.map_cons, List.map_nil, List.cons_append, List.nil_append, List.replicate, List.length_cons, List.length_nil,
    List.all_cons, List.all_nil, List.any_cons, List.any_nil, Bool.and_true, Bool.true_and, Bool.and_self, Bool.or_true, Bool.true_or, Bool.false_or, Bool.or_false, Bool.not_true, Bool.not_false, Bool.and_false, Bool.false_and, if_true, if_false, ite_true, ite_false, decide_true, decide_false, decide_eq_true_eq, Bool.false_eq_true, reduceCtorEq, Option.some.injEq, Nat.zero_add, eq_self, ↓reduceIte, el, e0]), st_nil, Out.seq_nx]
    rw [st_ret (x := .val (.int z) true) (by simp only [evIsc, ev, evs, evO, evT, evBs, evBv, evI, Cm.run, runs, evB, evC, evEq, evTr, evIx, evSl, evP, evM, evTy, evRng, callR, bindL, bindT, dis, evAny, Out.fin, retE, held, parGo, ok, onB, ownAt, valAt, noX, wipeS, D.isNon, ER.frz, ER.isV, ER.isB, D.flat, D.flats, defD,
    gd_true, gdO_true, RE.bind_ok, RE.bind_bad, RE.out_ok, RE.out_bad, Out.seq_nx, Out.seq_ret, Out.seq_brk, Out.seq_cnt, ER.d_val, ER.d_fre, ER.d_brw, ER.b_val, ER.b_fre, ER.b_brw, List.getElem?_cons_zero, List.getElem?_cons_succ, List.set_cons_zero, List.set_cons_succ, List.map_cons, List.map_nil, List.cons_append, List.nil_append, List.replicate, List.length_cons, List.length_nil,
    List.all_cons, List.all_nil, List.any_cons, List.any_nil, Bool.and_true, Bool.true_and, Bool.and_self, Bool.or_true, Bool.true_or, Bool.false_or, Bool.or_false, Bool.not_true, Bool.not_false, Bool.and_false, Bool.false_and, if_true, if_false, ite_true, ite_false, decide_true, decide_false, decide_eq_true_eq, Bool.false_eq_true, reduceCtorEq, Option.some.injEq, Nat.zero_add, eq_self, ↓reduceIte, nz, hz])]
    rfl
/-- the law's number for k -/
noncomputable def mx (ns : List Int) (k : Nat) : Nat := if h : k < 10000 ∧ ns.length ≤ 63 then (mixed_ex ns k h.1 h.2).choose else 0
theorem mx_ok {ns : List Int} (hl : ns.length ≤ 63) (k : Nat) (hk : k < 10000) : g__law_mixed [.lst (ns.map D.int), .int k] = .ok (.val (.int (mx ns k : Nat)) true) := by
  unfold mx
  rw [dif_pos ⟨hk, hl⟩]
  exact (mixed_ex ns k hk hl).choose_spec.2
theorem mx_lt {ns : List Int} (hl : ns.length ≤ 63) (k : Nat) (hk : k < 10000) : mx ns k < 2147483629 := by
  unfold mx
  rw [dif_pos ⟨hk, hl⟩]
  exact (mixed_ex ns k hk hl).choose_spec.1
theorem mx_lit {ns : List Int} (hl : ns.length ≤ 63) (k : Nat) (j : Int) (hj : j = k) (hk : k < 10000) : g__law_mixed [.lst (ns.map D.int), .int j] = .ok (.val (.int (mx ns k : Nat)) true) := by
  subst hj; exact mx_ok hl k hk
def SZ : List (Nat × Nat) := [(1, 1), (1, 2), (1, 3), (1, 4), (1, 5), (1, 6), (2, 1), (2, 2), (2, 3), (2, 4), (2, 5), (2, 6), (3, 1), (3, 2), (3, 3), (3, 4), (3, 5), (4, 1), (4, 2), (4, 3), (4, 4), (5, 1), (5, 2), (5, 3), (6, 1), (6, 2)]
theorem floor_ok (z : Nat) : ∃ h w s : Nat, 1 ≤ h ∧ h ≤ 6 ∧ 1 ≤ w ∧ w ≤ 6 ∧ h * w ≤ 16 ∧ 1 ≤ s ∧ s ≤ 6 ∧ g__law_floor [.int z] = .ok (.val (.tup [.int h, .int w, .int s]) true) := by
  have key : ∀ i < 26, ∃ h w : Nat, SZ[i]? = some (h, w) ∧ 1 ≤ h ∧ h ≤ 6 ∧ 1 ≤ w ∧ w ≤ 6 ∧ h * w ≤ 16 := by
    intro i hi
    have : ∀ p ∈ SZ, 1 ≤ p.1 ∧ p.1 ≤ 6 ∧ 1 ≤ p.2 ∧ p.2 ≤ 6 ∧ p.1 * p.2 ≤ 16 := by decide
    have hl : i < SZ.length := hi
    exact ⟨_, _, List.getElem?_eq_getElem hl, this _ (List.getElem_mem hl)⟩
  obtain ⟨h, w, e, h1, h2, h3, h4, h5⟩ := key (z % 26) (Nat.mod_lt _ (by decide))
  have a : L2.atI (SZ.map fun p => D.tup [.int p.1, .int p.2]) ((z % 26 : Nat) : Int) = some (.tup [.int h, .int w]) := by
    refine L2.atI_nat ?_
    rw [List.getElem?_map, e]; rfl
  have m : ((z : Nat) : Int).fmod 26 = ((z % 26 : Nat) : Int) := by rw [Int.fmod_eq_emod_of_nonneg _ (by decide)]; rfl
  have d : ((z : Nat) : Int).fdiv 100 = ((z / 100 : Nat) : Int) := by rw [Int.fdiv_eq_ediv_of_nonneg _ (by decide)]; rfl
  have m6 : ((z / 100 : Nat) : Int).fmod 6 = ((z / 100 % 6 : Nat) : Int) := by rw [Int.fmod_eq_emod_of_nonneg _ (by decide)]; rfl
  have hs : z / 100 % 6 < 6 := Nat.mod_lt _ (by decide)
  have ts : (1 : Int) + ((z / 100 % 6 : Nat) : Int) = ((1 + z / 100 % 6 : Nat) : Int) := by omega
  refine ⟨h, w, 1 + z / 100 % 6, h1, h2, h3, h4, h5, by omega, by omega, ?_⟩
  refine def_run rfl ?_
  rw [i__law_floor]
  simp only [List.map_cons, List.map_nil, List.replicate, List.cons_append, List.nil_append, D.flat]
  rw [st_own (ds := []) (f := true) (by simp only [evIsc, ev, evs, evO, evT, evBs, evBv, evI, Cm.run, runs, evB, evC, evEq, evTr, evIx, evSl, evP, evM, evTy, evRng, callR, bindL, bindT, dis, evAny, Out.fin, retE, held, parGo, ok, onB, ownAt, valAt, noX, wipeS, D.isNon, ER.frz, ER.isV, ER.isB, D.flat, D.flats, defD,
    gd_true, gdO_true, RE.bind_ok, RE.bind_bad, RE.out_ok, RE.out_bad, Out.seq_nx, Out.seq_ret, Out.seq_brk, Out.seq_cnt, ER.d_val, ER.d_fre, ER.d_brw, ER.b_val, ER.b_fre, ER.b_brw, List.getElem?_cons_zero, List.getElem?_cons_succ, List.set_cons_zero, List.set_cons_succ, List.map_cons, List.map_nil, List.cons_append, List.nil_append, List.replicate, List.length_cons, List.length_nil,
    List.all_cons, List.all_nil, List.any_cons, List.any_nil, Bool.and_true, Bool.true_and, Bool.and_self, Bool.or_true, Bool.true_or, Bool.false_or, Bool.or_false, Bool.not_true, Bool.not_false, Bool.and_false, Bool.false_and, if_true, if_false, ite_true, ite_false, decide_true, decide_false, decide_eq_true_eq, Bool.false_eq_true, reduceCtorEq, Option.some.injEq, Nat.zero_add, eq_self, ↓reduceIte])]
  simp only [List.set_cons_zero, List.set_cons_succ]
  rw [st_for (w := ⟨(rngL 1 1 6).map D.int, true, false⟩) (ρ' := [.val (.int z) true, .own (SZ.map fun p => D.tup [.int p.1, .int p.2]) true, .val (.int 6) true, .val (.int 6) true]) (by kernel_rfl) rfl (by kernel_rfl)]
  have len : (((SZ.map fun p => D.tup [.int p.1, .int p.2]).length : Nat) : Int) = 26 := rfl
  have n26 : nzB 26 = true := rfl
  have n6 : nzB 6 = true := rfl
  have d100 : divB 100 = true := rfl
  rw [st_asgT (d := .tup [.int h, .int w]) (f := true) (ρ' := [.val (.int z) true, .own (SZ.map fun p => D.tup [.int p.1, .int p.2]) true, .val (.int h) true, .val (.int w) true]) (by simp only [evIsc, ev, evs, evO, evT, evBs, evBv, evI, Cm.run, runs, evB, evC, evEq, evTr, evIx, evSl, evP, evM, evTy, evRng, callR, bindL, bindT, dis, evAny, Out.fin, retE, held, parGo, ok, onB, ownAt, valAt, noX, wipeS, D.isNon, ER.frz, ER.isV, ER.isB, D.flat, D.flats, defD,
    gd_true, gdO_true, RE.bind_ok, RE.bind_bad, RE.out_ok, RE.out_bad, Out.seq_nx, Out.seq_ret, Out.seq_brk, Out.seq_cnt, ER.d_val, ER.d_fre, ER.d_brw, ER.b_val, ER.b_fre, ER.b_brw, List.getElem?_cons_zero, List.getElem?_cons_succ, List.set_cons_zero, List.set_cons_succ, List.map_cons, List.map_nil, List.cons_append, List.nil_append, List.replicate, List.length_cons, List.length_nil,
    List.all_cons, List.all_nil, List.any_cons, List.any_nil, Bool.and_true, Bool.true_and, Bool.and_self, Bool.or_true, Bool.true_or, Bool.false_or, Bool.or_false, Bool.not_true, Bool.not_false, Bool.and_false, Bool.false_and, if_true, if_false, ite_true, ite_false, decide_true, decide_false, decide_eq_true_eq, Bool.false_eq_true, reduceCtorEq, Option.some.injEq, Nat.zero_add, eq_self, ↓reduceIte, len, n26, m, a]) rfl]
  rw [st_ret (x := .val (.tup [.int h, .int w, .int ((1 + z / 100 % 6 : Nat) : Int)]) true) (by simp only [evIsc, ev, evs, evO, evT, evBs, evBv, evI, Cm.run, runs, evB, evC, evEq, evTr, evIx, evSl, evP, evM, evTy, evRng, callR, bindL, bindT, dis, evAny, Out.fin, retE, held, parGo, ok, onB, ownAt, valAt, noX, wipeS, D.isNon, ER.frz, ER.isV, ER.isB, D.flat, D.flats, defD,
    gd_true, gdO_true, RE.bind_ok, RE.bind_bad, RE.out_ok, RE.out_bad, Out.seq_nx, Out.seq_ret, Out.seq_brk, Out.seq_cnt, ER.d_val, ER.d_fre, ER.d_brw, ER.b_val, ER.b_fre, ER.b_brw, List.getElem?_cons_zero, List.getElem?_cons_succ, List.set_cons_zero, List.set_cons_succ, List.map_cons, List.map_nil, List.cons_append, List.nil_append, List.replicate, List.length_cons, List.length_nil,
    List.all_cons, List.all_nil, List.any_cons, List.any_nil, Bool.and_true, Bool.true_and, Bool.and_self, Bool.or_true, Bool.true_or, Bool.false_or, Bool.or_false, Bool.not_true, Bool.not_false, Bool.and_false, Bool.false_and, if_true, if_false, ite_true, ite_false, decide_true, decide_false, decide_eq_true_eq, Bool.false_eq_true, reduceCtorEq, Option.some.injEq, Nat.zero_add, eq_self, ↓reduceIte, d100, d, n6, m6, ts])]
  rfl
end K16

set_option Elab.async false
set_option linter.all false
set_option maxRecDepth 100000
set_option maxHeartbeats 0
namespace K16
open Cm
/-- a number's figures, below 100 -/
def dg (n : Nat) : List Nat := if n < 10 then [48 + n] else [48 + n / 10, 48 + n % 10]
theorem dg_str : ∀ n < 100, (toString ((n : Nat) : Int) : PySem.Str).cps.toList = dg n := by decide +kernel
theorem dg_str2 : ∀ n < 100, strB ((n : Nat) : Int) = true := by decide +kernel
theorem dg_free : ∀ n < 100, 32 ∉ dg n := by decide +kernel
theorem dg_len : ∀ n < 100, (dg n).length ≤ 2 ∧ 1 ≤ (dg n).length := by decide +kernel
def isInt (r : RE ER) (n : Nat) : Bool := match r with
  | .ok (.val (.int (.ofNat m)) true) => Nat.beq m n
  | _ => false
theorem isInt_ok {r : RE ER} {n : Nat} (h : isInt r n = true) : r = .ok (.val (.int ((n : Nat) : Int)) true) := by
  unfold isInt at h
  split at h
  · rename_i m
    rw [Nat.eq_of_beq_eq_true h]; rfl
  · cases h
theorem join_ok (c : Nat) (ws : List (List Nat)) : (PySem.Txt.join (strOf [c]) (ws.map strOf)).cps.toList = TL.joinL [c] ws := by
  have := SX.join_S [c] ws
  show (PySem.Txt.join (SX.S [c]) (ws.map SX.S)).cps.toList = _
  rw [this]
theorem split_ok (c : Nat) (ws : List (List Nat)) (hc : c < 256) (hn : ws ≠ []) (h : ∀ p ∈ ws, c ∉ p) : ((PySem.Txt.split (strOf (TL.joinL [c] ws)) (strOf [c])).map fun z => D.str z.cps.toList) = ws.map D.str := by
  have e : PySem.Txt.split (strOf (TL.joinL [c] ws)) (strOf [c]) = ws.map SX.S := by
    have := SX.split_S (a := TL.joinL [c] ws) (b := [c]) (by simp) (by simp [hc])
    rw [SX.spl_join hn h] at this
    exact this
  rw [e, List.map_map]
  exact List.map_congr_left fun w _ => rfl
theorem strsD_map : ∀ ws : List (List Nat), strsD (ws.map D.str) = some ws
  | [] => rfl
  | w :: ws => by simp [strsD, strsD_map ws]
theorem joinL_len (c : Nat) : ∀ ws : List (List Nat), (TL.joinL [c] ws).length ≤ (ws.map List.length).sum + ws.length
  | [] => by simp [TL.joinL]
  | [p] => by simp [TL.joinL]
  | p :: q :: r => by
    have := joinL_len c (q :: r)
    simp only [TL.joinL, List.length_append, List.map_cons, List.sum_cons, List.length_cons, List.length_nil] at this ⊢
    omega
theorem sum_le {b : Nat} : ∀ {ws : List (List Nat)}, (∀ w ∈ ws, w.length ≤ b) → (ws.map List.length).sum ≤ ws.length * b
  | [], _ => by simp
  | w :: ws, h => by
    have h1 := h w (by simp)
    have h2 := sum_le (ws := ws) fun v hv => h v (List.mem_cons_of_mem _ hv)
    simp only [List.map_cons, List.sum_cons, List.length_cons, Nat.add_mul, Nat.one_mul]
    omega
theorem num_chk : ∀ n < 100, isInt (g_number_of [.str (dg n)]) n = true := by decide +kernel
end K16

set_option Elab.async false
set_option linter.all false
set_option maxRecDepth 100000
set_option maxHeartbeats 0
namespace K16
open Cm
/-- a rule -/
def RU (F : D) (cs : List Nat) (wn sg : Nat) : D := .ins 6 [F, .lst ((IC cs).map D.int), .int wn, .int sg]
theorem number_ok (n : Nat) (h : n < 100) : g_number_of [.str (dg n)] = .ok (.val (.int ((n : Nat) : Int)) true) := isInt_ok (num_chk n h)
theorem spots_ok (F : D) (cs : List Nat) (wn sg : Nat) : g_Rule_spots [RU F cs wn sg] = .ok (.fre ((IC cs).map D.int) true) := by
  have F0 : G_Rule_spots.fi 6 0 = some 1 := rfl
  simp only [evIsc, ev, evs, evO, evT, evBs, evBv, evI, Cm.run, runs, evB, evC, evEq, evTr, evIx, evSl, evP, evM, evTy, evRng, callR, bindL, bindT, dis, evAny, Out.fin, retE, held, parGo, ok, onB, ownAt, valAt, noX, wipeS, D.isNon, ER.frz, ER.isV, ER.isB, D.flat, D.flats, defD,
    gd_true, gdO_true, RE.bind_ok, RE.bind_bad, RE.out_ok, RE.out_bad, Out.seq_nx, Out.seq_ret, Out.seq_brk, Out.seq_cnt, ER.d_val, ER.d_fre, ER.d_brw, ER.b_val, ER.b_fre, ER.b_brw, List.getElem?_cons_zero, List.getElem?_cons_succ, List.set_cons_zero, List.set_cons_succ, List.map_cons, List.map_nil, List.cons_append, List.nil_append, List.replicate, List.length_cons, List.length_nil,
    List.all_cons, List.all_nil, List.any_cons, List.any_nil, Bool.and_true, Bool.true_and, Bool.and_self, Bool.or_true, Bool.true_or, Bool.false_or, Bool.or_false, Bool.not_true, Bool.not_false, Bool.and_false, Bool.false_and, if_true, if_false, ite_true, ite_false, decide_true, decide_false, decide_eq_true_eq, Bool.false_eq_true, reduceCtorEq, Option.some.injEq, Nat.zero_add, eq_self, ↓reduceIte, RU, g_Rule_spots, i_Rule_spots, F0]
theorem numb_ok (F : D) (cs : List Nat) (wn sg : Nat) : g_Rule_number [RU F cs wn sg] = .ok (.val (.int wn) true) := by
  have F0 : G_Rule_number.fi 6 0 = some 2 := rfl
  simp only [evIsc, ev, evs, evO, evT, evBs, evBv, evI, Cm.run, runs, evB, evC, evEq, evTr, evIx, evSl, evP, evM, evTy, evRng, callR, bindL, bindT, dis, evAny, Out.fin, retE, held, parGo, ok, onB, ownAt, valAt, noX, wipeS, D.isNon, ER.frz, ER.isV, ER.isB, D.flat, D.flats, defD,
    gd_true, gdO_true, RE.bind_ok, RE.bind_bad, RE.out_ok, RE.out_bad, Out.seq_nx, Out.seq_ret, Out.seq_brk, Out.seq_cnt, ER.d_val, ER.d_fre, ER.d_brw, ER.b_val, ER.b_fre, ER.b_brw, List.getElem?_cons_zero, List.getElem?_cons_succ, List.set_cons_zero, List.set_cons_succ, List.map_cons, List.map_nil, List.cons_append, List.nil_append, List.replicate, List.length_cons, List.length_nil,
    List.all_cons, List.all_nil, List.any_cons, List.any_nil, Bool.and_true, Bool.true_and, Bool.and_self, Bool.or_true, Bool.true_or, Bool.false_or, Bool.or_false, Bool.not_true, Bool.not_false, Bool.and_false, Bool.false_and, if_true, if_false, ite_true, ite_false, decide_true, decide_false, decide_eq_true_eq, Bool.false_eq_true, reduceCtorEq, Option.some.injEq, Nat.zero_add, eq_self, ↓reduceIte, RU, g_Rule_number, i_Rule_number, F0]
theorem sign_ok (F : D) (cs : List Nat) (wn sg : Nat) : g_Rule_sign [RU F cs wn sg] = .ok (.val (.int sg) true) := by
  have F0 : G_Rule_sign.fi 6 0 = some 3 := rfl
  simp only [evIsc, ev, evs, evO, evT, evBs, evBv, evI, Cm.run, runs, evB, evC, evEq, evTr, evIx, evSl, evP, evM, evTy, evRng, callR, bindL, bindT, dis, evAny, Out.fin, retE, held, parGo, ok, onB, ownAt, valAt, noX, wipeS, D.isNon, ER.frz, ER.isV, ER.isB, D.flat, D.flats, defD,
    gd_true, gdO_true, RE.bind_ok, RE.bind_bad, RE.out_ok, RE.out_bad, Out.seq_nx, Out.seq_ret, Out.seq_brk, Out.seq_cnt, ER.d_val, ER.d_fre, ER.d_brw, ER.b_val, ER.b_fre, ER.b_brw, List.getElem?_cons_zero, List.getElem?_cons_succ, List.set_cons_zero, List.set_cons_succ, List.map_cons, List.map_nil, List.cons_append, List.nil_append, List.replicate, List.length_cons, List.length_nil,
    List.all_cons, List.all_nil, List.any_cons, List.any_nil, Bool.and_true, Bool.true_and, Bool.and_self, Bool.or_true, Bool.true_or, Bool.false_or, Bool.or_false, Bool.not_true, Bool.not_false, Bool.and_false, Bool.false_and, if_true, if_false, ite_true, ite_false, decide_true, decide_false, decide_eq_true_eq, Bool.false_eq_true, reduceCtorEq, Option.some.injEq, Nat.zero_add, eq_self, ↓reduceIte, RU, g_Rule_sign, i_Rule_sign, F0]
theorem name_ok (F : D) (cs : List Nat) (wn sg : Nat) : g_NoSquare_name [RU F cs wn sg] = .ok (.val (.str [110,111,115,113,117,97,114,101]) true) := by
  simp only [evIsc, ev, evs, evO, evT, evBs, evBv, evI, Cm.run, runs, evB, evC, evEq, evTr, evIx, evSl, evP, evM, evTy, evRng, callR, bindL, bindT, dis, evAny, Out.fin, retE, held, parGo, ok, onB, ownAt, valAt, noX, wipeS, D.isNon, ER.frz, ER.isV, ER.isB, D.flat, D.flats, defD,
    gd_true, gdO_true, RE.bind_ok, RE.bind_bad, RE.out_ok, RE.out_bad, Out.seq_nx, Out.seq_ret, Out.seq_brk, Out.seq_cnt, ER.d_val, ER.d_fre, ER.d_brw, ER.b_val, ER.b_fre, ER.b_brw, List.getElem?_cons_zero, List.getElem?_cons_succ, List.set_cons_zero, List.set_cons_succ, List.map_cons, List.map_nil, List.cons_append, List.nil_append, List.replicate, List.length_cons, List.length_nil,
    List.all_cons, List.all_nil, List.any_cons, List.any_nil, Bool.and_true, Bool.true_and, Bool.and_self, Bool.or_true, Bool.true_or, Bool.false_or, Bool.or_false, Bool.not_true, Bool.not_false, Bool.and_false, Bool.false_and, if_true, if_false, ite_true, ite_false, decide_true, decide_false, decide_eq_true_eq, Bool.false_eq_true, reduceCtorEq, Option.some.injEq, Nat.zero_add, eq_self, ↓reduceIte, RU, g_NoSquare_name, i_NoSquare_name]
theorem reck_ok (F : D) (cs : List Nat) (wn sg : Nat) : g_Rule_reckons [RU F cs wn sg] = .ok (.val (.bl false) true) := by
  simp only [evIsc, ev, evs, evO, evT, evBs, evBv, evI, Cm.run, runs, evB, evC, evEq, evTr, evIx, evSl, evP, evM, evTy, evRng, callR, bindL, bindT, dis, evAny, Out.fin, retE, held, parGo, ok, onB, ownAt, valAt, noX, wipeS, D.isNon, ER.frz, ER.isV, ER.isB, D.flat, D.flats, defD,
    gd_true, gdO_true, RE.bind_ok, RE.bind_bad, RE.out_ok, RE.out_bad, Out.seq_nx, Out.seq_ret, Out.seq_brk, Out.seq_cnt, ER.d_val, ER.d_fre, ER.d_brw, ER.b_val, ER.b_fre, ER.b_brw, List.getElem?_cons_zero, List.getElem?_cons_succ, List.set_cons_zero, List.set_cons_succ, List.map_cons, List.map_nil, List.cons_append, List.nil_append, List.replicate, List.length_cons, List.length_nil,
    List.all_cons, List.all_nil, List.any_cons, List.any_nil, Bool.and_true, Bool.true_and, Bool.and_self, Bool.or_true, Bool.true_or, Bool.false_or, Bool.or_false, Bool.not_true, Bool.not_false, Bool.and_false, Bool.false_and, if_true, if_false, ite_true, ite_false, decide_true, decide_false, decide_eq_true_eq, Bool.false_eq_true, reduceCtorEq, Option.some.injEq, Nat.zero_add, eq_self, ↓reduceIte, RU, g_Rule_reckons, i_Rule_reckons]
theorem line_ok (F : D) (cs : List Nat) (wn sg : Nat) (tn : List Nat) (ht : g_NoSquare_told_numbers [RU F cs wn sg] = .ok (.fre ((IC tn).map D.int) true)) (hl : tn.length ≤ 20) (hn : ∀ n ∈ tn, n < 100) :
    g_Rule_line [RU F cs wn sg] = .ok (.val (.str (TL.joinL [32] ([110,111,115,113,117,97,114,101] :: tn.map dg))) true) := by
  have LIMe : LIM = 16777216 := rfl
  have M0 : G_Rule_line.mt 6 0 = some g_NoSquare_name := rfl
  have M1 : G_Rule_line.mt 6 1 = some g_NoSquare_told_numbers := rfl
  refine def_run rfl ?_
  rw [i_Rule_line]
  simp only [List.map_cons, List.map_nil, List.replicate, List.cons_append, List.nil_append]
  have nm := name_ok F cs wn sg
  have lc : ev G_Rule_line (.lc [1] (.any (.mth 1 (.var 0) .nil)) [1] .nil (.pri .str (.cons (.var 1) .nil))) [.val (RU F cs wn sg) (RU F cs wn sg).flat, .non] = .ok (.fre (tn.map fun n => D.str (dg n)) true) := by
    refine ev_lc (xs := tn) (en := fun n => D.int ((n : Nat) : Int)) (h := fun n => .str (dg n)) (b := true) (o := false) ?_ (by omega) fun n hm => ⟨.val (.str (dg n)) true, ?_, rfl, rfl, rfl⟩
    · rw [RU] at ht ⊢
      simp only [evIsc, ev, evs, evO, evT, evBs, evBv, evI, Cm.run, runs, evB, evC, evEq, evTr, evIx, evSl, evP, evM, evTy, evRng, callR, bindL, bindT, dis, evAny, Out.fin, retE, held, parGo, ok, onB, ownAt, valAt, noX, wipeS, D.isNon, ER.frz, ER.isV, ER.isB, D.flat, D.flats, defD,
    gd_true, gdO_true, RE.bind_ok, RE.bind_bad, RE.out_ok, RE.out_bad, Out.seq_nx, Out.seq_ret, Out.seq_brk, Out.seq_cnt, ER.d_val, ER.d_fre, ER.d_brw, ER.b_val, ER.b_fre, ER.b_brw, List.getElem?_cons_zero, List.getElem?_cons_succ, List.set_cons_zero, List.set_cons_succ, List.map_cons, List.map_nil, List.cons_append, List.nil_append, List.replicate, List.length_cons, List.length_nil,
    List.all_cons, List.all_nil, List.any_cons, List.any_nil, Bool.and_true, Bool.true_and, Bool.and_self, Bool.or_true, Bool.true_or, Bool.false_or, Bool.or_false, Bool.not_true, Bool.not_false, Bool.and_false, Bool.false_and, if_true, if_false, ite_true, ite_false, decide_true, decide_false, decide_eq_true_eq, Bool.false_eq_true, reduceCtorEq, Option.some.injEq, Nat.zero_add, eq_self, ↓reduceIte, M1, ht]
      simp only [IC, List.map_map]
      rfl
    · have s1 := dg_str n (hn n hm)
      have s2 := dg_str2 n (hn n hm)
      simp only [evIsc, ev, evs, evO, evT, evBs, evBv, evI, Cm.run, runs, evB, evC, evEq, evTr, evIx, evSl, evP, evM, evTy, evRng, callR, bindL, bindT, dis, evAny, Out.fin, retE, held, parGo, ok, onB, ownAt, valAt, noX, wipeS, D.isNon, ER.frz, ER.isV, ER.isB, D.flat, D.flats, defD,
    gd_true, gdO_true, RE.bind_ok, RE.bind_bad, RE.out_ok, RE.out_bad, Out.seq_nx, Out.seq_ret, Out.seq_brk, Out.seq_cnt, ER.d_val, ER.d_fre, ER.d_brw, ER.b_val, ER.b_fre, ER.b_brw, List.getElem?_cons_zero, List.getElem?_cons_succ, List.set_cons_zero, List.set_cons_succ, List.map_cons, List.map_nil, List.cons_append, List.nil_append, List.replicate, List.length_cons, List.length_nil,
    List.all_cons, List.all_nil, List.any_cons, List.any_nil, Bool.and_true, Bool.true_and, Bool.and_self, Bool.or_true, Bool.true_or, Bool.false_or, Bool.or_false, Bool.not_true, Bool.not_false, Bool.and_false, Bool.false_and, if_true, if_false, ite_true, ite_false, decide_true, decide_false, decide_eq_true_eq, Bool.false_eq_true, reduceCtorEq, Option.some.injEq, Nat.zero_add, eq_self, ↓reduceIte, s2, s1]
  have m0 : ev G_Rule_line (.lst (.cons (.mth 0 (.var 0) .nil) .nil)) [.val (RU F cs wn sg) (RU F cs wn sg).flat, .non] = .ok (.fre [.str [110,111,115,113,117,97,114,101]] true) := by
    rw [RU] at nm ⊢
    simp only [evIsc, ev, evs, evO, evT, evBs, evBv, evI, Cm.run, runs, evB, evC, evEq, evTr, evIx, evSl, evP, evM, evTy, evRng, callR, bindL, bindT, dis, evAny, Out.fin, retE, held, parGo, ok, onB, ownAt, valAt, noX, wipeS, D.isNon, ER.frz, ER.isV, ER.isB, D.flat, D.flats, defD,
    gd_true, gdO_true, RE.bind_ok, RE.bind_bad, RE.out_ok, RE.out_bad, Out.seq_nx, Out.seq_ret, Out.seq_brk, Out.seq_cnt, ER.d_val, ER.d_fre, ER.d_brw, ER.b_val, ER.b_fre, ER.b_brw, List.getElem?_cons_zero, List.getElem?_cons_succ, List.set_cons_zero, List.set_cons_succ, List.map_cons, List.map_nil, List.cons_append, List.nil_append, List.replicate, List.length_cons, List.length_nil,
    List.all_cons, List.all_nil, List.any_cons, List.any_nil, Bool.and_true, Bool.true_and, Bool.and_self, Bool.or_true, Bool.true_or, Bool.false_or, Bool.or_false, Bool.not_true, Bool.not_false, Bool.and_false, Bool.false_and, if_true, if_false, ite_true, ite_false, decide_true, decide_false, decide_eq_true_eq, Bool.false_eq_true, reduceCtorEq, Option.some.injEq, Nat.zero_add, eq_self, ↓reduceIte, M0, nm]
  have l1 : leB (([D.str [110,111,115,113,117,97,114,101]] : List D).length + (tn.map fun n => D.str (dg n)).length) = true := le_t (by simp; omega)
  have e1 : [D.str [110,111,115,113,117,97,114,101]] ++ (tn.map fun n => D.str (dg n)) = ([110,111,115,113,117,97,114,101] :: tn.map dg).map D.str := by simp
  have ad : ev G_Rule_line (.bin .add (.lst (.cons (.mth 0 (.var 0) .nil) .nil)) (.lc [1] (.any (.mth 1 (.var 0) .nil)) [1] .nil (.pri .str (.cons (.var 1) .nil)))) [.val (RU F cs wn sg) (RU F cs wn sg).flat, .non] = .ok (.fre (([110,111,115,113,117,97,114,101] :: tn.map dg).map D.str) true) := by
    rw [ev, m0, lc]
    simp only [RE.bind_ok, ER.d_fre, evB, l1, gd_true, ER.b_fre, Bool.and_self]
    rw [e1]
  have l2 : leB ((([110,111,115,113,117,97,114,101] :: tn.map dg).map List.length).sum + ([110,111,115,113,117,97,114,101] :: tn.map dg).length * ([32] : List Nat).length) = true := by
    refine le_t ?_
    have h1 : ∀ w ∈ ([110,111,115,113,117,97,114,101] :: tn.map dg), w.length ≤ 8 := by
      intro w hw
      rcases List.mem_cons.mp hw with e | e
      · rw [e]; decide
      · obtain ⟨n, hm, rfl⟩ := List.mem_map.mp e
        have := (dg_len n (hn n hm)).1
        omega
    have h2 := sum_le h1
    simp only [List.length_cons, List.length_map, List.length_nil] at h2 ⊢
    omega
  have jo := join_ok 32 ([110,111,115,113,117,97,114,101] :: tn.map dg)
  rw [st_ret (x := .val (.str (TL.joinL [32] ([110,111,115,113,117,97,114,101] :: tn.map dg))) true) (by
    rw [ev, ad]
    simp only [ev, ok, RE.bind_ok, ER.d_val, ER.d_fre, evM, strsD_map, l2, gd_true, jo])]
  rfl
end K16

set_option Elab.async false
set_option linter.all false
set_option maxRecDepth 100000
set_option maxHeartbeats 0
namespace K16
open Cm
theorem whole_ok (n : Int) : g__law_whole [.int n] = .ok (.val (.bl true) true) := rfl
theorem told_ok (F : D) (cs : List Nat) (wn sg : Nat) (tn : List Nat) (hc : cs.length ≤ 100) (ht : g_NoSquare_told_numbers [RU F cs wn sg] = .ok (.fre ((IC tn).map D.int) true)) (hl : tn.length ≤ 20) (hn : ∀ n ∈ tn, n < 100) :
    g__law_told [RU F cs wn sg, .str [110,111,115,113,117,97,114,101], .lst ((IC cs).map D.int), .int wn, .int sg, .bl false, .str (TL.joinL [32] ([110,111,115,113,117,97,114,101] :: tn.map dg))] = .ok (.val (.bl true) true) := by
  have sp := spots_ok F cs wn sg
  have nu := numb_ok F cs wn sg
  have si := sign_ok F cs wn sg
  have na := name_ok F cs wn sg
  have re := reck_ok F cs wn sg
  have li := line_ok F cs wn sg tn ht hl hn
  have e1 : evEq (.lst ((IC cs).map D.int)) (.lst ((IC cs).map D.int)) = .ok true := by rw [eq_ints]; simp
  have e2 : ∀ s : List Nat, evEq (.str s) (.str s) = .ok true := fun s => by simp [evEq]
  have e3 : ∀ i : Int, evEq (.int i) (.int i) = .ok true := fun i => by simp [evEq]
  have e4 : ∀ b : Bool, evEq (.bl b) (.bl b) = .ok true := fun b => by cases b <;> rfl
  generalize TL.joinL [32] ([110,111,115,113,117,97,114,101] :: tn.map dg) = L at li ⊢
  have wn1 := whole_ok wn
  have sg1 := whole_ok sg
  have LIMe : LIM = 16777216 := rfl
  have M0 : G__law_told.mt 6 0 = some g_Rule_spots := rfl
  have M1 : G__law_told.mt 6 1 = some g_Rule_line := rfl
  have M2 : G__law_told.mt 6 2 = some g_Rule_reckons := rfl
  have M3 : G__law_told.mt 6 3 = some g_Rule_sign := rfl
  have M4 : G__law_told.mt 6 4 = some g_Rule_number := rfl
  have M5 : G__law_told.mt 6 5 = some g_NoSquare_name := rfl
  have F0 : G__law_told.fn[0]? = some (("_law_whole" : PySem.Str), g__law_whole) := rfl
  refine def_run rfl ?_
  rw [i__law_told]
  rw [RU] at *
  simp only [List.map_cons, List.map_nil, List.replicate, List.cons_append, List.nil_append, D.flat]
  rw [st_own (ds := (IC cs).map D.int) (f := true) (by simp only [evIsc, ev, evs, evO, evT, evBs, evBv, evI, Cm.run, runs, evB, evC, evTr, evIx, evSl, evP, evM, evTy, evRng, callR, bindL, bindT, dis, evAny, Out.fin, retE, held, parGo, ok, onB, ownAt, valAt, noX, wipeS, D.isNon, ER.frz, ER.isV, ER.isB, D.flat, D.flats, defD,
    gd_true, gdO_true, RE.bind_ok, RE.bind_bad, RE.out_ok, RE.out_bad, Out.seq_nx, Out.seq_ret, Out.seq_brk, Out.seq_cnt, ER.d_val, ER.d_fre, ER.d_brw, ER.b_val, ER.b_fre, ER.b_brw, List.getElem?_cons_zero, List.getElem?_cons_succ, List.set_cons_zero, List.set_cons_succ, List.map_cons, List.map_nil, List.cons_append, List.nil_append, List.replicate, List.length_cons, List.length_nil,
    List.all_cons, List.all_nil, List.any_cons, List.any_nil, Bool.and_true, Bool.true_and, Bool.and_self, Bool.or_true, Bool.true_or, Bool.false_or, Bool.or_false, Bool.not_true, Bool.not_false, Bool.and_false, Bool.false_and, if_true, if_false, ite_true, ite_false, decide_true, decide_false, decide_eq_true_eq, Bool.false_eq_true, reduceCtorEq, Option.some.injEq, Nat.zero_add, eq_self, ↓reduceIte, M0, M1, M2, M3, M4, M5, F0, sp])]
  simp only [List.set_cons_zero, List.set_cons_succ]
  rw [st_ifF (by simp only [evIsc, ev, evs, evO, evT, evBs, evBv, evI, Cm.run, runs, evB, evC, evTr, evIx, evSl, evP, evM, evTy, evRng, callR, bindL, bindT, dis, evAny, Out.fin, retE, held, parGo, ok, onB, ownAt, valAt, noX, wipeS, D.isNon, ER.frz, ER.isV, ER.isB, D.flat, D.flats, defD,
    gd_true, gdO_true, RE.bind_ok, RE.bind_bad, RE.out_ok, RE.out_bad, Out.seq_nx, Out.seq_ret, Out.seq_brk, Out.seq_cnt, ER.d_val, ER.d_fre, ER.d_brw, ER.b_val, ER.b_fre, ER.b_brw, List.getElem?_cons_zero, List.getElem?_cons_succ, List.set_cons_zero, List.set_cons_succ, List.map_cons, List.map_nil, List.cons_append, List.nil_append, List.replicate, List.length_cons, List.length_nil,
    List.all_cons, List.all_nil, List.any_cons, List.any_nil, Bool.and_true, Bool.true_and, Bool.and_self, Bool.or_true, Bool.true_or, Bool.false_or, Bool.or_false, Bool.not_true, Bool.not_false, Bool.and_false, Bool.false_and, if_true, if_false, ite_true, ite_false, decide_true, decide_false, decide_eq_true_eq, Bool.false_eq_true, reduceCtorEq, Option.some.injEq, Nat.zero_add, eq_self, ↓reduceIte, M0, M1, M2, M3, M4, M5, F0, e1, na, e2]), st_nil, Out.seq_nx]
  rw [st_ifF (by simp only [evIsc, ev, evs, evO, evT, evBs, evBv, evI, Cm.run, runs, evB, evC, evTr, evIx, evSl, evP, evM, evTy, evRng, callR, bindL, bindT, dis, evAny, Out.fin, retE, held, parGo, ok, onB, ownAt, valAt, noX, wipeS, D.isNon, ER.frz, ER.isV, ER.isB, D.flat, D.flats, defD,
    gd_true, gdO_true, RE.bind_ok, RE.bind_bad, RE.out_ok, RE.out_bad, Out.seq_nx, Out.seq_ret, Out.seq_brk, Out.seq_cnt, ER.d_val, ER.d_fre, ER.d_brw, ER.b_val, ER.b_fre, ER.b_brw, List.getElem?_cons_zero, List.getElem?_cons_succ, List.set_cons_zero, List.set_cons_succ, List.map_cons, List.map_nil, List.cons_append, List.nil_append, List.replicate, List.length_cons, List.length_nil,
    List.all_cons, List.all_nil, List.any_cons, List.any_nil, Bool.and_true, Bool.true_and, Bool.and_self, Bool.or_true, Bool.true_or, Bool.false_or, Bool.or_false, Bool.not_true, Bool.not_false, Bool.and_false, Bool.false_and, if_true, if_false, ite_true, ite_false, decide_true, decide_false, decide_eq_true_eq, Bool.false_eq_true, reduceCtorEq, Option.some.injEq, Nat.zero_add, eq_self, ↓reduceIte, M0, M1, M2, M3, M4, M5, F0, nu, wn1, e3]), st_nil, Out.seq_nx]
  rw [st_ifF (by simp only [evIsc, ev, evs, evO, evT, evBs, evBv, evI, Cm.run, runs, evB, evC, evTr, evIx, evSl, evP, evM, evTy, evRng, callR, bindL, bindT, dis, evAny, Out.fin, retE, held, parGo, ok, onB, ownAt, valAt, noX, wipeS, D.isNon, ER.frz, ER.isV, ER.isB, D.flat, D.flats, defD,
    gd_true, gdO_true, RE.bind_ok, RE.bind_bad, RE.out_ok, RE.out_bad, Out.seq_nx, Out.seq_ret, Out.seq_brk, Out.seq_cnt, ER.d_val, ER.d_fre, ER.d_brw, ER.b_val, ER.b_fre, ER.b_brw, List.getElem?_cons_zero, List.getElem?_cons_succ, List.set_cons_zero, List.set_cons_succ, List.map_cons, List.map_nil, List.cons_append, List.nil_append, List.replicate, List.length_cons, List.length_nil,
    List.all_cons, List.all_nil, List.any_cons, List.any_nil, Bool.and_true, Bool.true_and, Bool.and_self, Bool.or_true, Bool.true_or, Bool.false_or, Bool.or_false, Bool.not_true, Bool.not_false, Bool.and_false, Bool.false_and, if_true, if_false, ite_true, ite_false, decide_true, decide_false, decide_eq_true_eq, Bool.false_eq_true, reduceCtorEq, Option.some.injEq, Nat.zero_add, eq_self, ↓reduceIte, M0, M1, M2, M3, M4, M5, F0, si, sg1, e3]), st_nil, Out.seq_nx]
  rw [st_ifF (by simp only [evIsc, ev, evs, evO, evT, evBs, evBv, evI, Cm.run, runs, evB, evC, evTr, evIx, evSl, evP, evM, evTy, evRng, callR, bindL, bindT, dis, evAny, Out.fin, retE, held, parGo, ok, onB, ownAt, valAt, noX, wipeS, D.isNon, ER.frz, ER.isV, ER.isB, D.flat, D.flats, defD,
    gd_true, gdO_true, RE.bind_ok, RE.bind_bad, RE.out_ok, RE.out_bad, Out.seq_nx, Out.seq_ret, Out.seq_brk, Out.seq_cnt, ER.d_val, ER.d_fre, ER.d_brw, ER.b_val, ER.b_fre, ER.b_brw, List.getElem?_cons_zero, List.getElem?_cons_succ, List.set_cons_zero, List.set_cons_succ, List.map_cons, List.map_nil, List.cons_append, List.nil_append, List.replicate, List.length_cons, List.length_nil,
    List.all_cons, List.all_nil, List.any_cons, List.any_nil, Bool.and_true, Bool.true_and, Bool.and_self, Bool.or_true, Bool.true_or, Bool.false_or, Bool.or_false, Bool.not_true, Bool.not_false, Bool.and_false, Bool.false_and, if_true, if_false, ite_true, ite_false, decide_true, decide_false, decide_eq_true_eq, Bool.false_eq_true, reduceCtorEq, Option.some.injEq, Nat.zero_add, eq_self, ↓reduceIte, M0, M1, M2, M3, M4, M5, F0, re, e4]), st_nil, Out.seq_nx]
  rw [st_app (d := .int 0) (f := true) (ds := (IC cs).map D.int) (c := true) rfl (by simp only [evIsc, ev, evs, evO, evT, evBs, evBv, evI, Cm.run, runs, evB, evC, evTr, evIx, evSl, evP, evM, evTy, evRng, callR, bindL, bindT, dis, evAny, Out.fin, retE, held, parGo, ok, onB, ownAt, valAt, noX, wipeS, D.isNon, ER.frz, ER.isV, ER.isB, D.flat, D.flats, defD,
    gd_true, gdO_true, RE.bind_ok, RE.bind_bad, RE.out_ok, RE.out_bad, Out.seq_nx, Out.seq_ret, Out.seq_brk, Out.seq_cnt, ER.d_val, ER.d_fre, ER.d_brw, ER.b_val, ER.b_fre, ER.b_brw, List.getElem?_cons_zero, List.getElem?_cons_succ, List.set_cons_zero, List.set_cons_succ, List.map_cons, List.map_nil, List.cons_append, List.nil_append, List.replicate, List.length_cons, List.length_nil,
    List.all_cons, List.all_nil, List.any_cons, List.any_nil, Bool.and_true, Bool.true_and, Bool.and_self, Bool.or_true, Bool.true_or, Bool.false_or, Bool.or_false, Bool.not_true, Bool.not_false, Bool.and_false, Bool.false_and, if_true, if_false, ite_true, ite_false, decide_true, decide_false, decide_eq_true_eq, Bool.false_eq_true, reduceCtorEq, Option.some.injEq, Nat.zero_add, eq_self, ↓reduceIte]) (by rw [IC_len]; omega)]
  simp only [List.set_cons_zero, List.set_cons_succ]
  rw [st_ret (x := .val (.bl true) true) (by simp only [evIsc, ev, evs, evO, evT, evBs, evBv, evI, Cm.run, runs, evB, evC, evTr, evIx, evSl, evP, evM, evTy, evRng, callR, bindL, bindT, dis, evAny, Out.fin, retE, held, parGo, ok, onB, ownAt, valAt, noX, wipeS, D.isNon, ER.frz, ER.isV, ER.isB, D.flat, D.flats, defD,
    gd_true, gdO_true, RE.bind_ok, RE.bind_bad, RE.out_ok, RE.out_bad, Out.seq_nx, Out.seq_ret, Out.seq_brk, Out.seq_cnt, ER.d_val, ER.d_fre, ER.d_brw, ER.b_val, ER.b_fre, ER.b_brw, List.getElem?_cons_zero, List.getElem?_cons_succ, List.set_cons_zero, List.set_cons_succ, List.map_cons, List.map_nil, List.cons_append, List.nil_append, List.replicate, List.length_cons, List.length_nil,
    List.all_cons, List.all_nil, List.any_cons, List.any_nil, Bool.and_true, Bool.true_and, Bool.and_self, Bool.or_true, Bool.true_or, Bool.false_or, Bool.or_false, Bool.not_true, Bool.not_false, Bool.and_false, Bool.false_and, if_true, if_false, ite_true, ite_false, decide_true, decide_false, decide_eq_true_eq, Bool.false_eq_true, reduceCtorEq, Option.some.injEq, Nat.zero_add, eq_self, ↓reduceIte, M0, M1, M2, M3, M4, M5, F0, sp, e1, li, e2])]
  rfl
end K16

set_option Elab.async false
set_option linter.all false
set_option maxRecDepth 100000
set_option maxHeartbeats 0
namespace K16
open Cm
theorem cut1 {α : Type} (x : α) (xs : List α) : cutD (x :: xs) (some 1) none = xs := by
  have h1 : HT.sIx (x :: xs).length 0 (some 1) = 1 := by simp [HT.sIx]
  have h2 : HT.sIx (x :: xs).length (x :: xs).length none = xs.length + 1 := by simp [HT.sIx]
  unfold cutD
  rw [h1, h2]
  simp
theorem dist_le : ∀ {n : Nat} {cs : List Nat}, cs.Nodup → (∀ c ∈ cs, c < n) → cs.length ≤ n
  | 0, [], _, _ => Nat.le_refl _
  | 0, c :: cs, _, h => absurd (h c (by simp)) (Nat.not_lt_zero _)
  | n + 1, cs, hn, h => by
    have ih := dist_le (n := n) (cs := cs.erase n) (hn.erase n) fun c hc => by
      have h1 := (List.Nodup.mem_erase_iff hn).mp hc
      have := h c h1.2
      have := h1.1
      omega
    by_cases hm : n ∈ cs
    · have := List.length_erase_of_mem hm
      omega
    · rw [List.erase_of_not_mem hm] at ih
      omega
theorem max_lt : ∀ {ns : List Int} {b : Int}, ns ≠ [] → (∀ n ∈ ns, n < b) → maxL ns < b
  | [], _, h, _ => absurd rfl h
  | [x], b, _, h => h x (by simp)
  | x :: y :: r, b, _, h => by
    have h1 := h x (by simp)
    have h2 := max_lt (ns := y :: r) (b := b) (by simp) fun n hn => h n (List.mem_cons_of_mem _ hn)
    show max x (maxL (y :: r)) < b
    omega
theorem IC_nodup {cs : List Nat} (h : cs.Nodup) : (IC cs).Nodup := List.Pairwise.map _ (fun a b hab e => hab (by omega)) h
theorem many_ok (h w s : Nat) (h1 : h ≤ 100) : g_many_cells [.tup [.int h, .int w, .int s]] = .ok (.val (.int (h * w : Nat)) true) := by
  have : mulB (h : Int) w = true := mul_t (.inl ⟨by omega, by omega⟩)
  have e0 : L2.atI [D.int h, .int w, .int s] 0 = some (.int h) := rfl
  have e1 : L2.atI [D.int h, .int w, .int s] 1 = some (.int w) := rfl
  simp only [evIsc, ev, evs, evO, evT, evBs, evBv, evI, Cm.run, runs, evB, evC, evEq, evTr, evIx, evSl, evP, evM, evTy, evRng, callR, bindL, bindT, dis, evAny, Out.fin, retE, held, parGo, ok, onB, ownAt, valAt, noX, wipeS, D.isNon, ER.frz, ER.isV, ER.isB, D.flat, D.flats, defD,
    gd_true, gdO_true, RE.bind_ok, RE.bind_bad, RE.out_ok, RE.out_bad, Out.seq_nx, Out.seq_ret, Out.seq_brk, Out.seq_cnt, ER.d_val, ER.d_fre, ER.d_brw, ER.b_val, ER.b_fre, ER.b_brw, List.getElem?_cons_zero, List.getElem?_cons_succ, List.set_cons_zero, List.set_cons_succ, List.map_cons, List.map_nil, List.cons_append, List.nil_append, List.replicate, List.length_cons, List.length_nil,
    List.all_cons, List.all_nil, List.any_cons, List.any_nil, Bool.and_true, Bool.true_and, Bool.and_self, Bool.or_true, Bool.true_or, Bool.false_or, Bool.or_false, Bool.not_true, Bool.not_false, Bool.and_false, Bool.false_and, if_true, if_false, ite_true, ite_false, decide_true, decide_false, decide_eq_true_eq, Bool.false_eq_true, reduceCtorEq, Option.some.injEq, Nat.zero_add, eq_self, ↓reduceIte, g_many_cells, i_many_cells, this, e0, e1, Int.natCast_mul]
theorem ctold_ok (h w s : Nat) (h1 : h ≤ 100) (hw : h * w ≤ 16) (cs : List Nat) (hne : cs ≠ []) (hd : cs.Nodup) (hc : ∀ c ∈ cs, c < h * w) (b : Bool) :
    g_cells_told [.tup [.int h, .int w, .int s], .lst ((IC cs).map D.int)] = .ok (.val (.lst ((IC cs).map D.int)) false) := by
  have cl := dist_le hd hc
  have mo := many_ok h w s h1
  have e1 : evEq (.lst ((IC cs).map D.int)) (.lst []) = .ok false := by
    have := eq_ints (IC cs) []
    rw [List.map_nil] at this
    rw [this]
    have : IC cs ≠ [] := by simpa [IC] using hne
    simp [this]
  have i1 := intsD_map (IC cs)
  have len : (IC cs).length = cs.length := by simp [IC]
  have c1 : cntI (IC cs) = (IC cs).length := cnt_nodup (IC_nodup hd)
  have b1 : Nat.ble (IC cs).length 1000 = true := by rw [Nat.ble_eq]; omega
  have e2 : evEq (.int ((IC cs).length : Nat)) (.int ((IC cs).length : Nat)) = .ok true := by simp [evEq]
  obtain ⟨n0, nr, hI⟩ : ∃ n0 nr, IC cs = n0 :: nr := List.exists_cons_of_ne_nil (by simpa [IC] using hne)
  have mx : ((h * w : Nat) : Int) ≤ maxL (n0 :: nr) ↔ False := by
    rw [← hI]
    have := max_lt (ns := IC cs) (b := ((h * w : Nat) : Int)) (by simpa [IC] using hne) fun n hn => by
      obtain ⟨c, hc', rfl⟩ := List.mem_map.mp hn
      have := hc c hc'
      omega
    simp only [iff_false]
    omega
  have hl : ((IC cs).map D.int).length = (IC cs).length := by simp
  refine def_run rfl ?_
  rw [i_cells_told]
  simp only [List.map_cons, List.map_nil, List.replicate, List.cons_append, List.nil_append, D.flat, D.flats]
  have i2 := i1
  rw [hI] at i2
  rw [st_ifF (by
    simp only [evIsc, ev, evs, evO, evT, evBs, evBv, evI, Cm.run, runs, evB, evC, evTr, evIx, evSl, evP, evM, evTy, evRng, callR, bindL, bindT, dis, evAny, Out.fin, retE, held, parGo, ok, onB, ownAt, valAt, noX, wipeS, D.isNon, ER.frz, ER.isV, ER.isB, D.flat, D.flats, defD,
    gd_true, gdO_true, RE.bind_ok, RE.bind_bad, RE.out_ok, RE.out_bad, Out.seq_nx, Out.seq_ret, Out.seq_brk, Out.seq_cnt, ER.d_val, ER.d_fre, ER.d_brw, ER.b_val, ER.b_fre, ER.b_brw, List.getElem?_cons_zero, List.getElem?_cons_succ, List.set_cons_zero, List.set_cons_succ, List.map_cons, List.map_nil, List.cons_append, List.nil_append, List.replicate, List.length_cons, List.length_nil,
    List.all_cons, List.all_nil, List.any_cons, List.any_nil, Bool.and_true, Bool.true_and, Bool.and_self, Bool.or_true, Bool.true_or, Bool.false_or, Bool.or_false, Bool.not_true, Bool.not_false, Bool.and_false, Bool.false_and, if_true, if_false, ite_true, ite_false, decide_true, decide_false, decide_eq_true_eq, Bool.false_eq_true, reduceCtorEq, Option.some.injEq, Nat.zero_add, eq_self, ↓reduceIte, G_cells_told, e1, evLset, i1, b1, c1, hl, e2]
    rw [hI]
    simp only [evIsc, ev, evs, evO, evT, evBs, evBv, evI, Cm.run, runs, evB, evC, evTr, evIx, evSl, evP, evM, evTy, evRng, callR, bindL, bindT, dis, evAny, Out.fin, retE, held, parGo, ok, onB, ownAt, valAt, noX, wipeS, D.isNon, ER.frz, ER.isV, ER.isB, D.flat, D.flats, defD,
    gd_true, gdO_true, RE.bind_ok, RE.bind_bad, RE.out_ok, RE.out_bad, Out.seq_nx, Out.seq_ret, Out.seq_brk, Out.seq_cnt, ER.d_val, ER.d_fre, ER.d_brw, ER.b_val, ER.b_fre, ER.b_brw, List.getElem?_cons_zero, List.getElem?_cons_succ, List.set_cons_zero, List.set_cons_succ, List.map_cons, List.map_nil, List.cons_append, List.nil_append, List.replicate, List.length_cons, List.length_nil,
    List.all_cons, List.all_nil, List.any_cons, List.any_nil, Bool.and_true, Bool.true_and, Bool.and_self, Bool.or_true, Bool.true_or, Bool.false_or, Bool.or_false, Bool.not_true, Bool.not_false, Bool.and_false, Bool.false_and, if_true, if_false, ite_true, ite_false, decide_true, decide_false, decide_eq_true_eq, Bool.false_eq_true, reduceCtorEq, Option.some.injEq, Nat.zero_add, eq_self, ↓reduceIte, G_cells_told, i2, mo, mx]), st_nil, Out.seq_nx]
  rw [st_ret (x := .val (.lst ((IC cs).map D.int)) false) (by simp only [evIsc, ev, evs, evO, evT, evBs, evBv, evI, Cm.run, runs, evB, evC, evEq, evTr, evIx, evSl, evP, evM, evTy, evRng, callR, bindL, bindT, dis, evAny, Out.fin, retE, held, parGo, ok, onB, ownAt, valAt, noX, wipeS, D.isNon, ER.frz, ER.isV, ER.isB, D.flat, D.flats, defD,
    gd_true, gdO_true, RE.bind_ok, RE.bind_bad, RE.out_ok, RE.out_bad, Out.seq_nx, Out.seq_ret, Out.seq_brk, Out.seq_cnt, ER.d_val, ER.d_fre, ER.d_brw, ER.b_val, ER.b_fre, ER.b_brw, List.getElem?_cons_zero, List.getElem?_cons_succ, List.set_cons_zero, List.set_cons_succ, List.map_cons, List.map_nil, List.cons_append, List.nil_append, List.replicate, List.length_cons, List.length_nil,
    List.all_cons, List.all_nil, List.any_cons, List.any_nil, Bool.and_true, Bool.true_and, Bool.and_self, Bool.or_true, Bool.true_or, Bool.false_or, Bool.or_false, Bool.not_true, Bool.not_false, Bool.and_false, Bool.false_and, if_true, if_false, ite_true, ite_false, decide_true, decide_false, decide_eq_true_eq, Bool.false_eq_true, reduceCtorEq, Option.some.injEq, Nat.zero_add, eq_self, ↓reduceIte])]
  rfl
theorem ini_ok (F : D) (hf : F.flat = true) (cs : List Nat) (wn sg : Nat) : ini_NoSquare [F, .lst ((IC cs).map D.int), .int wn, .int sg] = .ok [F, .lst ((IC cs).map D.int), .int wn, .int sg] := by
  have F0 : G_Rule___init__.fi 6 0 = some 3 := rfl
  have F1 : G_Rule___init__.fi 6 1 = some 2 := rfl
  have F2 : G_Rule___init__.fi 6 2 = some 1 := rfl
  have F3 : G_Rule___init__.fi 6 3 = some 0 := rfl
  have k0 : Nat.ble 0 900 = true := rfl
  have k1 : Nat.ble 1 900 = true := rfl
  have k2 : Nat.ble 2 900 = true := rfl
  have k3 : Nat.ble 3 900 = true := rfl
  have fl := ints_flat (IC cs)
  unfold ini_NoSquare iniD
  rw [if_pos (show ([F, .lst ((IC cs).map D.int), .int wn, .int sg] : List D).length = 4 from rfl), i_Rule___init__]
  simp only [evIsc, ev, evs, evO, evT, evBs, evBv, evI, Cm.run, runs, evB, evC, evEq, evTr, evIx, evSl, evP, evM, evTy, evRng, callR, bindL, bindT, dis, evAny, Out.fin, retE, held, parGo, ok, onB, ownAt, valAt, noX, wipeS, D.isNon, ER.frz, ER.isV, ER.isB, D.flat, D.flats, defD,
    gd_true, gdO_true, RE.bind_ok, RE.bind_bad, RE.out_ok, RE.out_bad, Out.seq_nx, Out.seq_ret, Out.seq_brk, Out.seq_cnt, ER.d_val, ER.d_fre, ER.d_brw, ER.b_val, ER.b_fre, ER.b_brw, List.getElem?_cons_zero, List.getElem?_cons_succ, List.set_cons_zero, List.set_cons_succ, List.map_cons, List.map_nil, List.cons_append, List.nil_append, List.replicate, List.length_cons, List.length_nil,
    List.all_cons, List.all_nil, List.any_cons, List.any_nil, Bool.and_true, Bool.true_and, Bool.and_self, Bool.or_true, Bool.true_or, Bool.false_or, Bool.or_false, Bool.not_true, Bool.not_false, Bool.and_false, Bool.false_and, if_true, if_false, ite_true, ite_false, decide_true, decide_false, decide_eq_true_eq, Bool.false_eq_true, reduceCtorEq, Option.some.injEq, Nat.zero_add, eq_self, ↓reduceIte, heldF, slfAt, noSlf, F0, F1, F2, F3, k0, k1, k2, k3, hf, fl, gdO_true]
/-- a row's words and numbers -/
theorem read_pre (F : D) (tn : List Nat) (hl : tn.length ≤ 20) (hn : ∀ n ∈ tn, n < 100) (f : Bool) :
    runs G_read_rule i_read_rule [.val F f, .val (.str (TL.joinL [32] ([110,111,115,113,117,97,114,101] :: tn.map dg))) true, .non, .non, .non, .non, .non, .non] =
      runs G_read_rule i_read_rule.tl.tl.tl.tl.tl [.val F f, .val (.str (TL.joinL [32] ([110,111,115,113,117,97,114,101] :: tn.map dg))) true, .val (.lst (([110,111,115,113,117,97,114,101] :: tn.map dg).map D.str)) true, .val (.str [110,111,115,113,117,97,114,101]) true, .val (.lst ((IC tn).map D.int)) true, .non, .non, .non] := by
  have LIMe : LIM = 16777216 := rfl
  have h1 : ∀ w ∈ ([110,111,115,113,117,97,114,101] :: tn.map dg), w.length ≤ 8 := by
    intro w hw
    rcases List.mem_cons.mp hw with e | e
    · rw [e]; decide
    · obtain ⟨n, hm, rfl⟩ := List.mem_map.mp e
      have := (dg_len n (hn n hm)).1
      omega
  have h2 := sum_le h1
  have h3 := joinL_len 32 ([110,111,115,113,117,97,114,101] :: tn.map dg)
  have sp := split_ok 32 ([110,111,115,113,117,97,114,101] :: tn.map dg) (by decide) (by simp) (by
    intro w hw
    rcases List.mem_cons.mp hw with e | e
    · rw [e]; decide
    · obtain ⟨n, hm, rfl⟩ := List.mem_map.mp e
      exact dg_free n (hn n hm))
  have sb : splB ([32] : List Nat).length (TL.joinL [32] ([110,111,115,113,117,97,114,101] :: tn.map dg)).length = true := by
    rw [splB_iff]
    refine ⟨by decide, ?_⟩
    simp only [List.length_cons, List.length_map] at h2 h3 ⊢
    omega
  generalize TL.joinL [32] ([110,111,115,113,117,97,114,101] :: tn.map dg) = L at sp sb ⊢
  rw [i_read_rule]
  simp only [Sms.tl]
  rw [st_ifF (by simp only [evIsc, ev, evs, evO, evT, evBs, evBv, evI, Cm.run, runs, evB, evC, evEq, evTr, evIx, evSl, evP, evM, evTy, evRng, callR, bindL, bindT, dis, evAny, Out.fin, retE, held, parGo, ok, onB, ownAt, valAt, noX, wipeS, D.isNon, ER.frz, ER.isV, ER.isB, D.flat, D.flats, defD,
    gd_true, gdO_true, RE.bind_ok, RE.bind_bad, RE.out_ok, RE.out_bad, Out.seq_nx, Out.seq_ret, Out.seq_brk, Out.seq_cnt, ER.d_val, ER.d_fre, ER.d_brw, ER.b_val, ER.b_fre, ER.b_brw, List.getElem?_cons_zero, List.getElem?_cons_succ, List.set_cons_zero, List.set_cons_succ, List.map_cons, List.map_nil, List.cons_append, List.nil_append, List.replicate, List.length_cons, List.length_nil,
    List.all_cons, List.all_nil, List.any_cons, List.any_nil, Bool.and_true, Bool.true_and, Bool.and_self, Bool.or_true, Bool.true_or, Bool.false_or, Bool.or_false, Bool.not_true, Bool.not_false, Bool.and_false, Bool.false_and, if_true, if_false, ite_true, ite_false, decide_true, decide_false, decide_eq_true_eq, Bool.false_eq_true, reduceCtorEq, Option.some.injEq, Nat.zero_add, eq_self, ↓reduceIte]), st_nil, Out.seq_nx]
  rw [st_asgL (ds := ([110,111,115,113,117,97,114,101] :: tn.map dg).map D.str) (f := true) (by
    rw [ev, ev, ev]
    simp only [List.getElem?_cons_zero, List.getElem?_cons_succ, RE.bind_ok, ER.d_val, ok, evM, sb, gd_true, sp])]
  simp only [List.set_cons_zero, List.set_cons_succ]
  have g0 : L2.atI (([110,111,115,113,117,97,114,101] :: tn.map dg).map D.str) 0 = some (.str [110,111,115,113,117,97,114,101]) := L2.atI_nat (j := 0) rfl
  rw [st_asg (d := .str [110,111,115,113,117,97,114,101]) (f := true) (by simp only [ev, RE.bind_ok, List.getElem?_cons_zero, List.getElem?_cons_succ, ER.d_val, ok, evIx, g0, D.flat, Bool.or_true])]
  simp only [List.set_cons_zero, List.set_cons_succ]
  have e8 : evIn (.str [110,111,115,113,117,97,114,101]) (.tup [.str [117, 110, 108, 105, 107, 101], .str [115, 117, 109], .str [114, 105, 115, 105, 110, 103], .str [115, 101, 101, 110], .str [99, 111, 117, 110, 116], .str [106, 111, 105, 110, 101, 100], .str [110, 111, 115, 113, 117, 97, 114, 101], .str [114, 105, 110, 103]]) = .ok true := by kernel_rfl
  rw [st_ifF (by simp only [evIsc, ev, evs, evO, evT, evBs, evBv, evI, Cm.run, runs, evB, evC, evEq, evTr, evIx, evSl, evP, evM, evTy, evRng, callR, bindL, bindT, dis, evAny, Out.fin, retE, held, parGo, ok, onB, ownAt, valAt, noX, wipeS, D.isNon, ER.frz, ER.isV, ER.isB, D.flat, D.flats, defD,
    gd_true, gdO_true, RE.bind_ok, RE.bind_bad, RE.out_ok, RE.out_bad, Out.seq_nx, Out.seq_ret, Out.seq_brk, Out.seq_cnt, ER.d_val, ER.d_fre, ER.d_brw, ER.b_val, ER.b_fre, ER.b_brw, List.getElem?_cons_zero, List.getElem?_cons_succ, List.set_cons_zero, List.set_cons_succ, List.map_cons, List.map_nil, List.cons_append, List.nil_append, List.replicate, List.length_cons, List.length_nil,
    List.all_cons, List.all_nil, List.any_cons, List.any_nil, Bool.and_true, Bool.true_and, Bool.and_self, Bool.or_true, Bool.true_or, Bool.false_or, Bool.or_false, Bool.not_true, Bool.not_false, Bool.and_false, Bool.false_and, if_true, if_false, ite_true, ite_false, decide_true, decide_false, decide_eq_true_eq, Bool.false_eq_true, reduceCtorEq, Option.some.injEq, Nat.zero_add, eq_self, ↓reduceIte, e8]), st_nil, Out.seq_nx]
  have lc : ev G_read_rule (.lc [5] (.any (.slc (.var 2) (.cons (.cint 1) .nil) .nil)) [5] .nil (.call 3 (.cons (.var 5) .nil))) [.val F f, .val (.str L) true, .val (.lst (([110,111,115,113,117,97,114,101] :: tn.map dg).map D.str)) true, .val (.str [110,111,115,113,117,97,114,101]) true, .non, .non, .non, .non] = .ok (.fre ((IC tn).map D.int) true) := by
    rw [IC, List.map_map]
    refine ev_lc (xs := tn) (en := fun n => D.str (dg n)) (h := fun n => D.int ((n : Nat) : Int)) (b := true) (o := false) ?_ (by omega) fun n hm => ⟨.val (.int ((n : Nat) : Int)) true, ?_, rfl, rfl, rfl⟩
    · simp only [evIsc, ev, evs, evO, evT, evBs, evBv, evI, Cm.run, runs, evB, evC, evEq, evTr, evIx, evSl, evP, evM, evTy, evRng, callR, bindL, bindT, dis, evAny, Out.fin, retE, held, parGo, ok, onB, ownAt, valAt, noX, wipeS, D.isNon, ER.frz, ER.isV, ER.isB, D.flat, D.flats, defD,
    gd_true, gdO_true, RE.bind_ok, RE.bind_bad, RE.out_ok, RE.out_bad, Out.seq_nx, Out.seq_ret, Out.seq_brk, Out.seq_cnt, ER.d_val, ER.d_fre, ER.d_brw, ER.b_val, ER.b_fre, ER.b_brw, List.getElem?_cons_zero, List.getElem?_cons_succ, List.set_cons_zero, List.set_cons_succ, List.map_cons, List.map_nil, List.cons_append, List.nil_append, List.replicate, List.length_cons, List.length_nil,
    List.all_cons, List.all_nil, List.any_cons, List.any_nil, Bool.and_true, Bool.true_and, Bool.and_self, Bool.or_true, Bool.true_or, Bool.false_or, Bool.or_false, Bool.not_true, Bool.not_false, Bool.and_false, Bool.false_and, if_true, if_false, ite_true, ite_false, decide_true, decide_false, decide_eq_true_eq, Bool.false_eq_true, reduceCtorEq, Option.some.injEq, Nat.zero_add, eq_self, ↓reduceIte, cut1, List.map_map]
      rfl
    · have := number_ok n (hn n hm)
      have F3 : G_read_rule.fn[3]? = some (("number_of" : PySem.Str), g_number_of) := rfl
      simp only [evIsc, ev, evs, evO, evT, evBs, evBv, evI, Cm.run, runs, evB, evC, evEq, evTr, evIx, evSl, evP, evM, evTy, evRng, callR, bindL, bindT, dis, evAny, Out.fin, retE, held, parGo, ok, onB, ownAt, valAt, noX, wipeS, D.isNon, ER.frz, ER.isV, ER.isB, D.flat, D.flats, defD,
    gd_true, gdO_true, RE.bind_ok, RE.bind_bad, RE.out_ok, RE.out_bad, Out.seq_nx, Out.seq_ret, Out.seq_brk, Out.seq_cnt, ER.d_val, ER.d_fre, ER.d_brw, ER.b_val, ER.b_fre, ER.b_brw, List.getElem?_cons_zero, List.getElem?_cons_succ, List.set_cons_zero, List.set_cons_succ, List.map_cons, List.map_nil, List.cons_append, List.nil_append, List.replicate, List.length_cons, List.length_nil,
    List.all_cons, List.all_nil, List.any_cons, List.any_nil, Bool.and_true, Bool.true_and, Bool.and_self, Bool.or_true, Bool.true_or, Bool.false_or, Bool.or_false, Bool.not_true, Bool.not_false, Bool.and_false, Bool.false_and, if_true, if_false, ite_true, ite_false, decide_true, decide_false, decide_eq_true_eq, Bool.false_eq_true, reduceCtorEq, Option.some.injEq, Nat.zero_add, eq_self, ↓reduceIte, F3, this]
  rw [st_asgL lc]
  simp only [List.set_cons_zero, List.set_cons_succ]
theorem signtold_ok (h w s : Int) (ns : List Int) (k sg : Nat) (hk : ns[k]? = some (sg : Int)) (s1 : 1 ≤ sg) (s2 : (sg : Int) ≤ s) (j : Int) (hj : j = k) : g_sign_told [.tup [.int h, .int w, .int s], .lst (ns.map D.int), .int j] = .ok (.val (.int sg) true) := by
  subst hj
  refine def_run rfl ?_
  have e := atI_int hk
  have hl : ¬ (((ns.map D.int).length : Nat) : Int) ≤ (k : Nat) := by
    have := (List.getElem?_eq_some_iff.mp hk).1
    rw [List.length_map]
    omega
  have t2 : L2.atI [D.int h, .int w, .int s] 2 = some (.int s) := rfl
  have e1 : (1 : Int) ≤ (sg : Int) := by omega
  rw [i_sign_told]
  simp only [List.map_cons, List.map_nil, List.replicate, List.cons_append, List.nil_append, D.flat]
  rw [st_ifF (by simp only [evIsc, ev, evs, evO, evT, evBs, evBv, evI, Cm.run, runs, evB, evC, evEq, evTr, evIx, evSl, evP, evM, evTy, evRng, callR, bindL, bindT, dis, evAny, Out.fin, retE, held, parGo, ok, onB, ownAt, valAt, noX, wipeS, D.isNon, ER.frz, ER.isV, ER.isB, D.flat, D.flats, defD,
    gd_true, gdO_true, RE.bind_ok, RE.bind_bad, RE.out_ok, RE.out_bad, Out.seq_nx, Out.seq_ret, Out.seq_brk, Out.seq_cnt, ER.d_val, ER.d_fre, ER.d_brw, ER.b_val, ER.b_fre, ER.b_brw, List.getElem?_cons_zero, List.getElem?_cons_succ, List.set_cons_zero, List.set_cons_succ, List.map_cons, List.map_nil, List.cons_append, List.nil_append, List.replicate, List.length_cons, List.length_nil,
    List.all_cons, List.all_nil, List.any_cons, List.any_nil, Bool.and_true, Bool.true_and, Bool.and_self, Bool.or_true, Bool.true_or, Bool.false_or, Bool.or_false, Bool.not_true, Bool.not_false, Bool.and_false, Bool.false_and, if_true, if_false, ite_true, ite_false, decide_true, decide_false, decide_eq_true_eq, Bool.false_eq_true, reduceCtorEq, Option.some.injEq, Nat.zero_add, eq_self, ↓reduceIte, ge_iff_le, hl, e, t2, e1, s2]), st_nil, Out.seq_nx]
  rw [st_ret (x := .val (.int sg) true) (by simp only [evIsc, ev, evs, evO, evT, evBs, evBv, evI, Cm.run, runs, evB, evC, evEq, evTr, evIx, evSl, evP, evM, evTy, evRng, callR, bindL, bindT, dis, evAny, Out.fin, retE, held, parGo, ok, onB, ownAt, valAt, noX, wipeS, D.isNon, ER.frz, ER.isV, ER.isB, D.flat, D.flats, defD,
    gd_true, gdO_true, RE.bind_ok, RE.bind_bad, RE.out_ok, RE.out_bad, Out.seq_nx, Out.seq_ret, Out.seq_brk, Out.seq_cnt, ER.d_val, ER.d_fre, ER.d_brw, ER.b_val, ER.b_fre, ER.b_brw, List.getElem?_cons_zero, List.getElem?_cons_succ, List.set_cons_zero, List.set_cons_succ, List.map_cons, List.map_nil, List.cons_append, List.nil_append, List.replicate, List.length_cons, List.length_nil,
    List.all_cons, List.all_nil, List.any_cons, List.any_nil, Bool.and_true, Bool.true_and, Bool.and_self, Bool.or_true, Bool.true_or, Bool.false_or, Bool.or_false, Bool.not_true, Bool.not_false, Bool.and_false, Bool.false_and, if_true, if_false, ite_true, ite_false, decide_true, decide_false, decide_eq_true_eq, Bool.false_eq_true, reduceCtorEq, Option.some.injEq, Nat.zero_add, eq_self, ↓reduceIte, e, Bool.or_true])]
  rfl
end K16

set_option Elab.async false
set_option linter.all false
set_option maxRecDepth 100000
set_option maxHeartbeats 0
namespace K16
open Cm
theorem other_ok {ns : List Int} (hl : ns.length ≤ 63) (a k sg s : Nat) (ha : a + k < 10000) (s1 : 1 ≤ s) : ∃ v : Int, g__law_other [.lst (ns.map D.int), .int a, .int k, .int sg, .int s] = .ok (.val (.int v) true) := by
  have f0 : G__law_other.fn[0]? = some (("_law_mixed" : PySem.Str), g__law_mixed) := rfl
  have mm := mx_lit hl (a + k) ((a : Int) + k) (by omega) ha
  have d7 : divB 7 = true := rfl
  have nz : nzB (s : Int) = true := nz_t (by omega)
  obtain ⟨q, hq, hq1⟩ : ∃ q : Int, (if (s : Int) - 1 > 1 then (s : Int) - 1 else 1) = q ∧ q ≠ 0 := ⟨_, rfl, by split <;> omega⟩
  have nq : nzB q = true := nz_t hq1
  refine ⟨1 + ((sg : Int) + (((mx ns (a + k) : Nat) : Int).fdiv 7).fmod q).fmod s, def_run rfl ?_⟩
  rw [i__law_other]
  simp only [List.map_cons, List.map_nil, List.replicate, List.cons_append, List.nil_append, D.flat]
  rw [st_ret (x := .val (.int (1 + ((sg : Int) + (((mx ns (a + k) : Nat) : Int).fdiv 7).fmod q).fmod s)) true) (by simp only [evIsc, ev, evs, evO, evT, evBs, evBv, evI, Cm.run, runs, evB, evC, evEq, evTr, evIx, evSl, evP, evM, evTy, evRng, callR, bindL, bindT, dis, evAny, Out.fin, retE, held, parGo, ok, onB, ownAt, valAt, noX, wipeS, D.isNon, ER.frz, ER.isV, ER.isB, D.flat, D.flats, defD,
    gd_true, gdO_true, RE.bind_ok, RE.bind_bad, RE.out_ok, RE.out_bad, Out.seq_nx, Out.seq_ret, Out.seq_brk, Out.seq_cnt, ER.d_val, ER.d_fre, ER.d_brw, ER.b_val, ER.b_fre, ER.b_brw, List.getElem?_cons_zero, List.getElem?_cons_succ, List.set_cons_zero, List.set_cons_succ, List.map_cons, List.map_nil, List.cons_append, List.nil_append, List.replicate, List.length_cons, List.length_nil,
    List.all_cons, List.all_nil, List.any_cons, List.any_nil, Bool.and_true, Bool.true_and, Bool.and_self, Bool.or_true, Bool.true_or, Bool.false_or, Bool.or_false, Bool.not_true, Bool.not_false, Bool.and_false, Bool.false_and, if_true, if_false, ite_true, ite_false, decide_true, decide_false, decide_eq_true_eq, Bool.false_eq_true, reduceCtorEq, Option.some.injEq, Nat.zero_add, eq_self, ↓reduceIte, f0, mm, d7, hq, nq, nz])]
  rfl
theorem filling_ok {ns : List Int} (hl : ns.length ≤ 63) (a : Nat) (j : Int) (hj : j = a) (h w s sg : Nat) (h1 : 1 ≤ h) (h2 : h ≤ 6) (w1 : 1 ≤ w) (hw : h * w ≤ 16) (s1 : 1 ≤ s) (ha : a + 20 < 10000) :
    ∃ fl : List Int, fl.length = h * w ∧ g__law_filling [.lst (ns.map D.int), .int j, .tup [.int h, .int w, .int s], .int sg] = .ok (.fre (fl.map D.int) true) := by
  subst hj
  have LIMe : LIM = 16777216 := rfl
  have f0 : G__law_filling.fn[0]? = some (("_law_mixed" : PySem.Str), g__law_mixed) := rfl
  have f1 : G__law_filling.fn[1]? = some (("_law_other" : PySem.Str), g__law_other) := rfl
  have mm := mx_ok hl a (by omega)
  have hp : 0 < h * w := Nat.mul_pos h1 w1
  have mul : mulB (h : Int) w = true := mul_t (.inl ⟨by omega, by omega⟩)
  have hm : (h : Int) * w = ((h * w : Nat) : Int) := by rw [Int.natCast_mul]
  have r1 : rg1B ((h * w : Nat) : Int) = true := rg1_t (by omega)
  have tn : ((h * w : Nat) : Int).toNat = h * w := Int.toNat_natCast _
  have fx : ∀ k : Nat, ∃ v : Int, k < 17 → g__law_other [.lst (ns.map D.int), .int ((a : Int) + 1), .int k, .int sg, .int s] = .ok (.val (.int v) true) := fun k => by
    by_cases q : k < 17
    · obtain ⟨v, e⟩ := other_ok hl (a + 1) k sg s (by omega) s1
      exact ⟨v, fun _ => e⟩
    · exact ⟨0, fun z => absurd z q⟩
  obtain ⟨ov, hov⟩ := Classical.axiomOfChoice fx
  generalize mx ns a = z at mm
  obtain ⟨ol, hol⟩ : ∃ ol : List Int, ol = (List.range (h * w)).map ov := ⟨_, rfl⟩
  have oll : ol.length = h * w := by rw [hol]; simp
  have lc : ev G__law_filling (.lc [10] (.rng (.cons (.bin .mul (.var 5) (.var 6)) .nil)) [10] .nil (.call 1 (.cons (.var 0) (.cons (.bin .add (.var 1) (.cint 1)) (.cons (.var 10) (.cons (.var 3) (.cons (.var 7) .nil)))))))
      [.val (.lst (ns.map D.int)) false, .val (.int (a : Nat)) true, .val (.tup [.int h, .int w, .int s]) true, .val (.int sg) true, .val (.int (z : Nat)) true, .val (.int h) true, .val (.int w) true, .val (.int s) true, .own [] true, .non, .non, .non, .non, .non, .non, .non] = .ok (.fre (ol.map D.int) true) := by
    rw [hol, List.map_map]
    refine ev_lc (xs := List.range (h * w)) (en := fun k => D.int ((k : Nat) : Int)) (h := fun k => D.int (ov k)) (b := true) (o := false) ?_ (by simp; omega) fun k hk => ⟨.val (.int (ov k)) true, ?_, rfl, rfl, rfl⟩
    · simp only [evIsc, ev, evs, evO, evT, evBs, evBv, evI, Cm.run, runs, evB, evC, evEq, evTr, evIx, evSl, evP, evM, evTy, evRng, callR, bindL, bindT, dis, evAny, Out.fin, retE, held, parGo, ok, onB, ownAt, valAt, noX, wipeS, D.isNon, ER.frz, ER.isV, ER.isB, D.flat, D.flats, defD,
    gd_true, gdO_true, RE.bind_ok, RE.bind_bad, RE.out_ok, RE.out_bad, Out.seq_nx, Out.seq_ret, Out.seq_brk, Out.seq_cnt, ER.d_val, ER.d_fre, ER.d_brw, ER.b_val, ER.b_fre, ER.b_brw, List.getElem?_cons_zero, List.getElem?_cons_succ, List.set_cons_zero, List.set_cons_succ, List.map_cons, List.map_nil, List.cons_append, List.nil_append, List.replicate, List.length_cons, List.length_nil,
    List.all_cons, List.all_nil, List.any_cons, List.any_nil, Bool.and_true, Bool.true_and, Bool.and_self, Bool.or_true, Bool.true_or, Bool.false_or, Bool.or_false, Bool.not_true, Bool.not_false, Bool.and_false, Bool.false_and, if_true, if_false, ite_true, ite_false, decide_true, decide_false, decide_eq_true_eq, Bool.false_eq_true, reduceCtorEq, Option.some.injEq, Nat.zero_add, eq_self, ↓reduceIte, mul, hm, r1, tn, rng_map]
    · have := hov k (by have := List.mem_range.mp hk; omega)
      simp only [evIsc, ev, evs, evO, evT, evBs, evBv, evI, Cm.run, runs, evB, evC, evEq, evTr, evIx, evSl, evP, evM, evTy, evRng, callR, bindL, bindT, dis, evAny, Out.fin, retE, held, parGo, ok, onB, ownAt, valAt, noX, wipeS, D.isNon, ER.frz, ER.isV, ER.isB, D.flat, D.flats, defD,
    gd_true, gdO_true, RE.bind_ok, RE.bind_bad, RE.out_ok, RE.out_bad, Out.seq_nx, Out.seq_ret, Out.seq_brk, Out.seq_cnt, ER.d_val, ER.d_fre, ER.d_brw, ER.b_val, ER.b_fre, ER.b_brw, List.getElem?_cons_zero, List.getElem?_cons_succ, List.set_cons_zero, List.set_cons_succ, List.map_cons, List.map_nil, List.cons_append, List.nil_append, List.replicate, List.length_cons, List.length_nil,
    List.all_cons, List.all_nil, List.any_cons, List.any_nil, Bool.and_true, Bool.true_and, Bool.and_self, Bool.or_true, Bool.true_or, Bool.false_or, Bool.or_false, Bool.not_true, Bool.not_false, Bool.and_false, Bool.false_and, if_true, if_false, ite_true, ite_false, decide_true, decide_false, decide_eq_true_eq, Bool.false_eq_true, reduceCtorEq, Option.some.injEq, Nat.zero_add, eq_self, ↓reduceIte, f1, this]
  -- the drawn ones
  obtain ⟨S, hS⟩ : ∃ S : List Int → Sl → Sl → List Sl, S = fun fl s10 s11 => [.val (.lst (ns.map D.int)) false, .val (.int (a : Nat)) true, .val (.tup [.int h, .int w, .int s]) true, .val (.int sg) true, .val (.int (z : Nat)) true, .val (.int h) true, .val (.int w) true, .val (.int s) true, .own (fl.map D.int) true, .val (.lst (ol.map D.int)) true, s10, s11, .non, .non, .non, .non] := ⟨_, rfl⟩
  obtain ⟨four, h4, _⟩ : ∃ four : Int, L2.atI [D.int 4, .int 4, .int 3, .int 7] (((z : Nat) : Int).fmod 4) = some (.int four) ∧ True := by
    have b := fmod_lt ((z : Nat) : Int) (n := 4) (by decide)
    obtain q | q | q | q : ((z : Nat) : Int).fmod 4 = 0 ∨ ((z : Nat) : Int).fmod 4 = 1 ∨ ((z : Nat) : Int).fmod 4 = 2 ∨ ((z : Nat) : Int).fmod 4 = 3 := by omega
    all_goals rw [q]; exact ⟨_, rfl, trivial⟩
  have n4 : nzB 4 = true := rfl
  have n8 : nzB 8 = true := rfl
  have it : evI G__law_filling (.rng (.cons (.bin .mul (.var 5) (.var 6)) .nil)) (S [] .non .non) = .ok ⟨(IC (List.range (h * w))).map D.int, true, false⟩ := by
    subst hS
    simp only [evIsc, ev, evs, evO, evT, evBs, evBv, evI, Cm.run, runs, evB, evC, evEq, evTr, evIx, evSl, evP, evM, evTy, evRng, callR, bindL, bindT, dis, evAny, Out.fin, retE, held, parGo, ok, onB, ownAt, valAt, noX, wipeS, D.isNon, ER.frz, ER.isV, ER.isB, D.flat, D.flats, defD,
    gd_true, gdO_true, RE.bind_ok, RE.bind_bad, RE.out_ok, RE.out_bad, Out.seq_nx, Out.seq_ret, Out.seq_brk, Out.seq_cnt, ER.d_val, ER.d_fre, ER.d_brw, ER.b_val, ER.b_fre, ER.b_brw, List.getElem?_cons_zero, List.getElem?_cons_succ, List.set_cons_zero, List.set_cons_succ, List.map_cons, List.map_nil, List.cons_append, List.nil_append, List.replicate, List.length_cons, List.length_nil,
    List.all_cons, List.all_nil, List.any_cons, List.any_nil, Bool.and_true, Bool.true_and, Bool.and_self, Bool.or_true, Bool.true_or, Bool.false_or, Bool.or_false, Bool.not_true, Bool.not_false, Bool.and_false, Bool.false_and, if_true, if_false, ite_true, ite_false, decide_true, decide_false, decide_eq_true_eq, Bool.false_eq_true, reduceCtorEq, Option.some.injEq, Nat.zero_add, eq_self, ↓reduceIte, mul, hm, r1, tn, rngL_IC]
  obtain ⟨ρ', e, fl, s10, s11, fll, rfl⟩ := forGo_ix (f := fun x ρ => onB (bindT [10] x true ρ) fun ρ' => runs G__law_filling (.cons (.asg 11 (.bin .mdl (.call 0 (.cons (.var 0) (.cons (.bin .add (.bin .add (.var 1) (.cint 1)) (.var 10)) .nil))) (.cint 8)))
    (.cons (.app 8 (.idx (.lst (.cons (.idx (.var 9) (.var 10)) (.cons (.var 3) .nil))) (.pri .int (.cons (.cmp .lt (.var 11) (.idx (.lst (.cons (.cint 4) (.cons (.cint 4) (.cons (.cint 3) (.cons (.cint 7) .nil))))) (.bin .mdl (.var 4) (.cint 4)))) .nil))))
    .nil)) ρ')
    (xs := (IC (List.range (h * w))).map D.int) (ρ := S [] .non .non) (fun i ρ => ∃ fl s10 s11, fl.length = i ∧ ρ = S fl s10 s11)
    (by
      rintro i x ρ hx ⟨fl, s10, s11, fll, rfl⟩
      obtain ⟨k, hk, rfl⟩ := IC_get hx
      obtain ⟨hi, ei⟩ := List.getElem?_eq_some_iff.mp hk
      have ek : k = i := by simpa using ei.symm
      subst ek
      have hkn : k < h * w := by simpa using hi
      have m2 := mx_lit hl (a + 1 + k) ((a : Int) + 1 + k) (by omega) (by omega)
      have go : L2.atI (ol.map D.int) ((k : Nat) : Int) = some (.int (ol[k]'(by omega))) := atI_int (List.getElem?_eq_getElem (by omega))
      obtain ⟨v, hv⟩ : ∃ v : Int, L2.atI [D.int (ol[k]'(by omega)), .int sg] (if decide (((mx ns (a + 1 + k) : Nat) : Int).fmod 8 < four) = true then 1 else 0) = some (.int v) := by
        by_cases c : decide (((mx ns (a + 1 + k) : Nat) : Int).fmod 8 < four) = true
        · rw [if_pos c]; exact ⟨_, rfl⟩
        · rw [if_neg c]; exact ⟨_, rfl⟩
      subst hS
      simp only [bindT, D.flat, Bool.or_true, onB_some, List.set_cons_zero, List.set_cons_succ]
      rw [st_asg (d := .int (((mx ns (a + 1 + k) : Nat) : Int).fmod 8)) (f := true) (by simp only [evIsc, ev, evs, evO, evT, evBs, evBv, evI, Cm.run, runs, evB, evC, evEq, evTr, evIx, evSl, evP, evM, evTy, evRng, callR, bindL, bindT, dis, evAny, Out.fin, retE, held, parGo, ok, onB, ownAt, valAt, noX, wipeS, D.isNon, ER.frz, ER.isV, ER.isB, D.flat, D.flats, defD,
    gd_true, gdO_true, RE.bind_ok, RE.bind_bad, RE.out_ok, RE.out_bad, Out.seq_nx, Out.seq_ret, Out.seq_brk, Out.seq_cnt, ER.d_val, ER.d_fre, ER.d_brw, ER.b_val, ER.b_fre, ER.b_brw, List.getElem?_cons_zero, List.getElem?_cons_succ, List.set_cons_zero, List.set_cons_succ, List.map_cons, List.map_nil, List.cons_append, List.nil_append, List.replicate, List.length_cons, List.length_nil,
    List.all_cons, List.all_nil, List.any_cons, List.any_nil, Bool.and_true, Bool.true_and, Bool.and_self, Bool.or_true, Bool.true_or, Bool.false_or, Bool.or_false, Bool.not_true, Bool.not_false, Bool.and_false, Bool.false_and, if_true, if_false, ite_true, ite_false, decide_true, decide_false, decide_eq_true_eq, Bool.false_eq_true, reduceCtorEq, Option.some.injEq, Nat.zero_add, eq_self, ↓reduceIte, f0, m2, n8])]
      simp only [List.set_cons_zero, List.set_cons_succ]
      have q0 : ev G__law_filling (.lst (.cons (.idx (.var 9) (.var 10)) (.cons (.var 3) .nil))) [.val (.lst (ns.map D.int)) false, .val (.int (a : Nat)) true, .val (.tup [.int h, .int w, .int s]) true, .val (.int sg) true, .val (.int (z : Nat)) true, .val (.int h) true, .val (.int w) true, .val (.int s) true, .own (fl.map D.int) true, .val (.lst (ol.map D.int)) true, .val (.int (k : Nat)) true, .val (.int (((mx ns (a + 1 + k) : Nat) : Int).fmod 8)) true, .non, .non, .non, .non] = .ok (.fre [D.int (ol[k]'(by omega)), .int sg] true) := by
        simp only [evIsc, ev, evs, evO, evT, evBs, evBv, evI, Cm.run, runs, evB, evC, evEq, evTr, evIx, evSl, evP, evM, evTy, evRng, callR, bindL, bindT, dis, evAny, Out.fin, retE, held, parGo, ok, onB, ownAt, valAt, noX, wipeS, D.isNon, ER.frz, ER.isV, ER.isB, D.flat, D.flats, defD,
    gd_true, gdO_true, RE.bind_ok, RE.bind_bad, RE.out_ok, RE.out_bad, Out.seq_nx, Out.seq_ret, Out.seq_brk, Out.seq_cnt, ER.d_val, ER.d_fre, ER.d_brw, ER.b_val, ER.b_fre, ER.b_brw, List.getElem?_cons_zero, List.getElem?_cons_succ, List.set_cons_zero, List.set_cons_succ, List.map_cons, List.map_nil, List.cons_append, List.nil_append, List.replicate, List.length_cons, List.length_nil,
    List.all_cons, List.all_nil, List.any_cons, List.any_nil, Bool.and_true, Bool.true_and, Bool.and_self, Bool.or_true, Bool.true_or, Bool.false_or, Bool.or_false, Bool.not_true, Bool.not_false, Bool.and_false, Bool.false_and, if_true, if_false, ite_true, ite_false, decide_true, decide_false, decide_eq_true_eq, Bool.false_eq_true, reduceCtorEq, Option.some.injEq, Nat.zero_add, eq_self, ↓reduceIte, go]
      have q1 : ev G__law_filling (.pri .int (.cons (.cmp .lt (.var 11) (.idx (.lst (.cons (.cint 4) (.cons (.cint 4) (.cons (.cint 3) (.cons (.cint 7) .nil))))) (.bin .mdl (.var 4) (.cint 4)))) .nil)) [.val (.lst (ns.map D.int)) false, .val (.int (a : Nat)) true, .val (.tup [.int h, .int w, .int s]) true, .val (.int sg) true, .val (.int (z : Nat)) true, .val (.int h) true, .val (.int w) true, .val (.int s) true, .own (fl.map D.int) true, .val (.lst (ol.map D.int)) true, .val (.int (k : Nat)) true, .val (.int (((mx ns (a + 1 + k) : Nat) : Int).fmod 8)) true, .non, .non, .non, .non] = .ok (.val (.int (if decide (((mx ns (a + 1 + k) : Nat) : Int).fmod 8 < four) = true then 1 else 0)) true) := by
        by_cases c : ((mx ns (a + 1 + k) : Nat) : Int).fmod 8 < four
        · simp only [evIsc, ev, evs, evO, evT, evBs, evBv, evI, Cm.run, runs, evB, evC, evEq, evTr, evIx, evSl, evP, evM, evTy, evRng, callR, bindL, bindT, dis, evAny, Out.fin, retE, held, parGo, ok, onB, ownAt, valAt, noX, wipeS, D.isNon, ER.frz, ER.isV, ER.isB, D.flat, D.flats, defD,
    gd_true, gdO_true, RE.bind_ok, RE.bind_bad, RE.out_ok, RE.out_bad, Out.seq_nx, Out.seq_ret, Out.seq_brk, Out.seq_cnt, ER.d_val, ER.d_fre, ER.d_brw, ER.b_val, ER.b_fre, ER.b_brw, List.getElem?_cons_zero, List.getElem?_cons_succ, List.set_cons_zero, List.set_cons_succ, List.map_cons, List.map_nil, List.cons_append, List.nil_append, List.replicate, List.length_cons, List.length_nil,
    List.all_cons, List.all_nil, List.any_cons, List.any_nil, Bool.and_true, Bool.true_and, Bool.and_self, Bool.or_true, Bool.true_or, Bool.false_or, Bool.or_false, Bool.not_true, Bool.not_false, Bool.and_false, Bool.false_and, if_true, if_false, ite_true, ite_false, decide_true, decide_false, decide_eq_true_eq, Bool.false_eq_true, reduceCtorEq, Option.some.injEq, Nat.zero_add, eq_self, ↓reduceIte, n4, h4, c]
        · simp only [evIsc, ev, evs, evO, evT, evBs, evBv, evI, Cm.run, runs, evB, evC, evEq, evTr, evIx, evSl, evP, evM, evTy, evRng, callR, bindL, bindT, dis, evAny, Out.fin, retE, held, parGo, ok, onB, ownAt, valAt, noX, wipeS, D.isNon, ER.frz, ER.isV, ER.isB, D.flat, D.flats, defD,
    gd_true, gdO_true, RE.bind_ok, RE.bind_bad, RE.out_ok, RE.out_bad, Out.seq_nx, Out.seq_ret, Out.seq_brk, Out.seq_cnt, ER.d_val, ER.d_fre, ER.d_brw, ER.b_val, ER.b_fre, ER.b_brw, List.getElem?_cons_zero, List.getElem?_cons_succ, List.set_cons_zero, List.set_cons_succ, List.map_cons, List.map_nil, List.cons_append, List.nil_append, List.replicate, List.length_cons, List.length_nil,
    List.all_cons, List.all_nil, List.any_cons, List.any_nil, Bool.and_true, Bool.true_and, Bool.and_self, Bool.or_true, Bool.true_or, Bool.false_or, Bool.or_false, Bool.not_true, Bool.not_false, Bool.and_false, Bool.false_and, if_true, if_false, ite_true, ite_false, decide_true, decide_false, decide_eq_true_eq, Bool.false_eq_true, reduceCtorEq, Option.some.injEq, Nat.zero_add, eq_self, ↓reduceIte, n4, h4, c]
      rw [st_app (d := .int v) (f := true) (ds := fl.map D.int) (c := true) rfl (by
        rw [ev, q0, RE.bind_ok, q1]
        simp only [RE.bind_ok, ER.d_fre, ER.d_val, ER.b_fre, evIx, hv, D.flat, Bool.or_true]) (by rw [List.length_map]; omega), st_nil]
      refine ⟨_, rfl, fl ++ [v], .val (.int (k : Nat)) true, .val (.int (((mx ns (a + 1 + k) : Nat) : Int).fmod 8)) true, by simp [fll], ?_⟩
      simp only [List.set_cons_zero, List.set_cons_succ, List.map_append, List.map_cons, List.map_nil, Bool.and_self])
    ⟨[], _, _, rfl, rfl⟩
  have fll : fl.length = h * w := by rw [fll, IC_len, List.length_range]
  have d4 : divB 4 = true := rfl
  have n2 : nzB 2 = true := rfl
  have A : ∃ fl' : List Int, fl'.length = h * w ∧ runs G__law_filling i__law_filling.tl.tl.tl.tl.tl (S fl s10 s11) = .ret (.fre (fl'.map D.int) true) := by
    rw [i__law_filling]
    simp only [Sms.tl]
    by_cases hb : (((z : Nat) : Int).fdiv 4).fmod 2 = 1
    · have d100 : divB 100 = true := rfl
      have d1000 : divB 1000 = true := rfl
      have d8 : divB 8 = true := rfl
      have n5 : nzB 5 = true := rfl
      have nh : nzB (h : Int) = true := nz_t (by omega)
      have nw : nzB (w : Int) = true := nz_t (by omega)
      have nhw : nzB ((h * w : Nat) : Int) = true := nz_t (by omega)
      have rb := fmod_lt (((z : Nat) : Int).fdiv 100) (n := h) (by omega)
      have cb := fmod_lt (((z : Nat) : Int).fdiv 1000) (n := w) (by omega)
      obtain ⟨r, hr, hrh⟩ : ∃ r : Nat, (((z : Nat) : Int).fdiv 100).fmod h = (r : Int) ∧ r < h := ⟨((((z : Nat) : Int).fdiv 100).fmod h).toNat, by omega, by omega⟩
      obtain ⟨c, hc, hcw⟩ : ∃ c : Nat, (((z : Nat) : Int).fdiv 1000).fmod w = (c : Int) ∧ c < w := ⟨((((z : Nat) : Int).fdiv 1000).fmod w).toNat, by omega, by omega⟩
      have rw_ : r * w + w ≤ h * w := by
        have := Nat.mul_le_mul_right w hrh
        rwa [Nat.succ_mul] at this
      have mrw : mulB (r : Int) w = true := mul_t (.inl ⟨by omega, by omega⟩)
      have erw : (r : Int) * w = ((r * w : Nat) : Int) := by rw [Int.natCast_mul]
      have cb2 := fmod_lt ((c : Int) + 1) (n := w) (by omega)
      obtain ⟨c2, hc2, hc2w⟩ : ∃ c2 : Nat, ((c : Int) + 1).fmod w = (c2 : Int) ∧ c2 < w := ⟨(((c : Int) + 1).fmod w).toNat, by omega, by omega⟩
      have sb : ∀ x : Int, ∃ n : Nat, (x + (w : Int)).fmod ((h * w : Nat) : Int) = n ∧ n < h * w := fun x => by
        have := fmod_lt (x + (w : Int)) (n := ((h * w : Nat) : Int)) (by omega)
        exact ⟨((x + (w : Int)).fmod ((h * w : Nat) : Int)).toNat, by omega, by omega⟩
      obtain ⟨p0, e0, hp0⟩ : ∃ n : Nat, ((r * w : Nat) : Int) + c = n ∧ n < h * w := ⟨r * w + c, by omega, by omega⟩
      obtain ⟨p1, e1, hp1⟩ : ∃ n : Nat, ((r * w : Nat) : Int) + c2 = n ∧ n < h * w := ⟨r * w + c2, by omega, by omega⟩
      obtain ⟨p2, e2, hp2⟩ := sb p0
      obtain ⟨p3, e3, hp3⟩ := sb p1
      rw [st_ifT (by subst hS; simp only [evIsc, ev, evs, evO, evT, evBs, evBv, evI, Cm.run, runs, evB, evC, evEq, evTr, evIx, evSl, evP, evM, evTy, evRng, callR, bindL, bindT, dis, evAny, Out.fin, retE, held, parGo, ok, onB, ownAt, valAt, noX, wipeS, D.isNon, ER.frz, ER.isV, ER.isB, D.flat, D.flats, defD,
    gd_true, gdO_true, RE.bind_ok, RE.bind_bad, RE.out_ok, RE.out_bad, Out.seq_nx, Out.seq_ret, Out.seq_brk, Out.seq_cnt, ER.d_val, ER.d_fre, ER.d_brw, ER.b_val, ER.b_fre, ER.b_brw, List.getElem?_cons_zero, List.getElem?_cons_succ, List.set_cons_zero, List.set_cons_succ, List.map_cons, List.map_nil, List.cons_append, List.nil_append, List.replicate, List.length_cons, List.length_nil,
    List.all_cons, List.all_nil, List.any_cons, List.any_nil, Bool.and_true, Bool.true_and, Bool.and_self, Bool.or_true, Bool.true_or, Bool.false_or, Bool.or_false, Bool.not_true, Bool.not_false, Bool.and_false, Bool.false_and, if_true, if_false, ite_true, ite_false, decide_true, decide_false, decide_eq_true_eq, Bool.false_eq_true, reduceCtorEq, Option.some.injEq, Nat.zero_add, eq_self, ↓reduceIte, d4, n2, hb])]
      subst hS
      rw [st_own (ds := ol.map D.int) (f := true) (by simp only [evIsc, ev, evs, evO, evT, evBs, evBv, evI, Cm.run, runs, evB, evC, evEq, evTr, evIx, evSl, evP, evM, evTy, evRng, callR, bindL, bindT, dis, evAny, Out.fin, retE, held, parGo, ok, onB, ownAt, valAt, noX, wipeS, D.isNon, ER.frz, ER.isV, ER.isB, D.flat, D.flats, defD,
    gd_true, gdO_true, RE.bind_ok, RE.bind_bad, RE.out_ok, RE.out_bad, Out.seq_nx, Out.seq_ret, Out.seq_brk, Out.seq_cnt, ER.d_val, ER.d_fre, ER.d_brw, ER.b_val, ER.b_fre, ER.b_brw, List.getElem?_cons_zero, List.getElem?_cons_succ, List.set_cons_zero, List.set_cons_succ, List.map_cons, List.map_nil, List.cons_append, List.nil_append, List.replicate, List.length_cons, List.length_nil,
    List.all_cons, List.all_nil, List.any_cons, List.any_nil, Bool.and_true, Bool.true_and, Bool.and_self, Bool.or_true, Bool.true_or, Bool.false_or, Bool.or_false, Bool.not_true, Bool.not_false, Bool.and_false, Bool.false_and, if_true, if_false, ite_true, ite_false, decide_true, decide_false, decide_eq_true_eq, Bool.false_eq_true, reduceCtorEq, Option.some.injEq, Nat.zero_add, eq_self, ↓reduceIte])]
      simp only [List.set_cons_zero, List.set_cons_succ]
      rw [st_asg (d := .int r) (f := true) (by simp only [evIsc, ev, evs, evO, evT, evBs, evBv, evI, Cm.run, runs, evB, evC, evEq, evTr, evIx, evSl, evP, evM, evTy, evRng, callR, bindL, bindT, dis, evAny, Out.fin, retE, held, parGo, ok, onB, ownAt, valAt, noX, wipeS, D.isNon, ER.frz, ER.isV, ER.isB, D.flat, D.flats, defD,
    gd_true, gdO_true, RE.bind_ok, RE.bind_bad, RE.out_ok, RE.out_bad, Out.seq_nx, Out.seq_ret, Out.seq_brk, Out.seq_cnt, ER.d_val, ER.d_fre, ER.d_brw, ER.b_val, ER.b_fre, ER.b_brw, List.getElem?_cons_zero, List.getElem?_cons_succ, List.set_cons_zero, List.set_cons_succ, List.map_cons, List.map_nil, List.cons_append, List.nil_append, List.replicate, List.length_cons, List.length_nil,
    List.all_cons, List.all_nil, List.any_cons, List.any_nil, Bool.and_true, Bool.true_and, Bool.and_self, Bool.or_true, Bool.true_or, Bool.false_or, Bool.or_false, Bool.not_true, Bool.not_false, Bool.and_false, Bool.false_and, if_true, if_false, ite_true, ite_false, decide_true, decide_false, decide_eq_true_eq, Bool.false_eq_true, reduceCtorEq, Option.some.injEq, Nat.zero_add, eq_self, ↓reduceIte, d100, nh, hr])]
      simp only [List.set_cons_zero, List.set_cons_succ]
      rw [st_asg (d := .int c) (f := true) (by simp only [evIsc, ev, evs, evO, evT, evBs, evBv, evI, Cm.run, runs, evB, evC, evEq, evTr, evIx, evSl, evP, evM, evTy, evRng, callR, bindL, bindT, dis, evAny, Out.fin, retE, held, parGo, ok, onB, ownAt, valAt, noX, wipeS, D.isNon, ER.frz, ER.isV, ER.isB, D.flat, D.flats, defD,
    gd_true, gdO_true, RE.bind_ok, RE.bind_bad, RE.out_ok, RE.out_bad, Out.seq_nx, Out.seq_ret, Out.seq_brk, Out.seq_cnt, ER.d_val, ER.d_fre, ER.d_brw, ER.b_val, ER.b_fre, ER.b_brw, List.getElem?_cons_zero, List.getElem?_cons_succ, List.set_cons_zero, List.set_cons_succ, List.map_cons, List.map_nil, List.cons_append, List.nil_append, List.replicate, List.length_cons, List.length_nil,
    List.all_cons, List.all_nil, List.any_cons, List.any_nil, Bool.and_true, Bool.true_and, Bool.and_self, Bool.or_true, Bool.true_or, Bool.false_or, Bool.or_false, Bool.not_true, Bool.not_false, Bool.and_false, Bool.false_and, if_true, if_false, ite_true, ite_false, decide_true, decide_false, decide_eq_true_eq, Bool.false_eq_true, reduceCtorEq, Option.some.injEq, Nat.zero_add, eq_self, ↓reduceIte, d1000, nw, hc])]
      simp only [List.set_cons_zero, List.set_cons_succ]
      rw [st_asgL (ds := [.int p0, .int p1]) (f := true) (by simp only [evIsc, ev, evs, evO, evT, evBs, evBv, evI, Cm.run, runs, evB, evC, evEq, evTr, evIx, evSl, evP, evM, evTy, evRng, callR, bindL, bindT, dis, evAny, Out.fin, retE, held, parGo, ok, onB, ownAt, valAt, noX, wipeS, D.isNon, ER.frz, ER.isV, ER.isB, D.flat, D.flats, defD,
    gd_true, gdO_true, RE.bind_ok, RE.bind_bad, RE.out_ok, RE.out_bad, Out.seq_nx, Out.seq_ret, Out.seq_brk, Out.seq_cnt, ER.d_val, ER.d_fre, ER.d_brw, ER.b_val, ER.b_fre, ER.b_brw, List.getElem?_cons_zero, List.getElem?_cons_succ, List.set_cons_zero, List.set_cons_succ, List.map_cons, List.map_nil, List.cons_append, List.nil_append, List.replicate, List.length_cons, List.length_nil,
    List.all_cons, List.all_nil, List.any_cons, List.any_nil, Bool.and_true, Bool.true_and, Bool.and_self, Bool.or_true, Bool.true_or, Bool.false_or, Bool.or_false, Bool.not_true, Bool.not_false, Bool.and_false, Bool.false_and, if_true, if_false, ite_true, ite_false, decide_true, decide_false, decide_eq_true_eq, Bool.false_eq_true, reduceCtorEq, Option.some.injEq, Nat.zero_add, eq_self, ↓reduceIte, mrw, erw, nw, hc2, e0, e1])]
      simp only [List.set_cons_zero, List.set_cons_succ]
      have lc2 : ev G__law_filling (.lc [15] (.any (.var 14)) [15] .nil (.bin .mdl (.bin .add (.var 15) (.var 6)) (.bin .mul (.var 5) (.var 6)))) [.val (.lst (ns.map D.int)) false, .val (.int (a : Nat)) true, .val (.tup [.int h, .int w, .int s]) true, .val (.int sg) true, .val (.int (z : Nat)) true, .val (.int h) true, .val (.int w) true, .val (.int s) true, .own (ol.map D.int) true, .val (.lst (ol.map D.int)) true, s10, s11, .val (.int r) true, .val (.int c) true, .val (.lst [.int p0, .int p1]) true, .non] = .ok (.fre [.int p2, .int p3] true) := by
        have : ([.int p2, .int p3] : List D) = [(p0 : Nat), p1].map fun x => D.int (((x : Nat) : Int) + (w : Int) |>.fmod ((h * w : Nat) : Int)) := by
          simp only [List.map_cons, List.map_nil, e2, e3]
        rw [this]
        refine ev_lc (xs := [(p0 : Nat), p1]) (en := fun x => D.int ((x : Nat) : Int)) (h := fun x => D.int ((((x : Nat) : Int) + (w : Int)).fmod ((h * w : Nat) : Int))) (b := true) (o := false) (by simp only [evIsc, ev, evs, evO, evT, evBs, evBv, evI, Cm.run, runs, evB, evC, evEq, evTr, evIx, evSl, evP, evM, evTy, evRng, callR, bindL, bindT, dis, evAny, Out.fin, retE, held, parGo, ok, onB, ownAt, valAt, noX, wipeS, D.isNon, ER.frz, ER.isV, ER.isB, D.flat, D.flats, defD,
    gd_true, gdO_true, RE.bind_ok, RE.bind_bad, RE.out_ok, RE.out_bad, Out.seq_nx, Out.seq_ret, Out.seq_brk, Out.seq_cnt, ER.d_val, ER.d_fre, ER.d_brw, ER.b_val, ER.b_fre, ER.b_brw, List.getElem?_cons_zero, List.getElem?_cons_succ, List.set_cons_zero, List.set_cons_succ, List.map_cons, List.map_nil, List.cons_append, List.nil_append, List.replicate, List.length_cons, List.length_nil,
    List.all_cons, List.all_nil, List.any_cons, List.any_nil, Bool.and_true, Bool.true_and, Bool.and_self, Bool.or_true, Bool.true_or, Bool.false_or, Bool.or_false, Bool.not_true, Bool.not_false, Bool.and_false, Bool.false_and, if_true, if_false, ite_true, ite_false, decide_true, decide_false, decide_eq_true_eq, Bool.false_eq_true, reduceCtorEq, Option.some.injEq, Nat.zero_add, eq_self, ↓reduceIte]) (by show 2 ≤ LIM; decide) fun x hx => ⟨.val (.int ((((x : Nat) : Int) + (w : Int)).fmod ((h * w : Nat) : Int))) true, ?_, rfl, rfl, rfl⟩
        simp only [evIsc, ev, evs, evO, evT, evBs, evBv, evI, Cm.run, runs, evB, evC, evEq, evTr, evIx, evSl, evP, evM, evTy, evRng, callR, bindL, bindT, dis, evAny, Out.fin, retE, held, parGo, ok, onB, ownAt, valAt, noX, wipeS, D.isNon, ER.frz, ER.isV, ER.isB, D.flat, D.flats, defD,
    gd_true, gdO_true, RE.bind_ok, RE.bind_bad, RE.out_ok, RE.out_bad, Out.seq_nx, Out.seq_ret, Out.seq_brk, Out.seq_cnt, ER.d_val, ER.d_fre, ER.d_brw, ER.b_val, ER.b_fre, ER.b_brw, List.getElem?_cons_zero, List.getElem?_cons_succ, List.set_cons_zero, List.set_cons_succ, List.map_cons, List.map_nil, List.cons_append, List.nil_append, List.replicate, List.length_cons, List.length_nil,
    List.all_cons, List.all_nil, List.any_cons, List.any_nil, Bool.and_true, Bool.true_and, Bool.and_self, Bool.or_true, Bool.true_or, Bool.false_or, Bool.or_false, Bool.not_true, Bool.not_false, Bool.and_false, Bool.false_and, if_true, if_false, ite_true, ite_false, decide_true, decide_false, decide_eq_true_eq, Bool.false_eq_true, reduceCtorEq, Option.some.injEq, Nat.zero_add, eq_self, ↓reduceIte, mul, hm, nhw]
      rw [st_asgL (ds := [.int p0, .int p1, .int p2, .int p3]) (f := true) (by
        have l4 : leB (1 + 1 + (1 + 1)) = true := rfl
        rw [ev, lc2]
        simp only [evIsc, ev, evs, evO, evT, evBs, evBv, evI, Cm.run, runs, evB, evC, evEq, evTr, evIx, evSl, evP, evM, evTy, evRng, callR, bindL, bindT, dis, evAny, Out.fin, retE, held, parGo, ok, onB, ownAt, valAt, noX, wipeS, D.isNon, ER.frz, ER.isV, ER.isB, D.flat, D.flats, defD,
    gd_true, gdO_true, RE.bind_ok, RE.bind_bad, RE.out_ok, RE.out_bad, Out.seq_nx, Out.seq_ret, Out.seq_brk, Out.seq_cnt, ER.d_val, ER.d_fre, ER.d_brw, ER.b_val, ER.b_fre, ER.b_brw, List.getElem?_cons_zero, List.getElem?_cons_succ, List.set_cons_zero, List.set_cons_succ, List.map_cons, List.map_nil, List.cons_append, List.nil_append, List.replicate, List.length_cons, List.length_nil,
    List.all_cons, List.all_nil, List.any_cons, List.any_nil, Bool.and_true, Bool.true_and, Bool.and_self, Bool.or_true, Bool.true_or, Bool.false_or, Bool.or_false, Bool.not_true, Bool.not_false, Bool.and_false, Bool.false_and, if_true, if_false, ite_true, ite_false, decide_true, decide_false, decide_eq_true_eq, Bool.false_eq_true, reduceCtorEq, Option.some.injEq, Nat.zero_add, eq_self, ↓reduceIte, l4])]
      simp only [List.set_cons_zero, List.set_cons_succ]
      have it : evI G__law_filling (.rng (.cons (.cint 4) .nil)) [.val (.lst (ns.map D.int)) false, .val (.int (a : Nat)) true, .val (.tup [.int h, .int w, .int s]) true, .val (.int sg) true, .val (.int (z : Nat)) true, .val (.int h) true, .val (.int w) true, .val (.int s) true, .own (ol.map D.int) true, .val (.lst (ol.map D.int)) true, s10, s11, .val (.int r) true, .val (.int c) true, .val (.lst [.int p0, .int p1, .int p2, .int p3]) true, .non] = .ok ⟨(IC (List.range 4)).map D.int, true, false⟩ := by
        have r4 : rg1B 4 = true := rfl
        have t4 : (4 : Int).toNat = 4 := rfl
        simp only [evIsc, ev, evs, evO, evT, evBs, evBv, evI, Cm.run, runs, evB, evC, evEq, evTr, evIx, evSl, evP, evM, evTy, evRng, callR, bindL, bindT, dis, evAny, Out.fin, retE, held, parGo, ok, onB, ownAt, valAt, noX, wipeS, D.isNon, ER.frz, ER.isV, ER.isB, D.flat, D.flats, defD,
    gd_true, gdO_true, RE.bind_ok, RE.bind_bad, RE.out_ok, RE.out_bad, Out.seq_nx, Out.seq_ret, Out.seq_brk, Out.seq_cnt, ER.d_val, ER.d_fre, ER.d_brw, ER.b_val, ER.b_fre, ER.b_brw, List.getElem?_cons_zero, List.getElem?_cons_succ, List.set_cons_zero, List.set_cons_succ, List.map_cons, List.map_nil, List.cons_append, List.nil_append, List.replicate, List.length_cons, List.length_nil,
    List.all_cons, List.all_nil, List.any_cons, List.any_nil, Bool.and_true, Bool.true_and, Bool.and_self, Bool.or_true, Bool.true_or, Bool.false_or, Bool.or_false, Bool.not_true, Bool.not_false, Bool.and_false, Bool.false_and, if_true, if_false, ite_true, ite_false, decide_true, decide_false, decide_eq_true_eq, Bool.false_eq_true, reduceCtorEq, Option.some.injEq, Nat.zero_add, eq_self, ↓reduceIte, r4, t4, rngL_IC]
      obtain ⟨ρ', e, fl', s10', fll', rfl⟩ := forGo_ix (f := fun x ρ => onB (bindT [10] x true ρ) fun ρ' => runs G__law_filling (.cons (.iff (.val (.cmp .ne (.bin .mdl (.bin .fdv (.var 4) (.cint 8)) (.cint 5)) (.var 10))) (.cons (.put 8 (.idx (.var 14) (.var 10)) (.var 3))
        .nil) .nil)
        .nil) ρ')
        (xs := (IC (List.range 4)).map D.int) (ρ := [.val (.lst (ns.map D.int)) false, .val (.int (a : Nat)) true, .val (.tup [.int h, .int w, .int s]) true, .val (.int sg) true, .val (.int (z : Nat)) true, .val (.int h) true, .val (.int w) true, .val (.int s) true, .own (ol.map D.int) true, .val (.lst (ol.map D.int)) true, s10, s11, .val (.int r) true, .val (.int c) true, .val (.lst [.int p0, .int p1, .int p2, .int p3]) true, .non])
        (fun _ ρ => ∃ (fl' : List Int) (s10' : Sl), fl'.length = h * w ∧ ρ = [.val (.lst (ns.map D.int)) false, .val (.int (a : Nat)) true, .val (.tup [.int h, .int w, .int s]) true, .val (.int sg) true, .val (.int (z : Nat)) true, .val (.int h) true, .val (.int w) true, .val (.int s) true, .own (fl'.map D.int) true, .val (.lst (ol.map D.int)) true, s10', s11, .val (.int r) true, .val (.int c) true, .val (.lst [.int p0, .int p1, .int p2, .int p3]) true, .non])
        (by
          rintro i x ρ hx ⟨fl', s10', fll', rfl⟩
          obtain ⟨k, hk, rfl⟩ := IC_get hx
          have hk4 := List.mem_range.mp (List.mem_of_getElem? hk)
          obtain ⟨p, ep, hpn⟩ : ∃ p : Nat, L2.atI [D.int p0, .int p1, .int p2, .int p3] ((k : Nat) : Int) = some (.int (p : Nat)) ∧ p < h * w := by
            obtain rfl | rfl | rfl | rfl : k = 0 ∨ k = 1 ∨ k = 2 ∨ k = 3 := by omega
            · exact ⟨p0, rfl, hp0⟩
            · exact ⟨p1, rfl, hp1⟩
            · exact ⟨p2, rfl, hp2⟩
            · exact ⟨p3, rfl, hp3⟩
          simp only [bindT, D.flat, Bool.or_true, onB_some, List.set_cons_zero, List.set_cons_succ]
          by_cases c : (((z : Nat) : Int).fdiv 8).fmod 5 = (k : Nat)
          · rw [st_ifF (by simp only [evIsc, ev, evs, evO, evT, evBs, evBv, evI, Cm.run, runs, evB, evC, evEq, evTr, evIx, evSl, evP, evM, evTy, evRng, callR, bindL, bindT, dis, evAny, Out.fin, retE, held, parGo, ok, onB, ownAt, valAt, noX, wipeS, D.isNon, ER.frz, ER.isV, ER.isB, D.flat, D.flats, defD,
    gd_true, gdO_true, RE.bind_ok, RE.bind_bad, RE.out_ok, RE.out_bad, Out.seq_nx, Out.seq_ret, Out.seq_brk, Out.seq_cnt, ER.d_val, ER.d_fre, ER.d_brw, ER.b_val, ER.b_fre, ER.b_brw, List.getElem?_cons_zero, List.getElem?_cons_succ, List.set_cons_zero, List.set_cons_succ, List.map_cons, List.map_nil, List.cons_append, List.nil_append, List.replicate, List.length_cons, List.length_nil,
    List.all_cons, List.all_nil, List.any_cons, List.any_nil, Bool.and_true, Bool.true_and, Bool.and_self, Bool.or_true, Bool.true_or, Bool.false_or, Bool.or_false, Bool.not_true, Bool.not_false, Bool.and_false, Bool.false_and, if_true, if_false, ite_true, ite_false, decide_true, decide_false, decide_eq_true_eq, Bool.false_eq_true, reduceCtorEq, Option.some.injEq, Nat.zero_add, eq_self, ↓reduceIte, d8, n5, c]), st_nil, Out.seq_nx, st_nil]
            exact ⟨_, rfl, fl', _, fll', rfl⟩
          · rw [st_ifT (by simp only [evIsc, ev, evs, evO, evT, evBs, evBv, evI, Cm.run, runs, evB, evC, evEq, evTr, evIx, evSl, evP, evM, evTy, evRng, callR, bindL, bindT, dis, evAny, Out.fin, retE, held, parGo, ok, onB, ownAt, valAt, noX, wipeS, D.isNon, ER.frz, ER.isV, ER.isB, D.flat, D.flats, defD,
    gd_true, gdO_true, RE.bind_ok, RE.bind_bad, RE.out_ok, RE.out_bad, Out.seq_nx, Out.seq_ret, Out.seq_brk, Out.seq_cnt, ER.d_val, ER.d_fre, ER.d_brw, ER.b_val, ER.b_fre, ER.b_brw, List.getElem?_cons_zero, List.getElem?_cons_succ, List.set_cons_zero, List.set_cons_succ, List.map_cons, List.map_nil, List.cons_append, List.nil_append, List.replicate, List.length_cons, List.length_nil,
    List.all_cons, List.all_nil, List.any_cons, List.any_nil, Bool.and_true, Bool.true_and, Bool.and_self, Bool.or_true, Bool.true_or, Bool.false_or, Bool.or_false, Bool.not_true, Bool.not_false, Bool.and_false, Bool.false_and, if_true, if_false, ite_true, ite_false, decide_true, decide_false, decide_eq_true_eq, Bool.false_eq_true, reduceCtorEq, Option.some.injEq, Nat.zero_add, eq_self, ↓reduceIte, d8, n5, c]), st_put (d := .int sg) (f := true) (ds := fl'.map D.int) (c := true) (x := .val (.int (p : Nat)) true) (k := (p : Nat)) (j := p) (by simp only [evIsc, ev, evs, evO, evT, evBs, evBv, evI, Cm.run, runs, evB, evC, evEq, evTr, evIx, evSl, evP, evM, evTy, evRng, callR, bindL, bindT, dis, evAny, Out.fin, retE, held, parGo, ok, onB, ownAt, valAt, noX, wipeS, D.isNon, ER.frz, ER.isV, ER.isB, D.flat, D.flats, defD,
    gd_true, gdO_true, RE.bind_ok, RE.bind_bad, RE.out_ok, RE.out_bad, Out.seq_nx, Out.seq_ret, Out.seq_brk, Out.seq_cnt, ER.d_val, ER.d_fre, ER.d_brw, ER.b_val, ER.b_fre, ER.b_brw, List.getElem?_cons_zero, List.getElem?_cons_succ, List.set_cons_zero, List.set_cons_succ, List.map_cons, List.map_nil, List.cons_append, List.nil_append, List.replicate, List.length_cons, List.length_nil,
    List.all_cons, List.all_nil, List.any_cons, List.any_nil, Bool.and_true, Bool.true_and, Bool.and_self, Bool.or_true, Bool.true_or, Bool.false_or, Bool.or_false, Bool.not_true, Bool.not_false, Bool.and_false, Bool.false_and, if_true, if_false, ite_true, ite_false, decide_true, decide_false, decide_eq_true_eq, Bool.false_eq_true, reduceCtorEq, Option.some.injEq, Nat.zero_add, eq_self, ↓reduceIte]) rfl (by simp only [evIsc, ev, evs, evO, evT, evBs, evBv, evI, Cm.run, runs, evB, evC, evEq, evTr, evIx, evSl, evP, evM, evTy, evRng, callR, bindL, bindT, dis, evAny, Out.fin, retE, held, parGo, ok, onB, ownAt, valAt, noX, wipeS, D.isNon, ER.frz, ER.isV, ER.isB, D.flat, D.flats, defD,
    gd_true, gdO_true, RE.bind_ok, RE.bind_bad, RE.out_ok, RE.out_bad, Out.seq_nx, Out.seq_ret, Out.seq_brk, Out.seq_cnt, ER.d_val, ER.d_fre, ER.d_brw, ER.b_val, ER.b_fre, ER.b_brw, List.getElem?_cons_zero, List.getElem?_cons_succ, List.set_cons_zero, List.set_cons_succ, List.map_cons, List.map_nil, List.cons_append, List.nil_append, List.replicate, List.length_cons, List.length_nil,
    List.all_cons, List.all_nil, List.any_cons, List.any_nil, Bool.and_true, Bool.true_and, Bool.and_self, Bool.or_true, Bool.true_or, Bool.false_or, Bool.or_false, Bool.not_true, Bool.not_false, Bool.and_false, Bool.false_and, if_true, if_false, ite_true, ite_false, decide_true, decide_false, decide_eq_true_eq, Bool.false_eq_true, reduceCtorEq, Option.some.injEq, Nat.zero_add, eq_self, ↓reduceIte, ep]) rfl (ixN_nat (by rw [List.length_map, fll']; exact hpn)), st_nil, Out.seq_nx, st_nil]
            refine ⟨_, rfl, fl'.set p sg, .val (.int (k : Nat)) true, by rw [List.length_set]; exact fll', ?_⟩
            simp only [List.set_cons_zero, List.set_cons_succ, List.map_set]
            rfl)
        ⟨ol, _, oll, rfl⟩
      refine ⟨fl', fll', ?_⟩
      rw [st_for it rfl e, st_nil, Out.seq_nx, st_ret (x := .brw (fl'.map D.int) true) (by simp only [evIsc, ev, evs, evO, evT, evBs, evBv, evI, Cm.run, runs, evB, evC, evEq, evTr, evIx, evSl, evP, evM, evTy, evRng, callR, bindL, bindT, dis, evAny, Out.fin, retE, held, parGo, ok, onB, ownAt, valAt, noX, wipeS, D.isNon, ER.frz, ER.isV, ER.isB, D.flat, D.flats, defD,
    gd_true, gdO_true, RE.bind_ok, RE.bind_bad, RE.out_ok, RE.out_bad, Out.seq_nx, Out.seq_ret, Out.seq_brk, Out.seq_cnt, ER.d_val, ER.d_fre, ER.d_brw, ER.b_val, ER.b_fre, ER.b_brw, List.getElem?_cons_zero, List.getElem?_cons_succ, List.set_cons_zero, List.set_cons_succ, List.map_cons, List.map_nil, List.cons_append, List.nil_append, List.replicate, List.length_cons, List.length_nil,
    List.all_cons, List.all_nil, List.any_cons, List.any_nil, Bool.and_true, Bool.true_and, Bool.and_self, Bool.or_true, Bool.true_or, Bool.false_or, Bool.or_false, Bool.not_true, Bool.not_false, Bool.and_false, Bool.false_and, if_true, if_false, ite_true, ite_false, decide_true, decide_false, decide_eq_true_eq, Bool.false_eq_true, reduceCtorEq, Option.some.injEq, Nat.zero_add, eq_self, ↓reduceIte])]
      rfl
    · refine ⟨fl, fll, ?_⟩
      rw [st_ifF (by subst hS; simp only [evIsc, ev, evs, evO, evT, evBs, evBv, evI, Cm.run, runs, evB, evC, evEq, evTr, evIx, evSl, evP, evM, evTy, evRng, callR, bindL, bindT, dis, evAny, Out.fin, retE, held, parGo, ok, onB, ownAt, valAt, noX, wipeS, D.isNon, ER.frz, ER.isV, ER.isB, D.flat, D.flats, defD,
    gd_true, gdO_true, RE.bind_ok, RE.bind_bad, RE.out_ok, RE.out_bad, Out.seq_nx, Out.seq_ret, Out.seq_brk, Out.seq_cnt, ER.d_val, ER.d_fre, ER.d_brw, ER.b_val, ER.b_fre, ER.b_brw, List.getElem?_cons_zero, List.getElem?_cons_succ, List.set_cons_zero, List.set_cons_succ, List.map_cons, List.map_nil, List.cons_append, List.nil_append, List.replicate, List.length_cons, List.length_nil,
    List.all_cons, List.all_nil, List.any_cons, List.any_nil, Bool.and_true, Bool.true_and, Bool.and_self, Bool.or_true, Bool.true_or, Bool.false_or, Bool.or_false, Bool.not_true, Bool.not_false, Bool.and_false, Bool.false_and, if_true, if_false, ite_true, ite_false, decide_true, decide_false, decide_eq_true_eq, Bool.false_eq_true, reduceCtorEq, Option.some.injEq, Nat.zero_add, eq_self, ↓reduceIte, d4, n2, hb]), st_nil, Out.seq_nx]
      subst hS
      rw [st_ret (x := .brw (fl.map D.int) true) (by simp only [evIsc, ev, evs, evO, evT, evBs, evBv, evI, Cm.run, runs, evB, evC, evEq, evTr, evIx, evSl, evP, evM, evTy, evRng, callR, bindL, bindT, dis, evAny, Out.fin, retE, held, parGo, ok, onB, ownAt, valAt, noX, wipeS, D.isNon, ER.frz, ER.isV, ER.isB, D.flat, D.flats, defD,
    gd_true, gdO_true, RE.bind_ok, RE.bind_bad, RE.out_ok, RE.out_bad, Out.seq_nx, Out.seq_ret, Out.seq_brk, Out.seq_cnt, ER.d_val, ER.d_fre, ER.d_brw, ER.b_val, ER.b_fre, ER.b_brw, List.getElem?_cons_zero, List.getElem?_cons_succ, List.set_cons_zero, List.set_cons_succ, List.map_cons, List.map_nil, List.cons_append, List.nil_append, List.replicate, List.length_cons, List.length_nil,
    List.all_cons, List.all_nil, List.any_cons, List.any_nil, Bool.and_true, Bool.true_and, Bool.and_self, Bool.or_true, Bool.true_or, Bool.false_or, Bool.or_false, Bool.not_true, Bool.not_false, Bool.and_false, Bool.false_and, if_true, if_false, ite_true, ite_false, decide_true, decide_false, decide_eq_true_eq, Bool.false_eq_true, reduceCtorEq, Option.some.injEq, Nat.zero_add, eq_self, ↓reduceIte])]
      rfl
  obtain ⟨fl', fll', A⟩ := A
  refine ⟨fl', fll', def_run rfl ?_⟩
  rw [← A, i__law_filling]
  simp only [List.map_cons, List.map_nil, List.replicate, List.cons_append, List.nil_append, D.flat, D.flats, Sms.tl, Bool.and_true, Bool.and_self]
  rw [st_asg (d := .int ((z : Nat) : Int)) (f := true) (by simp only [evIsc, ev, evs, evO, evT, evBs, evBv, evI, Cm.run, runs, evB, evC, evEq, evTr, evIx, evSl, evP, evM, evTy, evRng, callR, bindL, bindT, dis, evAny, Out.fin, retE, held, parGo, ok, onB, ownAt, valAt, noX, wipeS, D.isNon, ER.frz, ER.isV, ER.isB, D.flat, D.flats, defD,
    gd_true, gdO_true, RE.bind_ok, RE.bind_bad, RE.out_ok, RE.out_bad, Out.seq_nx, Out.seq_ret, Out.seq_brk, Out.seq_cnt, ER.d_val, ER.d_fre, ER.d_brw, ER.b_val, ER.b_fre, ER.b_brw, List.getElem?_cons_zero, List.getElem?_cons_succ, List.set_cons_zero, List.set_cons_succ, List.map_cons, List.map_nil, List.cons_append, List.nil_append, List.replicate, List.length_cons, List.length_nil,
    List.all_cons, List.all_nil, List.any_cons, List.any_nil, Bool.and_true, Bool.true_and, Bool.and_self, Bool.or_true, Bool.true_or, Bool.false_or, Bool.or_false, Bool.not_true, Bool.not_false, Bool.and_false, Bool.false_and, if_true, if_false, ite_true, ite_false, decide_true, decide_false, decide_eq_true_eq, Bool.false_eq_true, reduceCtorEq, Option.some.injEq, Nat.zero_add, eq_self, ↓reduceIte, f0, mm])]
  simp only [List.set_cons_zero, List.set_cons_succ]
  rw [st_asgT (d := .tup [.int h, .int w, .int s]) (f := true) (ρ' := [.val (.lst (ns.map D.int)) false, .val (.int (a : Nat)) true, .val (.tup [.int h, .int w, .int s]) true, .val (.int sg) true, .val (.int (z : Nat)) true, .val (.int h) true, .val (.int w) true, .val (.int s) true, .non, .non, .non, .non, .non, .non, .non, .non]) (by simp only [evIsc, ev, evs, evO, evT, evBs, evBv, evI, Cm.run, runs, evB, evC, evEq, evTr, evIx, evSl, evP, evM, evTy, evRng, callR, bindL, bindT, dis, evAny, Out.fin, retE, held, parGo, ok, onB, ownAt, valAt, noX, wipeS, D.isNon, ER.frz, ER.isV, ER.isB, D.flat, D.flats, defD,
    gd_true, gdO_true, RE.bind_ok, RE.bind_bad, RE.out_ok, RE.out_bad, Out.seq_nx, Out.seq_ret, Out.seq_brk, Out.seq_cnt, ER.d_val, ER.d_fre, ER.d_brw, ER.b_val, ER.b_fre, ER.b_brw, List.getElem?_cons_zero, List.getElem?_cons_succ, List.set_cons_zero, List.set_cons_succ, List.map_cons, List.map_nil, List.cons_append, List.nil_append, List.replicate, List.length_cons, List.length_nil,
    List.all_cons, List.all_nil, List.any_cons, List.any_nil, Bool.and_true, Bool.true_and, Bool.and_self, Bool.or_true, Bool.true_or, Bool.false_or, Bool.or_false, Bool.not_true, Bool.not_false, Bool.and_false, Bool.false_and, if_true, if_false, ite_true, ite_false, decide_true, decide_false, decide_eq_true_eq, Bool.false_eq_true, reduceCtorEq, Option.some.injEq, Nat.zero_add, eq_self, ↓reduceIte]) rfl]
  rw [st_own (ds := []) (f := true) (by simp only [evIsc, ev, evs, evO, evT, evBs, evBv, evI, Cm.run, runs, evB, evC, evEq, evTr, evIx, evSl, evP, evM, evTy, evRng, callR, bindL, bindT, dis, evAny, Out.fin, retE, held, parGo, ok, onB, ownAt, valAt, noX, wipeS, D.isNon, ER.frz, ER.isV, ER.isB, D.flat, D.flats, defD,
    gd_true, gdO_true, RE.bind_ok, RE.bind_bad, RE.out_ok, RE.out_bad, Out.seq_nx, Out.seq_ret, Out.seq_brk, Out.seq_cnt, ER.d_val, ER.d_fre, ER.d_brw, ER.b_val, ER.b_fre, ER.b_brw, List.getElem?_cons_zero, List.getElem?_cons_succ, List.set_cons_zero, List.set_cons_succ, List.map_cons, List.map_nil, List.cons_append, List.nil_append, List.replicate, List.length_cons, List.length_nil,
    List.all_cons, List.all_nil, List.any_cons, List.any_nil, Bool.and_true, Bool.true_and, Bool.and_self, Bool.or_true, Bool.true_or, Bool.false_or, Bool.or_false, Bool.not_true, Bool.not_false, Bool.and_false, Bool.false_and, if_true, if_false, ite_true, ite_false, decide_true, decide_false, decide_eq_true_eq, Bool.false_eq_true, reduceCtorEq, Option.some.injEq, Nat.zero_add, eq_self, ↓reduceIte])]
  simp only [List.set_cons_zero, List.set_cons_succ]
  rw [st_asgL lc]
  simp only [List.set_cons_zero, List.set_cons_succ]
  have eS : S [] .non .non = [.val (.lst (ns.map D.int)) false, .val (.int (a : Nat)) true, .val (.tup [.int h, .int w, .int s]) true, .val (.int sg) true, .val (.int (z : Nat)) true, .val (.int h) true, .val (.int w) true, .val (.int s) true, .own [] true, .val (.lst (ol.map D.int)) true, .non, .non, .non, .non, .non, .non] := by rw [hS]; rfl
  rw [← eS, st_for it rfl e]
end K16

set_option Elab.async false
set_option linter.all false
set_option maxRecDepth 100000
set_option maxHeartbeats 0
namespace K16
open Cm
theorem whole_rule_ok (h w s sg : Nat) (h1 : h ≤ 100) (hw : h * w ≤ 16) (g1 : 1 ≤ sg) (g2 : sg ≤ s) : g_whole_rule [.tup [.int h, .int w, .int s], .str [110,111,115,113,117,97,114,101], .lst ((IC [sg]).map D.int)] = .ok (.val (RU (.tup [.int h, .int w, .int s]) (List.range (h * w)) 0 sg) true) := by
  have LIMe : LIM = 16777216 := rfl
  have f0 : G_whole_rule.fn[0]? = some (("many_cells" : PySem.Str), g_many_cells) := rfl
  have f1 : G_whole_rule.fn[1]? = some (("sign_told" : PySem.Str), g_sign_told) := rfl
  have W : G_whole_rule.nw[1]? = some (6, ini_NoSquare) := rfl
  have mo := many_ok h w s h1
  have st := signtold_ok h w s (IC [sg]) 0 sg rfl g1 (by omega) 0 rfl
  have ii : ini_NoSquare [.tup [.int h, .int w, .int s], .lst ((IC (List.range (h * w))).map D.int), .int 0, .int sg] = .ok [.tup [.int h, .int w, .int s], .lst ((IC (List.range (h * w))).map D.int), .int 0, .int sg] := ini_ok (.tup [.int h, .int w, .int s]) rfl (List.range (h * w)) 0 sg
  have r1 : rg1B ((h * w : Nat) : Int) = true := rg1_t (by omega)
  have tn : ((h * w : Nat) : Int).toNat = h * w := Int.toNat_natCast _
  have l1 : ((((IC [sg]).map D.int).length : Nat) : Int) = 1 := rfl
  refine def_run rfl ?_
  rw [i_whole_rule]
  simp only [List.map_cons, List.map_nil, List.replicate, List.cons_append, List.nil_append, D.flat, D.flats, Bool.and_true]
  generalize (IC [sg]).map D.int = N at st l1
  rw [st_ifF (by simp only [evIsc, ev, evs, evO, evT, evBs, evBv, evI, Cm.run, runs, evB, evC, evEq, evTr, evIx, evSl, evP, evM, evTy, evRng, callR, bindL, bindT, dis, evAny, Out.fin, retE, held, parGo, ok, onB, ownAt, valAt, noX, wipeS, D.isNon, ER.frz, ER.isV, ER.isB, D.flat, D.flats, defD,
    gd_true, gdO_true, RE.bind_ok, RE.bind_bad, RE.out_ok, RE.out_bad, Out.seq_nx, Out.seq_ret, Out.seq_brk, Out.seq_cnt, ER.d_val, ER.d_fre, ER.d_brw, ER.b_val, ER.b_fre, ER.b_brw, List.getElem?_cons_zero, List.getElem?_cons_succ, List.set_cons_zero, List.set_cons_succ, List.map_cons, List.map_nil, List.cons_append, List.nil_append, List.replicate, List.length_cons, List.length_nil,
    List.all_cons, List.all_nil, List.any_cons, List.any_nil, Bool.and_true, Bool.true_and, Bool.and_self, Bool.or_true, Bool.true_or, Bool.false_or, Bool.or_false, Bool.not_true, Bool.not_false, Bool.and_false, Bool.false_and, if_true, if_false, ite_true, ite_false, decide_true, decide_false, decide_eq_true_eq, Bool.false_eq_true, reduceCtorEq, Option.some.injEq, Nat.zero_add, eq_self, ↓reduceIte, l1]), st_nil, Out.seq_nx]
  rw [st_asg (d := .int sg) (f := true) (by simp only [evIsc, ev, evs, evO, evT, evBs, evBv, evI, Cm.run, runs, evB, evC, evEq, evTr, evIx, evSl, evP, evM, evTy, evRng, callR, bindL, bindT, dis, evAny, Out.fin, retE, held, parGo, ok, onB, ownAt, valAt, noX, wipeS, D.isNon, ER.frz, ER.isV, ER.isB, D.flat, D.flats, defD,
    gd_true, gdO_true, RE.bind_ok, RE.bind_bad, RE.out_ok, RE.out_bad, Out.seq_nx, Out.seq_ret, Out.seq_brk, Out.seq_cnt, ER.d_val, ER.d_fre, ER.d_brw, ER.b_val, ER.b_fre, ER.b_brw, List.getElem?_cons_zero, List.getElem?_cons_succ, List.set_cons_zero, List.set_cons_succ, List.map_cons, List.map_nil, List.cons_append, List.nil_append, List.replicate, List.length_cons, List.length_nil,
    List.all_cons, List.all_nil, List.any_cons, List.any_nil, Bool.and_true, Bool.true_and, Bool.and_self, Bool.or_true, Bool.true_or, Bool.false_or, Bool.or_false, Bool.not_true, Bool.not_false, Bool.and_false, Bool.false_and, if_true, if_false, ite_true, ite_false, decide_true, decide_false, decide_eq_true_eq, Bool.false_eq_true, reduceCtorEq, Option.some.injEq, Nat.zero_add, eq_self, ↓reduceIte, f1, st])]
  simp only [List.set_cons_zero, List.set_cons_succ]
  rw [st_asgL (ds := (IC (List.range (h * w))).map D.int) (f := true) (by simp only [evIsc, ev, evs, evO, evT, evBs, evBv, evI, Cm.run, runs, evB, evC, evEq, evTr, evIx, evSl, evP, evM, evTy, evRng, callR, bindL, bindT, dis, evAny, Out.fin, retE, held, parGo, ok, onB, ownAt, valAt, noX, wipeS, D.isNon, ER.frz, ER.isV, ER.isB, D.flat, D.flats, defD,
    gd_true, gdO_true, RE.bind_ok, RE.bind_bad, RE.out_ok, RE.out_bad, Out.seq_nx, Out.seq_ret, Out.seq_brk, Out.seq_cnt, ER.d_val, ER.d_fre, ER.d_brw, ER.b_val, ER.b_fre, ER.b_brw, List.getElem?_cons_zero, List.getElem?_cons_succ, List.set_cons_zero, List.set_cons_succ, List.map_cons, List.map_nil, List.cons_append, List.nil_append, List.replicate, List.length_cons, List.length_nil,
    List.all_cons, List.all_nil, List.any_cons, List.any_nil, Bool.and_true, Bool.true_and, Bool.and_self, Bool.or_true, Bool.true_or, Bool.false_or, Bool.or_false, Bool.not_true, Bool.not_false, Bool.and_false, Bool.false_and, if_true, if_false, ite_true, ite_false, decide_true, decide_false, decide_eq_true_eq, Bool.false_eq_true, reduceCtorEq, Option.some.injEq, Nat.zero_add, eq_self, ↓reduceIte, f0, mo, r1, tn, rngL_IC])]
  simp only [List.set_cons_zero, List.set_cons_succ]
  have fin : ∀ ss ρ, ρ = [Sl.val (.tup [.int h, .int w, .int s]) true, .val (.str [110,111,115,113,117,97,114,101]) true, .val (.lst N) false, .val (.int sg) true, .val (.lst ((IC (List.range (h * w))).map D.int)) true] →
      runs G_whole_rule (.cons (.ret (.new 1 (.cons (.var 0) (.cons (.var 4) (.cons (.cint 0) (.cons (.var 3) .nil)))))) ss) ρ = .ret (.val (RU (.tup [.int h, .int w, .int s]) (List.range (h * w)) 0 sg) true) := by
    rintro ss ρ rfl
    rw [st_ret (x := .val (.ins 6 [.tup [.int h, .int w, .int s], .lst ((IC (List.range (h * w))).map D.int), .int 0, .int sg]) true) (by
      simp only [evIsc, ev, evs, evO, evT, evBs, evBv, evI, Cm.run, runs, evB, evC, evEq, evTr, evIx, evSl, evP, evM, evTy, evRng, callR, bindL, bindT, dis, evAny, Out.fin, retE, held, parGo, ok, onB, ownAt, valAt, noX, wipeS, D.isNon, ER.frz, ER.isV, ER.isB, D.flat, D.flats, defD,
    gd_true, gdO_true, RE.bind_ok, RE.bind_bad, RE.out_ok, RE.out_bad, Out.seq_nx, Out.seq_ret, Out.seq_brk, Out.seq_cnt, ER.d_val, ER.d_fre, ER.d_brw, ER.b_val, ER.b_fre, ER.b_brw, List.getElem?_cons_zero, List.getElem?_cons_succ, List.set_cons_zero, List.set_cons_succ, List.map_cons, List.map_nil, List.cons_append, List.nil_append, List.replicate, List.length_cons, List.length_nil,
    List.all_cons, List.all_nil, List.any_cons, List.any_nil, Bool.and_true, Bool.true_and, Bool.and_self, Bool.or_true, Bool.true_or, Bool.false_or, Bool.or_false, Bool.not_true, Bool.not_false, Bool.and_false, Bool.false_and, if_true, if_false, ite_true, ite_false, decide_true, decide_false, decide_eq_true_eq, Bool.false_eq_true, reduceCtorEq, Option.some.injEq, Nat.zero_add, eq_self, ↓reduceIte, W, ii])]
    rfl
  rw [st_ifF (by rfl), st_nil, Out.seq_nx, st_ifT (by rfl), fin _ _ rfl]; rfl
theorem read_ok (h w s sg : Nat) (h1 : h ≤ 100) (hw : h * w ≤ 16) (g1 : 1 ≤ sg) (g2 : sg ≤ s) (s2 : s ≤ 6) :
    g_read_rule [.tup [.int h, .int w, .int s], .str (TL.joinL [32] ([110,111,115,113,117,97,114,101] :: [sg].map dg))] = .ok (.val (RU (.tup [.int h, .int w, .int s]) (List.range (h * w)) 0 sg) true) := by
  have wr := whole_rule_ok h w s sg h1 hw g1 g2
  refine def_run rfl ?_
  simp only [List.map_cons, List.map_nil, List.replicate, List.cons_append, List.nil_append]
  show runs G_read_rule i_read_rule [.val (.tup [.int h, .int w, .int s]) true, .val (.str (TL.joinL [32] ([110,111,115,113,117,97,114,101] :: [sg].map dg))) true, .non, .non, .non, .non, .non, .non] = _
  rw [read_pre _ [sg] (by simp) (fun c hm => by
    rw [List.mem_singleton.mp hm]; omega), i_read_rule]
  simp only [Sms.tl]
  have e3 : evIn (.str [110,111,115,113,117,97,114,101]) (.tup [.str [106, 111, 105, 110, 101, 100], .str [110, 111, 115, 113, 117, 97, 114, 101], .str [114, 105, 110, 103]]) = .ok true := by kernel_rfl
  have F2 : G_read_rule.fn[2]? = some (("whole_rule" : PySem.Str), g_whole_rule) := rfl
  rw [st_ifT (by simp only [evIsc, ev, evs, evO, evT, evBs, evBv, evI, Cm.run, runs, evB, evC, evEq, evTr, evIx, evSl, evP, evM, evTy, evRng, callR, bindL, bindT, dis, evAny, Out.fin, retE, held, parGo, ok, onB, ownAt, valAt, noX, wipeS, D.isNon, ER.frz, ER.isV, ER.isB, D.flat, D.flats, defD,
    gd_true, gdO_true, RE.bind_ok, RE.bind_bad, RE.out_ok, RE.out_bad, Out.seq_nx, Out.seq_ret, Out.seq_brk, Out.seq_cnt, ER.d_val, ER.d_fre, ER.d_brw, ER.b_val, ER.b_fre, ER.b_brw, List.getElem?_cons_zero, List.getElem?_cons_succ, List.set_cons_zero, List.set_cons_succ, List.map_cons, List.map_nil, List.cons_append, List.nil_append, List.replicate, List.length_cons, List.length_nil,
    List.all_cons, List.all_nil, List.any_cons, List.any_nil, Bool.and_true, Bool.true_and, Bool.and_self, Bool.or_true, Bool.true_or, Bool.false_or, Bool.or_false, Bool.not_true, Bool.not_false, Bool.and_false, Bool.false_and, if_true, if_false, ite_true, ite_false, decide_true, decide_false, decide_eq_true_eq, Bool.false_eq_true, reduceCtorEq, Option.some.injEq, Nat.zero_add, eq_self, ↓reduceIte, e3])]
  rw [st_ret (x := .val (RU (.tup [.int h, .int w, .int s]) (List.range (h * w)) 0 sg) true) (by simp only [evIsc, ev, evs, evO, evT, evBs, evBv, evI, Cm.run, runs, evB, evC, evEq, evTr, evIx, evSl, evP, evM, evTy, evRng, callR, bindL, bindT, dis, evAny, Out.fin, retE, held, parGo, ok, onB, ownAt, valAt, noX, wipeS, D.isNon, ER.frz, ER.isV, ER.isB, D.flat, D.flats, defD,
    gd_true, gdO_true, RE.bind_ok, RE.bind_bad, RE.out_ok, RE.out_bad, Out.seq_nx, Out.seq_ret, Out.seq_brk, Out.seq_cnt, ER.d_val, ER.d_fre, ER.d_brw, ER.b_val, ER.b_fre, ER.b_brw, List.getElem?_cons_zero, List.getElem?_cons_succ, List.set_cons_zero, List.set_cons_succ, List.map_cons, List.map_nil, List.cons_append, List.nil_append, List.replicate, List.length_cons, List.length_nil,
    List.all_cons, List.all_nil, List.any_cons, List.any_nil, Bool.and_true, Bool.true_and, Bool.and_self, Bool.or_true, Bool.true_or, Bool.false_or, Bool.or_false, Bool.not_true, Bool.not_false, Bool.and_false, Bool.false_and, if_true, if_false, ite_true, ite_false, decide_true, decide_false, decide_eq_true_eq, Bool.false_eq_true, reduceCtorEq, Option.some.injEq, Nat.zero_add, eq_self, ↓reduceIte, F2, wr])]
  rfl
theorem toldn_ok (F : D) (cs : List Nat) (wn sg : Nat) : g_NoSquare_told_numbers [RU F cs wn sg] = .ok (.fre ((IC [sg]).map D.int) true) := by
  have F0 : G_NoSquare_told_numbers.fi 6 0 = some 3 := rfl
  simp only [evIsc, ev, evs, evO, evT, evBs, evBv, evI, Cm.run, runs, evB, evC, evEq, evTr, evIx, evSl, evP, evM, evTy, evRng, callR, bindL, bindT, dis, evAny, Out.fin, retE, held, parGo, ok, onB, ownAt, valAt, noX, wipeS, D.isNon, ER.frz, ER.isV, ER.isB, D.flat, D.flats, defD,
    gd_true, gdO_true, RE.bind_ok, RE.bind_bad, RE.out_ok, RE.out_bad, Out.seq_nx, Out.seq_ret, Out.seq_brk, Out.seq_cnt, ER.d_val, ER.d_fre, ER.d_brw, ER.b_val, ER.b_fre, ER.b_brw, List.getElem?_cons_zero, List.getElem?_cons_succ, List.set_cons_zero, List.set_cons_succ, List.map_cons, List.map_nil, List.cons_append, List.nil_append, List.replicate, List.length_cons, List.length_nil,
    List.all_cons, List.all_nil, List.any_cons, List.any_nil, Bool.and_true, Bool.true_and, Bool.and_self, Bool.or_true, Bool.true_or, Bool.false_or, Bool.or_false, Bool.not_true, Bool.not_false, Bool.and_false, Bool.false_and, if_true, if_false, ite_true, ite_false, decide_true, decide_false, decide_eq_true_eq, Bool.false_eq_true, reduceCtorEq, Option.some.injEq, Nat.zero_add, eq_self, ↓reduceIte, RU, g_NoSquare_told_numbers, i_NoSquare_told_numbers, F0]
  rfl
end K16

set_option Elab.async false
set_option linter.all false
set_option maxRecDepth 100000
set_option maxHeartbeats 0
namespace K16
open Cm
def FD (fl : List Int) : D := .lst (fl.map D.int)
def vv (fl : List Int) (c : Nat) : Int := fl.getD c 0
theorem at_cs {cs : List Nat} {a : Nat} (h : a < cs.length) : L2.atI ((IC cs).map D.int) ((a : Nat) : Int) = some (.int ((cs.getD a 0 : Nat) : Int)) := by
  refine L2.atI_nat (IC_at ?_)
  rw [List.getD_eq_getElem?_getD, List.getElem?_eq_getElem h]; rfl
theorem at_fl {fl : List Int} {c : Nat} (h : c < fl.length) : L2.atI (fl.map D.int) ((c : Nat) : Int) = some (.int (vv fl c)) := by
  refine atI_int ?_
  rw [vv, List.getD_eq_getElem?_getD, List.getElem?_eq_getElem h]; rfl
theorem cs_lt {cs : List Nat} {n a : Nat} (hc : ∀ c ∈ cs, c < n) (h : a < cs.length) : cs.getD a 0 < n := by
  rw [List.getD_eq_getElem?_getD, List.getElem?_eq_getElem h]
  exact hc _ (List.getElem_mem h)
theorem vv_set {fl : List Int} {i c : Nat} {v : Int} (hc : c < fl.length) : vv (fl.set i v) c = if i = c then v else vv fl c := by
  unfold vv
  rw [List.getD_eq_getElem?_getD, List.getElem?_set]
  by_cases h : i = c
  · subst h
    rw [if_pos rfl, if_pos hc, if_pos rfl]; rfl
  · rw [if_neg h, if_neg h, ← List.getD_eq_getElem?_getD]
def PF (n : Nat) (cs : List Nat) (fl : List Int) : Prop := fl.length = n ∧ ∀ c ∈ cs, 1 ≤ vv fl c ∧ vv fl c ≤ 6
theorem PF.set {n i : Nat} {cs : List Nat} {fl : List Int} {v : Int} (h : PF n cs fl) (hc : ∀ c ∈ cs, c < n) (hv : i ∈ cs → 1 ≤ v ∧ v ≤ 6) : PF n cs (fl.set i v) := by
  refine ⟨by rw [List.length_set]; exact h.1, fun c hm => ?_⟩
  rw [vv_set (by rw [h.1]; exact hc c hm)]
  split
  · rename_i e; subst e; exact hv hm
  · exact h.2 c hm
theorem IC_mem {c : Nat} {cs : List Nat} : ((c : Nat) : Int) ∈ IC cs ↔ c ∈ cs := by
  unfold IC
  rw [List.mem_map]
  exact ⟨fun ⟨d, h, e⟩ => by have : d = c := by omega
                             subst this; exact h, fun h => ⟨c, h, rfl⟩⟩
theorem asked_ok (fs : List D) (h : List Int → Bool) (fls : List (List Int)) (hl : fls.length ≤ 100) (hh : ∀ fl ∈ fls, g_NoSquare_holds [.ins 6 fs, FD fl] = .ok (.val (.bl (h fl)) true)) :
    g__law_asked [.ins 6 fs, .lst (fls.map FD), .lst (fls.map fun fl => D.bl (h fl))] = .ok (.val (.bl true) true) := by
  have LIMe : LIM = 16777216 := rfl
  have M0 : G__law_asked.mt 6 0 = some g_NoSquare_holds := rfl
  refine def_run rfl ?_
  rw [i__law_asked]
  simp only [List.map_cons, List.map_nil, List.replicate, List.cons_append, List.nil_append]
  generalize hb1 : (D.ins 6 fs).flat = b1
  generalize hb2 : (D.lst (fls.map FD)).flat = b2
  generalize hb3 : (D.lst (fls.map fun fl => D.bl (h fl))).flat = b3
  have r1 : rg1B (((fls.map FD).length : Nat) : Int) = true := rg1_t (by rw [List.length_map]; omega)
  have tn : (((fls.map FD).length : Nat) : Int).toNat = fls.length := by rw [List.length_map]; exact Int.toNat_natCast _
  have it : evI G__law_asked (.rng (.cons (.pri .len (.cons (.var 1) .nil)) .nil)) [.val (.ins 6 fs) b1, .val (.lst (fls.map FD)) b2, .val (.lst (fls.map fun fl => D.bl (h fl))) b3, .non, .non, .non] = .ok ⟨(IC (List.range fls.length)).map D.int, true, false⟩ := by
    simp only [evIsc, ev, evs, evO, evT, evBs, evBv, evI, Cm.run, runs, evB, evC, evEq, evTr, evIx, evSl, evP, evM, evTy, evRng, callR, bindL, bindT, dis, evAny, Out.fin, retE, held, parGo, ok, onB, ownAt, valAt, noX, wipeS, D.isNon, ER.frz, ER.isV, ER.isB, D.flat, D.flats, defD,
    gd_true, gdO_true, RE.bind_ok, RE.bind_bad, RE.out_ok, RE.out_bad, Out.seq_nx, Out.seq_ret, Out.seq_brk, Out.seq_cnt, ER.d_val, ER.d_fre, ER.d_brw, ER.b_val, ER.b_fre, ER.b_brw, List.getElem?_cons_zero, List.getElem?_cons_succ, List.set_cons_zero, List.set_cons_succ, List.map_cons, List.map_nil, List.cons_append, List.nil_append, List.replicate, List.length_cons, List.length_nil,
    List.all_cons, List.all_nil, List.any_cons, List.any_nil, Bool.and_true, Bool.true_and, Bool.and_self, Bool.or_true, Bool.true_or, Bool.false_or, Bool.or_false, Bool.not_true, Bool.not_false, Bool.and_false, Bool.false_and, if_true, if_false, ite_true, ite_false, decide_true, decide_false, decide_eq_true_eq, Bool.false_eq_true, reduceCtorEq, Option.some.injEq, Nat.zero_add, eq_self, ↓reduceIte, r1, tn]
    rw [rngL_IC]
  obtain ⟨ρ', e, s3, s4, s5, rfl⟩ := forGo_ix (f := fun x ρ => onB (bindT [3] x true ρ) fun ρ' => runs G__law_asked (.cons (.asg 4 (.pri .list (.cons (.idx (.var 1) (.var 3)) .nil)))
    (.cons (.asg 5 (.mth 0 (.var 0) (.cons (.var 4) .nil)))
    (.cons (.iff (.bop false (.cons (.not (.val (.isi (.var 5) .bool))) (.cons (.val (.cmp .ne (.var 5) (.idx (.var 2) (.var 3)))) (.cons (.val (.cmp .ne (.var 4) (.idx (.var 1) (.var 3)))) .nil)))) (.cons (.ret (.cbl false))
    .nil) .nil)
    .nil))) ρ') (xs := (IC (List.range fls.length)).map D.int) (ρ := [.val (.ins 6 fs) b1, .val (.lst (fls.map FD)) b2, .val (.lst (fls.map fun fl => D.bl (h fl))) b3, .non, .non, .non])
    (fun _ ρ => ∃ s3 s4 s5, ρ = [.val (.ins 6 fs) b1, .val (.lst (fls.map FD)) b2, .val (.lst (fls.map fun fl => D.bl (h fl))) b3, s3, s4, s5])
    (by
      rintro i x ρ hx ⟨s3, s4, s5, rfl⟩
      obtain ⟨k, hk, rfl⟩ := IC_get hx
      have hkl : k < fls.length := by have := List.mem_range.mp (List.mem_of_getElem? hk); omega
      have ek : fls[k]? = some fls[k] := List.getElem?_eq_getElem hkl
      have e1 : L2.atI (fls.map FD) ((k : Nat) : Int) = some (FD fls[k]) := L2.atI_nat (by rw [List.getElem?_map, ek]; rfl)
      have e2 : L2.atI (fls.map fun fl => D.bl (h fl)) ((k : Nat) : Int) = some (.bl (h fls[k])) := L2.atI_nat (by rw [List.getElem?_map, ek]; rfl)
      have q := hh fls[k] (List.getElem_mem hkl)
      have q1 : evEq (.bl (h fls[k])) (.bl (h fls[k])) = .ok true := by cases h fls[k] <;> rfl
      have q2 : evEq (.lst (fls[k].map D.int)) (FD fls[k]) = .ok true := by rw [FD, eq_ints]; simp
      simp only [bindT, D.flat, Bool.or_true, onB_some, List.set_cons_zero, List.set_cons_succ]
      have w4 : ∃ f, ev G__law_asked (.pri .list (.cons (.idx (.var 1) (.var 3)) .nil)) [.val (.ins 6 fs) b1, .val (.lst (fls.map FD)) b2, .val (.lst (fls.map fun fl => D.bl (h fl))) b3, .val (.int ((k : Nat) : Int)) true, s4, s5] = .ok (.fre (fls[k].map D.int) f) := by
        refine ⟨b2, ?_⟩
        simp only [evIsc, ev, evs, evO, evT, evBs, evBv, evI, Cm.run, runs, evB, evC, evTr, evIx, evSl, evP, evM, evTy, evRng, callR, bindL, bindT, dis, evAny, Out.fin, retE, held, parGo, ok, onB, ownAt, valAt, noX, wipeS, D.isNon, ER.frz, ER.isV, ER.isB, D.flat, D.flats, defD,
    gd_true, gdO_true, RE.bind_ok, RE.bind_bad, RE.out_ok, RE.out_bad, Out.seq_nx, Out.seq_ret, Out.seq_brk, Out.seq_cnt, ER.d_val, ER.d_fre, ER.d_brw, ER.b_val, ER.b_fre, ER.b_brw, List.getElem?_cons_zero, List.getElem?_cons_succ, List.set_cons_zero, List.set_cons_succ, List.map_cons, List.map_nil, List.cons_append, List.nil_append, List.replicate, List.length_cons, List.length_nil,
    List.all_cons, List.all_nil, List.any_cons, List.any_nil, Bool.and_true, Bool.true_and, Bool.and_self, Bool.or_true, Bool.true_or, Bool.false_or, Bool.or_false, Bool.not_true, Bool.not_false, Bool.and_false, Bool.false_and, if_true, if_false, ite_true, ite_false, decide_true, decide_false, decide_eq_true_eq, Bool.false_eq_true, reduceCtorEq, Option.some.injEq, Nat.zero_add, eq_self, ↓reduceIte, e1, FD]
      obtain ⟨f4, w4⟩ := w4
      rw [st_asgL w4]
      simp only [List.set_cons_zero, List.set_cons_succ]
      rw [FD] at q
      rw [st_asg (d := .bl (h fls[k])) (f := true) (by simp only [evIsc, ev, evs, evO, evT, evBs, evBv, evI, Cm.run, runs, evB, evC, evTr, evIx, evSl, evP, evM, evTy, evRng, callR, bindL, bindT, dis, evAny, Out.fin, retE, held, parGo, ok, onB, ownAt, valAt, noX, wipeS, D.isNon, ER.frz, ER.isV, ER.isB, D.flat, D.flats, defD,
    gd_true, gdO_true, RE.bind_ok, RE.bind_bad, RE.out_ok, RE.out_bad, Out.seq_nx, Out.seq_ret, Out.seq_brk, Out.seq_cnt, ER.d_val, ER.d_fre, ER.d_brw, ER.b_val, ER.b_fre, ER.b_brw, List.getElem?_cons_zero, List.getElem?_cons_succ, List.set_cons_zero, List.set_cons_succ, List.map_cons, List.map_nil, List.cons_append, List.nil_append, List.replicate, List.length_cons, List.length_nil,
    List.all_cons, List.all_nil, List.any_cons, List.any_nil, Bool.and_true, Bool.true_and, Bool.and_self, Bool.or_true, Bool.true_or, Bool.false_or, Bool.or_false, Bool.not_true, Bool.not_false, Bool.and_false, Bool.false_and, if_true, if_false, ite_true, ite_false, decide_true, decide_false, decide_eq_true_eq, Bool.false_eq_true, reduceCtorEq, Option.some.injEq, Nat.zero_add, eq_self, ↓reduceIte, M0, q])]
      simp only [List.set_cons_zero, List.set_cons_succ]
      rw [st_ifF (by simp only [evIsc, ev, evs, evO, evT, evBs, evBv, evI, Cm.run, runs, evB, evC, evTr, evIx, evSl, evP, evM, evTy, evRng, callR, bindL, bindT, dis, evAny, Out.fin, retE, held, parGo, ok, onB, ownAt, valAt, noX, wipeS, D.isNon, ER.frz, ER.isV, ER.isB, D.flat, D.flats, defD,
    gd_true, gdO_true, RE.bind_ok, RE.bind_bad, RE.out_ok, RE.out_bad, Out.seq_nx, Out.seq_ret, Out.seq_brk, Out.seq_cnt, ER.d_val, ER.d_fre, ER.d_brw, ER.b_val, ER.b_fre, ER.b_brw, List.getElem?_cons_zero, List.getElem?_cons_succ, List.set_cons_zero, List.set_cons_succ, List.map_cons, List.map_nil, List.cons_append, List.nil_append, List.replicate, List.length_cons, List.length_nil,
    List.all_cons, List.all_nil, List.any_cons, List.any_nil, Bool.and_true, Bool.true_and, Bool.and_self, Bool.or_true, Bool.true_or, Bool.false_or, Bool.or_false, Bool.not_true, Bool.not_false, Bool.and_false, Bool.false_and, if_true, if_false, ite_true, ite_false, decide_true, decide_false, decide_eq_true_eq, Bool.false_eq_true, reduceCtorEq, Option.some.injEq, Nat.zero_add, eq_self, ↓reduceIte, e2, q1, e1, q2]), st_nil, Out.seq_nx, st_nil]
      exact ⟨_, rfl, _, _, _, rfl⟩)
    ⟨_, _, _, rfl⟩
  rw [st_for it rfl e]
  rw [st_ret (x := .val (.bl true) true) (by simp only [evIsc, ev, evs, evO, evT, evBs, evBv, evI, Cm.run, runs, evB, evC, evEq, evTr, evIx, evSl, evP, evM, evTy, evRng, callR, bindL, bindT, dis, evAny, Out.fin, retE, held, parGo, ok, onB, ownAt, valAt, noX, wipeS, D.isNon, ER.frz, ER.isV, ER.isB, D.flat, D.flats, defD,
    gd_true, gdO_true, RE.bind_ok, RE.bind_bad, RE.out_ok, RE.out_bad, Out.seq_nx, Out.seq_ret, Out.seq_brk, Out.seq_cnt, ER.d_val, ER.d_fre, ER.d_brw, ER.b_val, ER.b_fre, ER.b_brw, List.getElem?_cons_zero, List.getElem?_cons_succ, List.set_cons_zero, List.set_cons_succ, List.map_cons, List.map_nil, List.cons_append, List.nil_append, List.replicate, List.length_cons, List.length_nil,
    List.all_cons, List.all_nil, List.any_cons, List.any_nil, Bool.and_true, Bool.true_and, Bool.and_self, Bool.or_true, Bool.true_or, Bool.false_or, Bool.or_false, Bool.not_true, Bool.not_false, Bool.and_false, Bool.false_and, if_true, if_false, ite_true, ite_false, decide_true, decide_false, decide_eq_true_eq, Bool.false_eq_true, reduceCtorEq, Option.some.injEq, Nat.zero_add, eq_self, ↓reduceIte])]
  rfl
def nsq (w : Nat) (sg : Nat) (fl : List Int) (b : Nat) : Bool := decide (¬ (vv fl b = sg ∧ vv fl (b + 1) = sg ∧ vv fl (b + w) = sg ∧ vv fl (b + w + 1) = sg))
def du (h w sg : Nat) (fl : List Int) : Bool := (List.range (h - 1)).all fun r => (List.range (w - 1)).all fun c => nsq w sg fl (r * w + c)
theorem rng2_map (n : Nat) : (rngL 1 1 n).map D.int = (List.range n).map fun k => D.int (((k + 1 : Nat) : Nat) : Int) := by
  unfold rngL
  rw [List.map_map]
  exact List.map_congr_left fun k _ => by
    show D.int (1 + (k : Int) * 1) = D.int (((k + 1 : Nat) : Nat) : Int)
    rw [show (1 + (k : Int) * 1) = (((k + 1 : Nat) : Nat) : Int) from by omega]
theorem cnt4 (a b c d k : Int) : (([a, b, c, d] : List Int).count k : Nat) = 4 ↔ (a = k ∧ b = k ∧ c = k ∧ d = k) := by
  simp only [List.count_cons, List.count_nil, beq_iff_eq]
  by_cases h1 : a = k <;> by_cases h2 : b = k <;> by_cases h3 : c = k <;> by_cases h4 : d = k <;> simp [h1, h2, h3, h4]
theorem due_ok (h w s sg : Nat) (fl : List Int) (h1 : 1 ≤ h) (h2 : h ≤ 6) (w1 : 1 ≤ w) (w2 : w ≤ 6) (hf : fl.length = h * w) : g__law_due [.tup [.int h, .int w, .int s], .int sg, FD fl] = .ok (.val (.bl (du h w sg fl)) true) := by
  have LIMe : LIM = 16777216 := rfl
  have t0 : L2.atI [D.int h, .int w, .int s] 0 = some (.int h) := rfl
  have t1 : L2.atI [D.int h, .int w, .int s] 1 = some (.int w) := rfl
  refine def_run rfl ?_
  rw [i__law_due, FD]
  simp only [List.map_cons, List.map_nil, List.replicate, List.cons_append, List.nil_append]
  generalize (D.lst (fl.map D.int)).flat = b1
  simp only [D.flat, D.flats, Bool.and_true]
  have it : evI G__law_due (.rng (.cons (.cint 1) (.cons (.idx (.var 0) (.cint 0)) .nil))) [.val (.tup [.int h, .int w, .int s]) true, .val (.int sg) true, .val (.lst (fl.map D.int)) b1, .non, .non, .non, .non] = .ok ⟨(List.range (h - 1)).map fun k => D.int (((k + 1 : Nat) : Nat) : Int), true, false⟩ := by
    have r1 : rg2B 1 (h : Int) = true := rg2_t (by omega)
    have tn : ((h : Int) - 1).toNat = h - 1 := by omega
    simp only [evIsc, ev, evs, evO, evT, evBs, evBv, evI, Cm.run, runs, evB, evC, evEq, evTr, evIx, evSl, evP, evM, evTy, evRng, callR, bindL, bindT, dis, evAny, Out.fin, retE, held, parGo, ok, onB, ownAt, valAt, noX, wipeS, D.isNon, ER.frz, ER.isV, ER.isB, D.flat, D.flats, defD,
    gd_true, gdO_true, RE.bind_ok, RE.bind_bad, RE.out_ok, RE.out_bad, Out.seq_nx, Out.seq_ret, Out.seq_brk, Out.seq_cnt, ER.d_val, ER.d_fre, ER.d_brw, ER.b_val, ER.b_fre, ER.b_brw, List.getElem?_cons_zero, List.getElem?_cons_succ, List.set_cons_zero, List.set_cons_succ, List.map_cons, List.map_nil, List.cons_append, List.nil_append, List.replicate, List.length_cons, List.length_nil,
    List.all_cons, List.all_nil, List.any_cons, List.any_nil, Bool.and_true, Bool.true_and, Bool.and_self, Bool.or_true, Bool.true_or, Bool.false_or, Bool.or_false, Bool.not_true, Bool.not_false, Bool.and_false, Bool.false_and, if_true, if_false, ite_true, ite_false, decide_true, decide_false, decide_eq_true_eq, Bool.false_eq_true, reduceCtorEq, Option.some.injEq, Nat.zero_add, eq_self, ↓reduceIte, t0, r1, tn, rng2_map]
  have F := forGo_all (r := .ret (.val (.bl false) true)) (I := fun ρ => ∃ s3 s4 s5 s6, ρ = [.val (.tup [.int h, .int w, .int s]) true, .val (.int sg) true, .val (.lst (fl.map D.int)) b1, s3, s4, s5, s6])
    (f := fun x ρ => onB (bindT [3] x true ρ) fun ρ' => runs G__law_due (.cons (.for (.rng (.cons (.cint 1) (.cons (.idx (.var 0) (.cint 1)) .nil))) [4] (.cons (.asg 5 (.bin .add (.bin .mul (.var 3) (.idx (.var 0) (.cint 1))) (.var 4)))
      (.cons (.asg 6 (.lst (.cons (.idx (.var 2) (.var 5)) (.cons (.idx (.var 2) (.bin .sub (.var 5) (.cint 1))) (.cons (.idx (.var 2) (.bin .sub (.var 5) (.idx (.var 0) (.cint 1)))) (.cons (.idx (.var 2) (.bin .sub (.bin .sub (.var 5) (.idx (.var 0) (.cint 1))) (.cint 1))) .nil))))))
      (.cons (.iff (.val (.cmp .eq (.cntL (.var 6) (.var 1)) (.cint 4))) (.cons (.ret (.cbl false)) .nil) .nil) .nil)))) .nil) ρ')
    (p := fun r => (List.range (w - 1)).all fun c => nsq w sg fl (r * w + c)) (en := fun k => D.int (((k + 1 : Nat) : Nat) : Int)) (fun ρ => ⟨by simp, by simp, by simp⟩) (xs := List.range (h - 1))
    (ρ := [.val (.tup [.int h, .int w, .int s]) true, .val (.int sg) true, .val (.lst (fl.map D.int)) b1, .non, .non, .non, .non])
    (by
      rintro r hr ρ ⟨s3, s4, s5, s6, rfl⟩
      have hr' := List.mem_range.mp hr
      have hrw : (r + 1) * w + w ≤ h * w := by
        have := Nat.mul_le_mul_right w (show r + 2 ≤ h by omega)
        rw [show r + 2 = (r + 1) + 1 from rfl, Nat.succ_mul] at this
        exact this
      have hrw2 : (r + 1) * w = r * w + w := Nat.succ_mul r w
      simp only [bindT, D.flat, Bool.or_true, onB_some, List.set_cons_zero, List.set_cons_succ]
      have it2 : evI G__law_due (.rng (.cons (.cint 1) (.cons (.idx (.var 0) (.cint 1)) .nil))) [.val (.tup [.int h, .int w, .int s]) true, .val (.int sg) true, .val (.lst (fl.map D.int)) b1, .val (.int ((r + 1 : Nat) : Nat)) true, s4, s5, s6] = .ok ⟨(List.range (w - 1)).map fun k => D.int (((k + 1 : Nat) : Nat) : Int), true, false⟩ := by
        have r1 : rg2B 1 (w : Int) = true := rg2_t (by omega)
        have tn : ((w : Int) - 1).toNat = w - 1 := by omega
        simp only [evIsc, ev, evs, evO, evT, evBs, evBv, evI, Cm.run, runs, evB, evC, evEq, evTr, evIx, evSl, evP, evM, evTy, evRng, callR, bindL, bindT, dis, evAny, Out.fin, retE, held, parGo, ok, onB, ownAt, valAt, noX, wipeS, D.isNon, ER.frz, ER.isV, ER.isB, D.flat, D.flats, defD,
    gd_true, gdO_true, RE.bind_ok, RE.bind_bad, RE.out_ok, RE.out_bad, Out.seq_nx, Out.seq_ret, Out.seq_brk, Out.seq_cnt, ER.d_val, ER.d_fre, ER.d_brw, ER.b_val, ER.b_fre, ER.b_brw, List.getElem?_cons_zero, List.getElem?_cons_succ, List.set_cons_zero, List.set_cons_succ, List.map_cons, List.map_nil, List.cons_append, List.nil_append, List.replicate, List.length_cons, List.length_nil,
    List.all_cons, List.all_nil, List.any_cons, List.any_nil, Bool.and_true, Bool.true_and, Bool.and_self, Bool.or_true, Bool.true_or, Bool.false_or, Bool.or_false, Bool.not_true, Bool.not_false, Bool.and_false, Bool.false_and, if_true, if_false, ite_true, ite_false, decide_true, decide_false, decide_eq_true_eq, Bool.false_eq_true, reduceCtorEq, Option.some.injEq, Nat.zero_add, eq_self, ↓reduceIte, t1, r1, tn, rng2_map]
      have F := forGo_all (r := .ret (.val (.bl false) true)) (I := fun ρ => ∃ s4 s5 s6, ρ = [.val (.tup [.int h, .int w, .int s]) true, .val (.int sg) true, .val (.lst (fl.map D.int)) b1, .val (.int ((r + 1 : Nat) : Nat)) true, s4, s5, s6])
        (f := fun x ρ => onB (bindT [4] x true ρ) fun ρ' => runs G__law_due (.cons (.asg 5 (.bin .add (.bin .mul (.var 3) (.idx (.var 0) (.cint 1))) (.var 4)))
          (.cons (.asg 6 (.lst (.cons (.idx (.var 2) (.var 5)) (.cons (.idx (.var 2) (.bin .sub (.var 5) (.cint 1))) (.cons (.idx (.var 2) (.bin .sub (.var 5) (.idx (.var 0) (.cint 1)))) (.cons (.idx (.var 2) (.bin .sub (.bin .sub (.var 5) (.idx (.var 0) (.cint 1))) (.cint 1))) .nil))))))
          (.cons (.iff (.val (.cmp .eq (.cntL (.var 6) (.var 1)) (.cint 4))) (.cons (.ret (.cbl false)) .nil) .nil) .nil))) ρ')
        (p := fun c => nsq w sg fl (r * w + c)) (en := fun k => D.int (((k + 1 : Nat) : Nat) : Int)) (fun ρ => ⟨by simp, by simp, by simp⟩) (xs := List.range (w - 1))
        (ρ := [.val (.tup [.int h, .int w, .int s]) true, .val (.int sg) true, .val (.lst (fl.map D.int)) b1, .val (.int ((r + 1 : Nat) : Nat)) true, s4, s5, s6])
        (by
          rintro c hc ρ ⟨s4, s5, s6, rfl⟩
          have hc' := List.mem_range.mp hc
          have mu : mulB ((r + 1 : Nat) : Int) w = true := mul_t (.inl ⟨by omega, by omega⟩)
          have at_ : ((r + 1 : Nat) : Int) * (w : Int) + ((c + 1 : Nat) : Int) = (((r * w + c) + w + 1 : Nat) : Int) := by
            have : ((r + 1 : Nat) : Int) * (w : Int) = (((r + 1) * w : Nat) : Int) := by rw [Int.natCast_mul]
            rw [this, hrw2]
            omega
          have a0 := at_fl (fl := fl) (c := (r * w + c) + w + 1) (by omega)
          have a1 := at_fl (fl := fl) (c := (r * w + c) + w) (by omega)
          have a2 := at_fl (fl := fl) (c := (r * w + c) + 1) (by omega)
          have a3 := at_fl (fl := fl) (c := r * w + c) (by omega)
          have z1 : (((r * w + c) + w + 1 : Nat) : Int) - 1 = (((r * w + c) + w : Nat) : Int) := by omega
          have z2 : (((r * w + c) + w + 1 : Nat) : Int) - (w : Int) = (((r * w + c) + 1 : Nat) : Int) := by omega
          have z3 : (((r * w + c) + 1 : Nat) : Int) - 1 = ((r * w + c : Nat) : Int) := by omega
          have key := cnt4 (vv fl ((r * w + c) + w + 1)) (vv fl ((r * w + c) + w)) (vv fl ((r * w + c) + 1)) (vv fl (r * w + c)) (sg : Int)
          have nq : nsq w sg fl (r * w + c) = decide (¬ (vv fl (r * w + c) = sg ∧ vv fl (r * w + c + 1) = sg ∧ vv fl (r * w + c + w) = sg ∧ vv fl (r * w + c + w + 1) = sg)) := rfl
          simp only [bindT, D.flat, Bool.or_true, onB_some, List.set_cons_zero, List.set_cons_succ]
          rw [st_asg (d := .int (((r * w + c) + w + 1 : Nat) : Int)) (f := true) (by simp only [evIsc, ev, evs, evO, evT, evBs, evBv, evI, Cm.run, runs, evB, evC, evEq, evTr, evIx, evSl, evP, evM, evTy, evRng, callR, bindL, bindT, dis, evAny, Out.fin, retE, held, parGo, ok, onB, ownAt, valAt, noX, wipeS, D.isNon, ER.frz, ER.isV, ER.isB, D.flat, D.flats, defD,
    gd_true, gdO_true, RE.bind_ok, RE.bind_bad, RE.out_ok, RE.out_bad, Out.seq_nx, Out.seq_ret, Out.seq_brk, Out.seq_cnt, ER.d_val, ER.d_fre, ER.d_brw, ER.b_val, ER.b_fre, ER.b_brw, List.getElem?_cons_zero, List.getElem?_cons_succ, List.set_cons_zero, List.set_cons_succ, List.map_cons, List.map_nil, List.cons_append, List.nil_append, List.replicate, List.length_cons, List.length_nil,
    List.all_cons, List.all_nil, List.any_cons, List.any_nil, Bool.and_true, Bool.true_and, Bool.and_self, Bool.or_true, Bool.true_or, Bool.false_or, Bool.or_false, Bool.not_true, Bool.not_false, Bool.and_false, Bool.false_and, if_true, if_false, ite_true, ite_false, decide_true, decide_false, decide_eq_true_eq, Bool.false_eq_true, reduceCtorEq, Option.some.injEq, Nat.zero_add, eq_self, ↓reduceIte, t1, mu, at_])]
          simp only [List.set_cons_zero, List.set_cons_succ]
          generalize vv fl ((r * w + c) + w + 1) = v0 at a0 key nq
          generalize vv fl ((r * w + c) + w) = v1 at a1 key nq
          generalize vv fl ((r * w + c) + 1) = v2 at a2 key nq
          generalize vv fl (r * w + c) = v3 at a3 key nq
          rw [st_asgL (ds := [.int v0, .int v1, .int v2, .int v3]) (f := true) (by simp only [evIsc, ev, evs, evO, evT, evBs, evBv, evI, Cm.run, runs, evB, evC, evEq, evTr, evIx, evSl, evP, evM, evTy, evRng, callR, bindL, bindT, dis, evAny, Out.fin, retE, held, parGo, ok, onB, ownAt, valAt, noX, wipeS, D.isNon, ER.frz, ER.isV, ER.isB, D.flat, D.flats, defD,
    gd_true, gdO_true, RE.bind_ok, RE.bind_bad, RE.out_ok, RE.out_bad, Out.seq_nx, Out.seq_ret, Out.seq_brk, Out.seq_cnt, ER.d_val, ER.d_fre, ER.d_brw, ER.b_val, ER.b_fre, ER.b_brw, List.getElem?_cons_zero, List.getElem?_cons_succ, List.set_cons_zero, List.set_cons_succ, List.map_cons, List.map_nil, List.cons_append, List.nil_append, List.replicate, List.length_cons, List.length_nil,
    List.all_cons, List.all_nil, List.any_cons, List.any_nil, Bool.and_true, Bool.true_and, Bool.and_self, Bool.or_true, Bool.true_or, Bool.false_or, Bool.or_false, Bool.not_true, Bool.not_false, Bool.and_false, Bool.false_and, if_true, if_false, ite_true, ite_false, decide_true, decide_false, decide_eq_true_eq, Bool.false_eq_true, reduceCtorEq, Option.some.injEq, Nat.zero_add, eq_self, ↓reduceIte, t1, a0, z1, a1, z2, a2, z3, a3])]
          simp only [List.set_cons_zero, List.set_cons_succ]
          have ec : evCnt [.int v0, .int v1, .int v2, .int v3] (.int (sg : Int)) = ok (.int (([v0, v1, v2, v3] : List Int).count (sg : Int) : Nat)) := rfl
          by_cases q : v0 = sg ∧ v1 = sg ∧ v2 = sg ∧ v3 = sg
          · have k4 : (((([v0, v1, v2, v3] : List Int).count (sg : Int) : Nat) : Nat) : Int) = 4 := by rw [key.mpr q]; rfl
            refine ⟨fun e => ?_, fun _ => ?_⟩
            · rw [nq] at e
              exact absurd ⟨q.2.2.2, q.2.2.1, q.2.1, q.1⟩ (of_decide_eq_true e)
            · rw [st_ifT (by simp only [evIsc, ev, evs, evO, evT, evBs, evBv, evI, Cm.run, runs, evB, evC, evEq, evTr, evIx, evSl, evP, evM, evTy, evRng, callR, bindL, bindT, dis, evAny, Out.fin, retE, held, parGo, ok, onB, ownAt, valAt, noX, wipeS, D.isNon, ER.frz, ER.isV, ER.isB, D.flat, D.flats, defD,
    gd_true, gdO_true, RE.bind_ok, RE.bind_bad, RE.out_ok, RE.out_bad, Out.seq_nx, Out.seq_ret, Out.seq_brk, Out.seq_cnt, ER.d_val, ER.d_fre, ER.d_brw, ER.b_val, ER.b_fre, ER.b_brw, List.getElem?_cons_zero, List.getElem?_cons_succ, List.set_cons_zero, List.set_cons_succ, List.map_cons, List.map_nil, List.cons_append, List.nil_append, List.replicate, List.length_cons, List.length_nil,
    List.all_cons, List.all_nil, List.any_cons, List.any_nil, Bool.and_true, Bool.true_and, Bool.and_self, Bool.or_true, Bool.true_or, Bool.false_or, Bool.or_false, Bool.not_true, Bool.not_false, Bool.and_false, Bool.false_and, if_true, if_false, ite_true, ite_false, decide_true, decide_false, decide_eq_true_eq, Bool.false_eq_true, reduceCtorEq, Option.some.injEq, Nat.zero_add, eq_self, ↓reduceIte, ec, k4]), st_ret (x := .val (.bl false) true) (by simp only [evIsc, ev, evs, evO, evT, evBs, evBv, evI, Cm.run, runs, evB, evC, evEq, evTr, evIx, evSl, evP, evM, evTy, evRng, callR, bindL, bindT, dis, evAny, Out.fin, retE, held, parGo, ok, onB, ownAt, valAt, noX, wipeS, D.isNon, ER.frz, ER.isV, ER.isB, D.flat, D.flats, defD,
    gd_true, gdO_true, RE.bind_ok, RE.bind_bad, RE.out_ok, RE.out_bad, Out.seq_nx, Out.seq_ret, Out.seq_brk, Out.seq_cnt, ER.d_val, ER.d_fre, ER.d_brw, ER.b_val, ER.b_fre, ER.b_brw, List.getElem?_cons_zero, List.getElem?_cons_succ, List.set_cons_zero, List.set_cons_succ, List.map_cons, List.map_nil, List.cons_append, List.nil_append, List.replicate, List.length_cons, List.length_nil,
    List.all_cons, List.all_nil, List.any_cons, List.any_nil, Bool.and_true, Bool.true_and, Bool.and_self, Bool.or_true, Bool.true_or, Bool.false_or, Bool.or_false, Bool.not_true, Bool.not_false, Bool.and_false, Bool.false_and, if_true, if_false, ite_true, ite_false, decide_true, decide_false, decide_eq_true_eq, Bool.false_eq_true, reduceCtorEq, Option.some.injEq, Nat.zero_add, eq_self, ↓reduceIte])]
              rfl
          · have k4 : ¬ (((([v0, v1, v2, v3] : List Int).count (sg : Int) : Nat) : Nat) : Int) = 4 := fun e => q (key.mp (by omega))
            refine ⟨fun _ => ?_, fun e => ?_⟩
            · rw [st_ifF (by simp only [evIsc, ev, evs, evO, evT, evBs, evBv, evI, Cm.run, runs, evB, evC, evEq, evTr, evIx, evSl, evP, evM, evTy, evRng, callR, bindL, bindT, dis, evAny, Out.fin, retE, held, parGo, ok, onB, ownAt, valAt, noX, wipeS, D.isNon, ER.frz, ER.isV, ER.isB, D.flat, D.flats, defD,
    gd_true, gdO_true, RE.bind_ok, RE.bind_bad, RE.out_ok, RE.out_bad, Out.seq_nx, Out.seq_ret, Out.seq_brk, Out.seq_cnt, ER.d_val, ER.d_fre, ER.d_brw, ER.b_val, ER.b_fre, ER.b_brw, List.getElem?_cons_zero, List.getElem?_cons_succ, List.set_cons_zero, List.set_cons_succ, List.map_cons, List.map_nil, List.cons_append, List.nil_append, List.replicate, List.length_cons, List.length_nil,
    List.all_cons, List.all_nil, List.any_cons, List.any_nil, Bool.and_true, Bool.true_and, Bool.and_self, Bool.or_true, Bool.true_or, Bool.false_or, Bool.or_false, Bool.not_true, Bool.not_false, Bool.and_false, Bool.false_and, if_true, if_false, ite_true, ite_false, decide_true, decide_false, decide_eq_true_eq, Bool.false_eq_true, reduceCtorEq, Option.some.injEq, Nat.zero_add, eq_self, ↓reduceIte, ec, k4]), st_nil, Out.seq_nx, st_nil]
              exact ⟨_, rfl, _, _, _, rfl⟩
            · rw [nq] at e
              exact absurd (of_decide_eq_false e) (fun hh => hh fun z => q ⟨z.2.2.2, z.2.2.1, z.2.1, z.1⟩))
        ⟨_, _, _, rfl⟩
      constructor
      · intro q
        obtain ⟨ρ', e, s4, s5, s6, rfl⟩ := F.1 q
        rw [st_for it2 rfl e, st_nil]
        exact ⟨_, rfl, _, _, _, _, rfl⟩
      · intro q
        have e := F.2 q
        rw [runs, Cm.run, it2]
        simp only [RE.out_ok, Bool.false_eq_true, if_false, e, Out.seq_ret])
    ⟨_, _, _, _, rfl⟩
  by_cases hd : du h w sg fl = true
  · obtain ⟨ρ', e, s3, s4, s5, s6, rfl⟩ := F.1 hd
    rw [st_for it rfl e, st_ret (x := .val (.bl true) true) (by simp only [evIsc, ev, evs, evO, evT, evBs, evBv, evI, Cm.run, runs, evB, evC, evEq, evTr, evIx, evSl, evP, evM, evTy, evRng, callR, bindL, bindT, dis, evAny, Out.fin, retE, held, parGo, ok, onB, ownAt, valAt, noX, wipeS, D.isNon, ER.frz, ER.isV, ER.isB, D.flat, D.flats, defD,
    gd_true, gdO_true, RE.bind_ok, RE.bind_bad, RE.out_ok, RE.out_bad, Out.seq_nx, Out.seq_ret, Out.seq_brk, Out.seq_cnt, ER.d_val, ER.d_fre, ER.d_brw, ER.b_val, ER.b_fre, ER.b_brw, List.getElem?_cons_zero, List.getElem?_cons_succ, List.set_cons_zero, List.set_cons_succ, List.map_cons, List.map_nil, List.cons_append, List.nil_append, List.replicate, List.length_cons, List.length_nil,
    List.all_cons, List.all_nil, List.any_cons, List.any_nil, Bool.and_true, Bool.true_and, Bool.and_self, Bool.or_true, Bool.true_or, Bool.false_or, Bool.or_false, Bool.not_true, Bool.not_false, Bool.and_false, Bool.false_and, if_true, if_false, ite_true, ite_false, decide_true, decide_false, decide_eq_true_eq, Bool.false_eq_true, reduceCtorEq, Option.some.injEq, Nat.zero_add, eq_self, ↓reduceIte]), hd]
    rfl
  · have h' : du h w sg fl = false := by simpa using hd
    have e := F.2 h'
    rw [runs, Cm.run, it]
    simp only [RE.out_ok, Bool.false_eq_true, if_false, e, Out.seq_ret, h']
/-- the squares' first cells -/
def sqp (h w b : Nat) : Bool := decide (b / w < h - 1 ∧ b % w < w - 1)
def bs (h w : Nat) : List Nat := (List.range (h * w)).filter (sqp h w)
def sqD (w b : Nat) : D := .lst [.int b, .int ((b + 1 : Nat) : Nat), .int ((b + w : Nat) : Nat), .int ((b + w + 1 : Nat) : Nat)]
theorem spot_ok (h w s c : Nat) (w1 : 1 ≤ w) (w2 : w ≤ 100) : g_spot_of [.tup [.int h, .int w, .int s], .int c] = .ok (.val (.tup [.int ((c / w : Nat) : Nat), .int ((c % w : Nat) : Nat)]) true) := by
  have t1 : L2.atI [D.int h, .int w, .int s] 1 = some (.int w) := rfl
  have d : divB (w : Int) = true := div_t ⟨by omega, by omega⟩
  have n : nzB (w : Int) = true := nz_t (by omega)
  have e1 := fdivN c w
  have e2 := fmodN c w
  simp only [evIsc, ev, evs, evO, evT, evBs, evBv, evI, Cm.run, runs, evB, evC, evEq, evTr, evIx, evSl, evP, evM, evTy, evRng, callR, bindL, bindT, dis, evAny, Out.fin, retE, held, parGo, ok, onB, ownAt, valAt, noX, wipeS, D.isNon, ER.frz, ER.isV, ER.isB, D.flat, D.flats, defD,
    gd_true, gdO_true, RE.bind_ok, RE.bind_bad, RE.out_ok, RE.out_bad, Out.seq_nx, Out.seq_ret, Out.seq_brk, Out.seq_cnt, ER.d_val, ER.d_fre, ER.d_brw, ER.b_val, ER.b_fre, ER.b_brw, List.getElem?_cons_zero, List.getElem?_cons_succ, List.set_cons_zero, List.set_cons_succ, List.map_cons, List.map_nil, List.cons_append, List.nil_append, List.replicate, List.length_cons, List.length_nil,
    List.all_cons, List.all_nil, List.any_cons, List.any_nil, Bool.and_true, Bool.true_and, Bool.and_self, Bool.or_true, Bool.true_or, Bool.false_or, Bool.or_false, Bool.not_true, Bool.not_false, Bool.and_false, Bool.false_and, if_true, if_false, ite_true, ite_false, decide_true, decide_false, decide_eq_true_eq, Bool.false_eq_true, reduceCtorEq, Option.some.injEq, Nat.zero_add, eq_self, ↓reduceIte, g_spot_of, i_spot_of, t1, d, n, e1, e2]
theorem squares_ok (h w s : Nat) (h1 : 1 ≤ h) (h2 : h ≤ 6) (w1 : 1 ≤ w) (w2 : w ≤ 6) : g_squares [.tup [.int h, .int w, .int s]] = .ok (.fre ((bs h w).map (sqD w)) true) := by
  have LIMe : LIM = 16777216 := rfl
  have f0 : G_squares.fn[0]? = some (("many_cells" : PySem.Str), g_many_cells) := rfl
  have f1 : G_squares.fn[1]? = some (("spot_of" : PySem.Str), g_spot_of) := rfl
  have mo := many_ok h w s (by omega)
  have hw : h * w ≤ 36 := Nat.mul_le_mul h2 w2
  have r1 : rg1B ((h * w : Nat) : Int) = true := rg1_t (by omega)
  have tn : ((h * w : Nat) : Int).toNat = h * w := Int.toNat_natCast _
  refine def_run rfl ?_
  rw [i_squares]
  simp only [List.map_cons, List.map_nil, List.replicate, List.cons_append, List.nil_append, D.flat, D.flats, Bool.and_true]
  rw [st_asgT (d := .tup [.int h, .int w, .int s]) (f := true) (ρ' := [.val (.tup [.int h, .int w, .int s]) true, .val (.int h) true, .val (.int w) true, .val (.int s) true, .non, .non, .non, .non]) (by simp only [evIsc, ev, evs, evO, evT, evBs, evBv, evI, Cm.run, runs, evB, evC, evEq, evTr, evIx, evSl, evP, evM, evTy, evRng, callR, bindL, bindT, dis, evAny, Out.fin, retE, held, parGo, ok, onB, ownAt, valAt, noX, wipeS, D.isNon, ER.frz, ER.isV, ER.isB, D.flat, D.flats, defD,
    gd_true, gdO_true, RE.bind_ok, RE.bind_bad, RE.out_ok, RE.out_bad, Out.seq_nx, Out.seq_ret, Out.seq_brk, Out.seq_cnt, ER.d_val, ER.d_fre, ER.d_brw, ER.b_val, ER.b_fre, ER.b_brw, List.getElem?_cons_zero, List.getElem?_cons_succ, List.set_cons_zero, List.set_cons_succ, List.map_cons, List.map_nil, List.cons_append, List.nil_append, List.replicate, List.length_cons, List.length_nil,
    List.all_cons, List.all_nil, List.any_cons, List.any_nil, Bool.and_true, Bool.true_and, Bool.and_self, Bool.or_true, Bool.true_or, Bool.false_or, Bool.or_false, Bool.not_true, Bool.not_false, Bool.and_false, Bool.false_and, if_true, if_false, ite_true, ite_false, decide_true, decide_false, decide_eq_true_eq, Bool.false_eq_true, reduceCtorEq, Option.some.injEq, Nat.zero_add, eq_self, ↓reduceIte]) rfl]
  rw [st_own (ds := []) (f := true) (by simp only [evIsc, ev, evs, evO, evT, evBs, evBv, evI, Cm.run, runs, evB, evC, evEq, evTr, evIx, evSl, evP, evM, evTy, evRng, callR, bindL, bindT, dis, evAny, Out.fin, retE, held, parGo, ok, onB, ownAt, valAt, noX, wipeS, D.isNon, ER.frz, ER.isV, ER.isB, D.flat, D.flats, defD,
    gd_true, gdO_true, RE.bind_ok, RE.bind_bad, RE.out_ok, RE.out_bad, Out.seq_nx, Out.seq_ret, Out.seq_brk, Out.seq_cnt, ER.d_val, ER.d_fre, ER.d_brw, ER.b_val, ER.b_fre, ER.b_brw, List.getElem?_cons_zero, List.getElem?_cons_succ, List.set_cons_zero, List.set_cons_succ, List.map_cons, List.map_nil, List.cons_append, List.nil_append, List.replicate, List.length_cons, List.length_nil,
    List.all_cons, List.all_nil, List.any_cons, List.any_nil, Bool.and_true, Bool.true_and, Bool.and_self, Bool.or_true, Bool.true_or, Bool.false_or, Bool.or_false, Bool.not_true, Bool.not_false, Bool.and_false, Bool.false_and, if_true, if_false, ite_true, ite_false, decide_true, decide_false, decide_eq_true_eq, Bool.false_eq_true, reduceCtorEq, Option.some.injEq, Nat.zero_add, eq_self, ↓reduceIte])]
  simp only [List.set_cons_zero, List.set_cons_succ]
  have it : evI G_squares (.rng (.cons (.call 0 (.cons (.var 0) .nil)) .nil)) [.val (.tup [.int h, .int w, .int s]) true, .val (.int h) true, .val (.int w) true, .val (.int s) true, .own [] true, .non, .non, .non] = .ok ⟨(IC (List.range (h * w))).map D.int, true, false⟩ := by
    simp only [evIsc, ev, evs, evO, evT, evBs, evBv, evI, Cm.run, runs, evB, evC, evEq, evTr, evIx, evSl, evP, evM, evTy, evRng, callR, bindL, bindT, dis, evAny, Out.fin, retE, held, parGo, ok, onB, ownAt, valAt, noX, wipeS, D.isNon, ER.frz, ER.isV, ER.isB, D.flat, D.flats, defD,
    gd_true, gdO_true, RE.bind_ok, RE.bind_bad, RE.out_ok, RE.out_bad, Out.seq_nx, Out.seq_ret, Out.seq_brk, Out.seq_cnt, ER.d_val, ER.d_fre, ER.d_brw, ER.b_val, ER.b_fre, ER.b_brw, List.getElem?_cons_zero, List.getElem?_cons_succ, List.set_cons_zero, List.set_cons_succ, List.map_cons, List.map_nil, List.cons_append, List.nil_append, List.replicate, List.length_cons, List.length_nil,
    List.all_cons, List.all_nil, List.any_cons, List.any_nil, Bool.and_true, Bool.true_and, Bool.and_self, Bool.or_true, Bool.true_or, Bool.false_or, Bool.or_false, Bool.not_true, Bool.not_false, Bool.and_false, Bool.false_and, if_true, if_false, ite_true, ite_false, decide_true, decide_false, decide_eq_true_eq, Bool.false_eq_true, reduceCtorEq, Option.some.injEq, Nat.zero_add, eq_self, ↓reduceIte, f0, mo, r1, tn, rngL_IC]
  obtain ⟨ρ', e, s5, s6, s7, rfl⟩ := forGo_ix (f := fun x ρ => onB (bindT [5] x true ρ) fun ρ' => runs G_squares (.cons (.asgT [6, 7] (.call 1 (.cons (.var 0) (.cons (.var 5) .nil))))
    (.cons (.iff (.bop true (.cons (.val (.cmp .lt (.var 6) (.bin .sub (.var 1) (.cint 1)))) (.cons (.val (.cmp .lt (.var 7) (.bin .sub (.var 2) (.cint 1)))) .nil))) (.cons (.app 4 (.lst (.cons (.var 5) (.cons (.bin .add (.var 5) (.cint 1)) (.cons (.bin .add (.var 5) (.var 2)) (.cons (.bin .add (.bin .add (.var 5) (.var 2)) (.cint 1)) .nil))))))
    .nil) .nil)
    .nil)) ρ')
    (xs := (IC (List.range (h * w))).map D.int) (ρ := [.val (.tup [.int h, .int w, .int s]) true, .val (.int h) true, .val (.int w) true, .val (.int s) true, .own [] true, .non, .non, .non])
    (fun i ρ => ∃ s5 s6 s7, ρ = [.val (.tup [.int h, .int w, .int s]) true, .val (.int h) true, .val (.int w) true, .val (.int s) true, .own (((List.range i).filter (sqp h w)).map (sqD w)) true, s5, s6, s7])
    (by
      rintro i x ρ hx ⟨s5, s6, s7, rfl⟩
      obtain ⟨k, hk, rfl⟩ := IC_get hx
      obtain ⟨hi, ei⟩ := List.getElem?_eq_some_iff.mp hk
      have ek : k = i := by simpa using ei.symm
      subst ek
      have sp := spot_ok h w s k w1 (by omega)
      have ll : (((List.range k).filter (sqp h w)).map (sqD w)).length < LIM := by
        rw [List.length_map]
        have a := List.length_filter_le (sqp h w) (List.range k)
        rw [List.length_range] at a
        have : k < h * w := by simpa using hi
        omega
      simp only [bindT, D.flat, Bool.or_true, onB_some, List.set_cons_zero, List.set_cons_succ]
      rw [st_asgT (d := .tup [.int ((k / w : Nat) : Nat), .int ((k % w : Nat) : Nat)]) (f := true) (ρ' := [.val (.tup [.int h, .int w, .int s]) true, .val (.int h) true, .val (.int w) true, .val (.int s) true, .own (((List.range k).filter (sqp h w)).map (sqD w)) true, .val (.int (k : Nat)) true, .val (.int ((k / w : Nat) : Nat)) true, .val (.int ((k % w : Nat) : Nat)) true]) (by simp only [evIsc, ev, evs, evO, evT, evBs, evBv, evI, Cm.run, runs, evB, evC, evEq, evTr, evIx, evSl, evP, evM, evTy, evRng, callR, bindL, bindT, dis, evAny, Out.fin, retE, held, parGo, ok, onB, ownAt, valAt, noX, wipeS, D.isNon, ER.frz, ER.isV, ER.isB, D.flat, D.flats, defD,
    gd_true, gdO_true, RE.bind_ok, RE.bind_bad, RE.out_ok, RE.out_bad, Out.seq_nx, Out.seq_ret, Out.seq_brk, Out.seq_cnt, ER.d_val, ER.d_fre, ER.d_brw, ER.b_val, ER.b_fre, ER.b_brw, List.getElem?_cons_zero, List.getElem?_cons_succ, List.set_cons_zero, List.set_cons_succ, List.map_cons, List.map_nil, List.cons_append, List.nil_append, List.replicate, List.length_cons, List.length_nil,
    List.all_cons, List.all_nil, List.any_cons, List.any_nil, Bool.and_true, Bool.true_and, Bool.and_self, Bool.or_true, Bool.true_or, Bool.false_or, Bool.or_false, Bool.not_true, Bool.not_false, Bool.and_false, Bool.false_and, if_true, if_false, ite_true, ite_false, decide_true, decide_false, decide_eq_true_eq, Bool.false_eq_true, reduceCtorEq, Option.some.injEq, Nat.zero_add, eq_self, ↓reduceIte, f1, sp]) rfl]
      rw [List.range_succ, List.filter_append, List.map_append]
      by_cases c1 : ((k / w : Nat) : Int) < (h : Int) - 1
      · by_cases c2 : ((k % w : Nat) : Int) < (w : Int) - 1
        · rw [st_ifT (by simp only [evIsc, ev, evs, evO, evT, evBs, evBv, evI, Cm.run, runs, evB, evC, evEq, evTr, evIx, evSl, evP, evM, evTy, evRng, callR, bindL, bindT, dis, evAny, Out.fin, retE, held, parGo, ok, onB, ownAt, valAt, noX, wipeS, D.isNon, ER.frz, ER.isV, ER.isB, D.flat, D.flats, defD,
    gd_true, gdO_true, RE.bind_ok, RE.bind_bad, RE.out_ok, RE.out_bad, Out.seq_nx, Out.seq_ret, Out.seq_brk, Out.seq_cnt, ER.d_val, ER.d_fre, ER.d_brw, ER.b_val, ER.b_fre, ER.b_brw, List.getElem?_cons_zero, List.getElem?_cons_succ, List.set_cons_zero, List.set_cons_succ, List.map_cons, List.map_nil, List.cons_append, List.nil_append, List.replicate, List.length_cons, List.length_nil,
    List.all_cons, List.all_nil, List.any_cons, List.any_nil, Bool.and_true, Bool.true_and, Bool.and_self, Bool.or_true, Bool.true_or, Bool.false_or, Bool.or_false, Bool.not_true, Bool.not_false, Bool.and_false, Bool.false_and, if_true, if_false, ite_true, ite_false, decide_true, decide_false, decide_eq_true_eq, Bool.false_eq_true, reduceCtorEq, Option.some.injEq, Nat.zero_add, eq_self, ↓reduceIte, c1, c2])]
          have cc : (k / w < h - 1 ∧ k % w < w - 1) := ⟨by omega, by omega⟩
          rw [st_appL (ds := ((List.range k).filter (sqp h w)).map (sqD w)) (c := true) (es := [.int (k : Nat), .int ((k : Nat) + 1), .int ((k : Nat) + (w : Int)), .int ((k : Nat) + (w : Int) + 1)]) (f := true) rfl (by simp only [evIsc, ev, evs, evO, evT, evBs, evBv, evI, Cm.run, runs, evB, evC, evEq, evTr, evIx, evSl, evP, evM, evTy, evRng, callR, bindL, bindT, dis, evAny, Out.fin, retE, held, parGo, ok, onB, ownAt, valAt, noX, wipeS, D.isNon, ER.frz, ER.isV, ER.isB, D.flat, D.flats, defD,
    gd_true, gdO_true, RE.bind_ok, RE.bind_bad, RE.out_ok, RE.out_bad, Out.seq_nx, Out.seq_ret, Out.seq_brk, Out.seq_cnt, ER.d_val, ER.d_fre, ER.d_brw, ER.b_val, ER.b_fre, ER.b_brw, List.getElem?_cons_zero, List.getElem?_cons_succ, List.set_cons_zero, List.set_cons_succ, List.map_cons, List.map_nil, List.cons_append, List.nil_append, List.replicate, List.length_cons, List.length_nil,
    List.all_cons, List.all_nil, List.any_cons, List.any_nil, Bool.and_true, Bool.true_and, Bool.and_self, Bool.or_true, Bool.true_or, Bool.false_or, Bool.or_false, Bool.not_true, Bool.not_false, Bool.and_false, Bool.false_and, if_true, if_false, ite_true, ite_false, decide_true, decide_false, decide_eq_true_eq, Bool.false_eq_true, reduceCtorEq, Option.some.injEq, Nat.zero_add, eq_self, ↓reduceIte]) ll, st_nil, Out.seq_nx, st_nil]
          refine ⟨_, rfl, .val (.int (k : Nat)) true, .val (.int ((k / w : Nat) : Nat)) true, .val (.int ((k % w : Nat) : Nat)) true, ?_⟩
          rw [List.filter_cons_of_pos (show sqp h w k = true from decide_eq_true cc), List.filter_nil]
          simp only [List.map_cons, List.map_nil, List.set_cons_zero, List.set_cons_succ, Bool.and_self]
          rfl
        · rw [st_ifF (by simp only [evIsc, ev, evs, evO, evT, evBs, evBv, evI, Cm.run, runs, evB, evC, evEq, evTr, evIx, evSl, evP, evM, evTy, evRng, callR, bindL, bindT, dis, evAny, Out.fin, retE, held, parGo, ok, onB, ownAt, valAt, noX, wipeS, D.isNon, ER.frz, ER.isV, ER.isB, D.flat, D.flats, defD,
    gd_true, gdO_true, RE.bind_ok, RE.bind_bad, RE.out_ok, RE.out_bad, Out.seq_nx, Out.seq_ret, Out.seq_brk, Out.seq_cnt, ER.d_val, ER.d_fre, ER.d_brw, ER.b_val, ER.b_fre, ER.b_brw, List.getElem?_cons_zero, List.getElem?_cons_succ, List.set_cons_zero, List.set_cons_succ, List.map_cons, List.map_nil, List.cons_append, List.nil_append, List.replicate, List.length_cons, List.length_nil,
    List.all_cons, List.all_nil, List.any_cons, List.any_nil, Bool.and_true, Bool.true_and, Bool.and_self, Bool.or_true, Bool.true_or, Bool.false_or, Bool.or_false, Bool.not_true, Bool.not_false, Bool.and_false, Bool.false_and, if_true, if_false, ite_true, ite_false, decide_true, decide_false, decide_eq_true_eq, Bool.false_eq_true, reduceCtorEq, Option.some.injEq, Nat.zero_add, eq_self, ↓reduceIte, c1, c2]), st_nil, Out.seq_nx, st_nil]
          have cc : ¬ (k / w < h - 1 ∧ k % w < w - 1) := by omega
          refine ⟨_, rfl, .val (.int (k : Nat)) true, .val (.int ((k / w : Nat) : Nat)) true, .val (.int ((k % w : Nat) : Nat)) true, ?_⟩
          rw [List.filter_cons_of_neg (show ¬ sqp h w k = true from fun z => cc (of_decide_eq_true z)), List.filter_nil, List.map_nil, List.append_nil]
      · rw [st_ifF (by simp only [evIsc, ev, evs, evO, evT, evBs, evBv, evI, Cm.run, runs, evB, evC, evEq, evTr, evIx, evSl, evP, evM, evTy, evRng, callR, bindL, bindT, dis, evAny, Out.fin, retE, held, parGo, ok, onB, ownAt, valAt, noX, wipeS, D.isNon, ER.frz, ER.isV, ER.isB, D.flat, D.flats, defD,
    gd_true, gdO_true, RE.bind_ok, RE.bind_bad, RE.out_ok, RE.out_bad, Out.seq_nx, Out.seq_ret, Out.seq_brk, Out.seq_cnt, ER.d_val, ER.d_fre, ER.d_brw, ER.b_val, ER.b_fre, ER.b_brw, List.getElem?_cons_zero, List.getElem?_cons_succ, List.set_cons_zero, List.set_cons_succ, List.map_cons, List.map_nil, List.cons_append, List.nil_append, List.replicate, List.length_cons, List.length_nil,
    List.all_cons, List.all_nil, List.any_cons, List.any_nil, Bool.and_true, Bool.true_and, Bool.and_self, Bool.or_true, Bool.true_or, Bool.false_or, Bool.or_false, Bool.not_true, Bool.not_false, Bool.and_false, Bool.false_and, if_true, if_false, ite_true, ite_false, decide_true, decide_false, decide_eq_true_eq, Bool.false_eq_true, reduceCtorEq, Option.some.injEq, Nat.zero_add, eq_self, ↓reduceIte, c1]), st_nil, Out.seq_nx, st_nil]
        have cc : ¬ (k / w < h - 1 ∧ k % w < w - 1) := by omega
        refine ⟨_, rfl, .val (.int (k : Nat)) true, .val (.int ((k / w : Nat) : Nat)) true, .val (.int ((k % w : Nat) : Nat)) true, ?_⟩
        rw [List.filter_cons_of_neg (show ¬ sqp h w k = true from fun z => cc (of_decide_eq_true z)), List.filter_nil, List.map_nil, List.append_nil])
    ⟨.non, .non, .non, rfl⟩
  rw [st_for it rfl e, IC_len, List.length_range]
  rw [st_ret (x := .brw ((bs h w).map (sqD w)) true) (by simp only [evIsc, ev, evs, evO, evT, evBs, evBv, evI, Cm.run, runs, evB, evC, evEq, evTr, evIx, evSl, evP, evM, evTy, evRng, callR, bindL, bindT, dis, evAny, Out.fin, retE, held, parGo, ok, onB, ownAt, valAt, noX, wipeS, D.isNon, ER.frz, ER.isV, ER.isB, D.flat, D.flats, defD,
    gd_true, gdO_true, RE.bind_ok, RE.bind_bad, RE.out_ok, RE.out_bad, Out.seq_nx, Out.seq_ret, Out.seq_brk, Out.seq_cnt, ER.d_val, ER.d_fre, ER.d_brw, ER.b_val, ER.b_fre, ER.b_brw, List.getElem?_cons_zero, List.getElem?_cons_succ, List.set_cons_zero, List.set_cons_succ, List.map_cons, List.map_nil, List.cons_append, List.nil_append, List.replicate, List.length_cons, List.length_nil,
    List.all_cons, List.all_nil, List.any_cons, List.any_nil, Bool.and_true, Bool.true_and, Bool.and_self, Bool.or_true, Bool.true_or, Bool.false_or, Bool.or_false, Bool.not_true, Bool.not_false, Bool.and_false, Bool.false_and, if_true, if_false, ite_true, ite_false, decide_true, decide_false, decide_eq_true_eq, Bool.false_eq_true, reduceCtorEq, Option.some.injEq, Nat.zero_add, eq_self, ↓reduceIte, bs])]
  rfl
theorem bs_du (h w sg : Nat) (fl : List Int) (h1 : 1 ≤ h) (w1 : 1 ≤ w) : (bs h w).all (nsq w sg fl) = du h w sg fl := by
  rw [Bool.eq_iff_iff]
  unfold bs du
  simp only [List.all_eq_true, List.mem_filter, List.mem_range, sqp, decide_eq_true_eq]
  constructor
  · intro a r hr c hc
    have e1 : (r * w + c) / w = r := by
      rw [Nat.mul_comm, Nat.mul_add_div (by omega), Nat.div_eq_of_lt (by omega), Nat.add_zero]
    have e2 : (r * w + c) % w = c := by
      rw [Nat.mul_comm, Nat.mul_add_mod, Nat.mod_eq_of_lt (by omega)]
    have hlt : r * w + c < h * w := by
      have := Nat.mul_le_mul_right w (show r + 1 ≤ h by omega)
      rw [Nat.succ_mul] at this
      omega
    exact a _ ⟨hlt, by rw [e1]; exact hr, by rw [e2]; exact hc⟩
  · intro a b hb
    have := a (b / w) hb.2.1 (b % w) hb.2.2
    rwa [show b / w * w + b % w = b from by rw [Nat.mul_comm]; exact Nat.div_add_mod b w] at this
theorem holds_ok (h w s : Nat) (fl : List Int) (cs : List Nat) (wn sg : Nat) (h1 : 1 ≤ h) (h2 : h ≤ 6) (w1 : 1 ≤ w) (w2 : w ≤ 6) (hf : fl.length = h * w) : g_NoSquare_holds [RU (.tup [.int h, .int w, .int s]) cs wn sg, FD fl] = .ok (.val (.bl (du h w sg fl)) true) := by
  have LIMe : LIM = 16777216 := rfl
  have F0 : G_NoSquare_holds.fi 6 0 = some 0 := rfl
  have F1 : G_NoSquare_holds.fi 6 1 = some 3 := rfl
  have f0 : G_NoSquare_holds.fn[0]? = some (("squares" : PySem.Str), g_squares) := rfl
  have sq := squares_ok h w s h1 h2 w1 w2
  refine def_run rfl ?_
  rw [i_NoSquare_holds, FD, RU, ← bs_du h w sg fl h1 w1]
  simp only [List.map_cons, List.map_nil, List.replicate, List.cons_append, List.nil_append]
  generalize (D.lst (fl.map D.int)).flat = b1
  generalize hb2 : (D.ins 6 [.tup [.int h, .int w, .int s], .lst ((IC cs).map D.int), .int wn, .int sg]).flat = b2
  have it : evI G_NoSquare_holds (.any (.call 0 (.cons (.fld (.var 0) 0) .nil))) [.val (.ins 6 [.tup [.int h, .int w, .int s], .lst ((IC cs).map D.int), .int wn, .int sg]) b2, .val (.lst (fl.map D.int)) b1, .non, .non] = .ok ⟨(bs h w).map (sqD w), true, false⟩ := by
    simp only [evIsc, ev, evs, evO, evT, evBs, evBv, evI, Cm.run, runs, evB, evC, evEq, evTr, evIx, evSl, evP, evM, evTy, evRng, callR, bindL, bindT, dis, evAny, Out.fin, retE, held, parGo, ok, onB, ownAt, valAt, noX, wipeS, D.isNon, ER.frz, ER.isV, ER.isB, D.flat, D.flats, defD,
    gd_true, gdO_true, RE.bind_ok, RE.bind_bad, RE.out_ok, RE.out_bad, Out.seq_nx, Out.seq_ret, Out.seq_brk, Out.seq_cnt, ER.d_val, ER.d_fre, ER.d_brw, ER.b_val, ER.b_fre, ER.b_brw, List.getElem?_cons_zero, List.getElem?_cons_succ, List.set_cons_zero, List.set_cons_succ, List.map_cons, List.map_nil, List.cons_append, List.nil_append, List.replicate, List.length_cons, List.length_nil,
    List.all_cons, List.all_nil, List.any_cons, List.any_nil, Bool.and_true, Bool.true_and, Bool.and_self, Bool.or_true, Bool.true_or, Bool.false_or, Bool.or_false, Bool.not_true, Bool.not_false, Bool.and_false, Bool.false_and, if_true, if_false, ite_true, ite_false, decide_true, decide_false, decide_eq_true_eq, Bool.false_eq_true, reduceCtorEq, Option.some.injEq, Nat.zero_add, eq_self, ↓reduceIte, F0, f0, sq]
  have F := forGo_all (r := .ret (.val (.bl false) true)) (I := fun ρ => ∃ s2, ρ = [.val (.ins 6 [.tup [.int h, .int w, .int s], .lst ((IC cs).map D.int), .int wn, .int sg]) b2, .val (.lst (fl.map D.int)) b1, s2, .non])
    (f := fun x ρ => onB (bindT [2] x true ρ) fun ρ' => runs G_NoSquare_holds (.cons (.iff (.val (.cmp .eq (.pri .len (.cons (.lc [3] (.any (.var 2)) [3] (.cons (.val (.cmp .eq (.idx (.var 1) (.var 3)) (.fld (.var 0) 1))) .nil) (.var 3)) .nil)) (.cint 4))) (.cons (.ret (.cbl false)) .nil) .nil) .nil) ρ')
    (p := nsq w sg fl) (en := sqD w) (fun ρ => ⟨by simp, by simp, by simp⟩) (xs := bs h w)
    (ρ := [.val (.ins 6 [.tup [.int h, .int w, .int s], .lst ((IC cs).map D.int), .int wn, .int sg]) b2, .val (.lst (fl.map D.int)) b1, .non, .non])
    (by
      rintro b hb ρ ⟨s2, rfl⟩
      have hb' := List.mem_filter.mp hb
      have hbn := List.mem_range.mp hb'.1
      obtain ⟨c1, c2⟩ := of_decide_eq_true hb'.2
      have hsz : b + w + 1 < h * w := by
        have e := Nat.div_add_mod b w
        have m := Nat.mul_le_mul_left w (show b / w + 2 ≤ h by omega)
        rw [Nat.mul_add, Nat.mul_comm w h] at m
        omega
      have bt : bindT [2] (sqD w b) true [.val (.ins 6 [.tup [.int h, .int w, .int s], .lst ((IC cs).map D.int), .int wn, .int sg]) b2, .val (.lst (fl.map D.int)) b1, s2, .non] = some [.val (.ins 6 [.tup [.int h, .int w, .int s], .lst ((IC cs).map D.int), .int wn, .int sg]) b2, .val (.lst (fl.map D.int)) b1, .val (sqD w b) true, .non] := rfl
      rw [bt, onB_some]
      have lc : ev G_NoSquare_holds (.lc [3] (.any (.var 2)) [3] (.cons (.val (.cmp .eq (.idx (.var 1) (.var 3)) (.fld (.var 0) 1))) .nil) (.var 3)) [.val (.ins 6 [.tup [.int h, .int w, .int s], .lst ((IC cs).map D.int), .int wn, .int sg]) b2, .val (.lst (fl.map D.int)) b1, .val (sqD w b) true, .non] = .ok (.fre ((([b, b + 1, b + w, b + w + 1] : List Nat).filter fun c => decide (vv fl c = (sg : Int))).map fun n => D.int ((n : Nat) : Int)) true) := by
        refine ev_lcf (xs := ([b, b + 1, b + w, b + w + 1] : List Nat)) (en := fun n => D.int ((n : Nat) : Int)) (h := fun n => D.int ((n : Nat) : Int)) (p := fun c => decide (vv fl c = (sg : Int))) (b := true) (o := false) ?_ (by show 4 ≤ LIM; decide) (fun c hm => ?_) fun c hm _ => ⟨.val (.int ((c : Nat) : Int)) true, ?_, rfl, rfl, rfl⟩
        · simp only [evIsc, ev, evs, evO, evT, evBs, evBv, evI, Cm.run, runs, evB, evC, evEq, evTr, evIx, evSl, evP, evM, evTy, evRng, callR, bindL, bindT, dis, evAny, Out.fin, retE, held, parGo, ok, onB, ownAt, valAt, noX, wipeS, D.isNon, ER.frz, ER.isV, ER.isB, D.flat, D.flats, defD,
    gd_true, gdO_true, RE.bind_ok, RE.bind_bad, RE.out_ok, RE.out_bad, Out.seq_nx, Out.seq_ret, Out.seq_brk, Out.seq_cnt, ER.d_val, ER.d_fre, ER.d_brw, ER.b_val, ER.b_fre, ER.b_brw, List.getElem?_cons_zero, List.getElem?_cons_succ, List.set_cons_zero, List.set_cons_succ, List.map_cons, List.map_nil, List.cons_append, List.nil_append, List.replicate, List.length_cons, List.length_nil,
    List.all_cons, List.all_nil, List.any_cons, List.any_nil, Bool.and_true, Bool.true_and, Bool.and_self, Bool.or_true, Bool.true_or, Bool.false_or, Bool.or_false, Bool.not_true, Bool.not_false, Bool.and_false, Bool.false_and, if_true, if_false, ite_true, ite_false, decide_true, decide_false, decide_eq_true_eq, Bool.false_eq_true, reduceCtorEq, Option.some.injEq, Nat.zero_add, eq_self, ↓reduceIte, sqD]
        · have hc : c < fl.length := by
            simp only [List.mem_cons, List.not_mem_nil, or_false] at hm
            omega
          have := at_fl hc
          simp only [evIsc, ev, evs, evO, evT, evBs, evBv, evI, Cm.run, runs, evB, evC, evEq, evTr, evIx, evSl, evP, evM, evTy, evRng, callR, bindL, bindT, dis, evAny, Out.fin, retE, held, parGo, ok, onB, ownAt, valAt, noX, wipeS, D.isNon, ER.frz, ER.isV, ER.isB, D.flat, D.flats, defD,
    gd_true, gdO_true, RE.bind_ok, RE.bind_bad, RE.out_ok, RE.out_bad, Out.seq_nx, Out.seq_ret, Out.seq_brk, Out.seq_cnt, ER.d_val, ER.d_fre, ER.d_brw, ER.b_val, ER.b_fre, ER.b_brw, List.getElem?_cons_zero, List.getElem?_cons_succ, List.set_cons_zero, List.set_cons_succ, List.map_cons, List.map_nil, List.cons_append, List.nil_append, List.replicate, List.length_cons, List.length_nil,
    List.all_cons, List.all_nil, List.any_cons, List.any_nil, Bool.and_true, Bool.true_and, Bool.and_self, Bool.or_true, Bool.true_or, Bool.false_or, Bool.or_false, Bool.not_true, Bool.not_false, Bool.and_false, Bool.false_and, if_true, if_false, ite_true, ite_false, decide_true, decide_false, decide_eq_true_eq, Bool.false_eq_true, reduceCtorEq, Option.some.injEq, Nat.zero_add, eq_self, ↓reduceIte, F1, this, Bool.or_true]
        · simp only [evIsc, ev, evs, evO, evT, evBs, evBv, evI, Cm.run, runs, evB, evC, evEq, evTr, evIx, evSl, evP, evM, evTy, evRng, callR, bindL, bindT, dis, evAny, Out.fin, retE, held, parGo, ok, onB, ownAt, valAt, noX, wipeS, D.isNon, ER.frz, ER.isV, ER.isB, D.flat, D.flats, defD,
    gd_true, gdO_true, RE.bind_ok, RE.bind_bad, RE.out_ok, RE.out_bad, Out.seq_nx, Out.seq_ret, Out.seq_brk, Out.seq_cnt, ER.d_val, ER.d_fre, ER.d_brw, ER.b_val, ER.b_fre, ER.b_brw, List.getElem?_cons_zero, List.getElem?_cons_succ, List.set_cons_zero, List.set_cons_succ, List.map_cons, List.map_nil, List.cons_append, List.nil_append, List.replicate, List.length_cons, List.length_nil,
    List.all_cons, List.all_nil, List.any_cons, List.any_nil, Bool.and_true, Bool.true_and, Bool.and_self, Bool.or_true, Bool.true_or, Bool.false_or, Bool.or_false, Bool.not_true, Bool.not_false, Bool.and_false, Bool.false_and, if_true, if_false, ite_true, ite_false, decide_true, decide_false, decide_eq_true_eq, Bool.false_eq_true, reduceCtorEq, Option.some.injEq, Nat.zero_add, eq_self, ↓reduceIte, Bool.or_true]
      have ln : ev G_NoSquare_holds (.pri .len (.cons (.lc [3] (.any (.var 2)) [3] (.cons (.val (.cmp .eq (.idx (.var 1) (.var 3)) (.fld (.var 0) 1))) .nil) (.var 3)) .nil)) [.val (.ins 6 [.tup [.int h, .int w, .int s], .lst ((IC cs).map D.int), .int wn, .int sg]) b2, .val (.lst (fl.map D.int)) b1, .val (sqD w b) true, .non] = .ok (.val (.int (((([b, b + 1, b + w, b + w + 1] : List Nat).filter fun c => decide (vv fl c = (sg : Int))).length : Nat) : Int)) true) := by
        rw [ev_len lc rfl, List.length_map]
        rfl
      have key : ((([b, b + 1, b + w, b + w + 1] : List Nat).filter fun c => decide (vv fl c = (sg : Int))).length = 4) ↔ (vv fl b = sg ∧ vv fl (b + 1) = sg ∧ vv fl (b + w) = sg ∧ vv fl (b + w + 1) = sg) := by
        simp only [List.filter_cons, List.filter_nil]
        by_cases q1 : vv fl b = (sg : Int) <;> by_cases q2 : vv fl (b + 1) = (sg : Int) <;> by_cases q3 : vv fl (b + w) = (sg : Int) <;> by_cases q4 : vv fl (b + w + 1) = (sg : Int) <;> simp [q1, q2, q3, q4]
      by_cases q : vv fl b = sg ∧ vv fl (b + 1) = sg ∧ vv fl (b + w) = sg ∧ vv fl (b + w + 1) = sg
      · have k4 : (((([b, b + 1, b + w, b + w + 1] : List Nat).filter fun c => decide (vv fl c = (sg : Int))).length : Nat) : Int) = 4 := by rw [key.mpr q]; rfl
        refine ⟨fun e => absurd q (of_decide_eq_true e), fun _ => ?_⟩
        rw [st_ifT (by rw [evT, ev, ln, k4]; simp only [evIsc, ev, evs, evO, evT, evBs, evBv, evI, Cm.run, runs, evB, evC, evEq, evTr, evIx, evSl, evP, evM, evTy, evRng, callR, bindL, bindT, dis, evAny, Out.fin, retE, held, parGo, ok, onB, ownAt, valAt, noX, wipeS, D.isNon, ER.frz, ER.isV, ER.isB, D.flat, D.flats, defD,
    gd_true, gdO_true, RE.bind_ok, RE.bind_bad, RE.out_ok, RE.out_bad, Out.seq_nx, Out.seq_ret, Out.seq_brk, Out.seq_cnt, ER.d_val, ER.d_fre, ER.d_brw, ER.b_val, ER.b_fre, ER.b_brw, List.getElem?_cons_zero, List.getElem?_cons_succ, List.set_cons_zero, List.set_cons_succ, List.map_cons, List.map_nil, List.cons_append, List.nil_append, List.replicate, List.length_cons, List.length_nil,
    List.all_cons, List.all_nil, List.any_cons, List.any_nil, Bool.and_true, Bool.true_and, Bool.and_self, Bool.or_true, Bool.true_or, Bool.false_or, Bool.or_false, Bool.not_true, Bool.not_false, Bool.and_false, Bool.false_and, if_true, if_false, ite_true, ite_false, decide_true, decide_false, decide_eq_true_eq, Bool.false_eq_true, reduceCtorEq, Option.some.injEq, Nat.zero_add, eq_self, ↓reduceIte]), st_ret (x := .val (.bl false) true) (by simp only [evIsc, ev, evs, evO, evT, evBs, evBv, evI, Cm.run, runs, evB, evC, evEq, evTr, evIx, evSl, evP, evM, evTy, evRng, callR, bindL, bindT, dis, evAny, Out.fin, retE, held, parGo, ok, onB, ownAt, valAt, noX, wipeS, D.isNon, ER.frz, ER.isV, ER.isB, D.flat, D.flats, defD,
    gd_true, gdO_true, RE.bind_ok, RE.bind_bad, RE.out_ok, RE.out_bad, Out.seq_nx, Out.seq_ret, Out.seq_brk, Out.seq_cnt, ER.d_val, ER.d_fre, ER.d_brw, ER.b_val, ER.b_fre, ER.b_brw, List.getElem?_cons_zero, List.getElem?_cons_succ, List.set_cons_zero, List.set_cons_succ, List.map_cons, List.map_nil, List.cons_append, List.nil_append, List.replicate, List.length_cons, List.length_nil,
    List.all_cons, List.all_nil, List.any_cons, List.any_nil, Bool.and_true, Bool.true_and, Bool.and_self, Bool.or_true, Bool.true_or, Bool.false_or, Bool.or_false, Bool.not_true, Bool.not_false, Bool.and_false, Bool.false_and, if_true, if_false, ite_true, ite_false, decide_true, decide_false, decide_eq_true_eq, Bool.false_eq_true, reduceCtorEq, Option.some.injEq, Nat.zero_add, eq_self, ↓reduceIte])]
        rfl
      · have k4 : ¬ (((([b, b + 1, b + w, b + w + 1] : List Nat).filter fun c => decide (vv fl c = (sg : Int))).length : Nat) : Int) = 4 := fun e => q (key.mp (by omega))
        refine ⟨fun _ => ?_, fun e => absurd q (of_decide_eq_false e)⟩
        generalize (([b, b + 1, b + w, b + w + 1] : List Nat).filter fun c => decide (vv fl c = (sg : Int))).length = L at ln k4
        rw [st_ifF (by rw [evT, ev, ln]; simp only [evIsc, ev, evs, evO, evT, evBs, evBv, evI, Cm.run, runs, evB, evC, evEq, evTr, evIx, evSl, evP, evM, evTy, evRng, callR, bindL, bindT, dis, evAny, Out.fin, retE, held, parGo, ok, onB, ownAt, valAt, noX, wipeS, D.isNon, ER.frz, ER.isV, ER.isB, D.flat, D.flats, defD,
    gd_true, gdO_true, RE.bind_ok, RE.bind_bad, RE.out_ok, RE.out_bad, Out.seq_nx, Out.seq_ret, Out.seq_brk, Out.seq_cnt, ER.d_val, ER.d_fre, ER.d_brw, ER.b_val, ER.b_fre, ER.b_brw, List.getElem?_cons_zero, List.getElem?_cons_succ, List.set_cons_zero, List.set_cons_succ, List.map_cons, List.map_nil, List.cons_append, List.nil_append, List.replicate, List.length_cons, List.length_nil,
    List.all_cons, List.all_nil, List.any_cons, List.any_nil, Bool.and_true, Bool.true_and, Bool.and_self, Bool.or_true, Bool.true_or, Bool.false_or, Bool.or_false, Bool.not_true, Bool.not_false, Bool.and_false, Bool.false_and, if_true, if_false, ite_true, ite_false, decide_true, decide_false, decide_eq_true_eq, Bool.false_eq_true, reduceCtorEq, Option.some.injEq, Nat.zero_add, eq_self, ↓reduceIte, k4]), st_nil, Out.seq_nx, st_nil]
        exact ⟨_, rfl, _, rfl⟩)
    ⟨_, rfl⟩
  by_cases hd : (bs h w).all (nsq w sg fl) = true
  · obtain ⟨ρ', e, s2, rfl⟩ := F.1 hd
    rw [st_for it rfl e, st_ret (x := .val (.bl true) true) (by simp only [evIsc, ev, evs, evO, evT, evBs, evBv, evI, Cm.run, runs, evB, evC, evEq, evTr, evIx, evSl, evP, evM, evTy, evRng, callR, bindL, bindT, dis, evAny, Out.fin, retE, held, parGo, ok, onB, ownAt, valAt, noX, wipeS, D.isNon, ER.frz, ER.isV, ER.isB, D.flat, D.flats, defD,
    gd_true, gdO_true, RE.bind_ok, RE.bind_bad, RE.out_ok, RE.out_bad, Out.seq_nx, Out.seq_ret, Out.seq_brk, Out.seq_cnt, ER.d_val, ER.d_fre, ER.d_brw, ER.b_val, ER.b_fre, ER.b_brw, List.getElem?_cons_zero, List.getElem?_cons_succ, List.set_cons_zero, List.set_cons_succ, List.map_cons, List.map_nil, List.cons_append, List.nil_append, List.replicate, List.length_cons, List.length_nil,
    List.all_cons, List.all_nil, List.any_cons, List.any_nil, Bool.and_true, Bool.true_and, Bool.and_self, Bool.or_true, Bool.true_or, Bool.false_or, Bool.or_false, Bool.not_true, Bool.not_false, Bool.and_false, Bool.false_and, if_true, if_false, ite_true, ite_false, decide_true, decide_false, decide_eq_true_eq, Bool.false_eq_true, reduceCtorEq, Option.some.injEq, Nat.zero_add, eq_self, ↓reduceIte]), hd]
    rfl
  · have h' : (bs h w).all (nsq w sg fl) = false := by simpa using hd
    have e := F.2 h'
    rw [runs, Cm.run, it]
    simp only [RE.out_ok, Bool.false_eq_true, if_false, e, Out.seq_ret, h']
end K16

set_option Elab.async false
set_option linter.all false
set_option maxRecDepth 100000
set_option maxHeartbeats 0
namespace K16
open Cm
theorem law_true : ∀ ns : List Int, ns.length ≤ 63 → (∀ z ∈ ns, PySem.Builtin.Int.intBits z ≤ 1048576) → ∃ b, g_law [.lst (ns.map D.int)] = .ok (.val (.bl true) b) := by
  intro ns hl _
  have LIMe : LIM = 16777216 := rfl
  have f0 : G_law.fn[0]? = some (("_law_asked" : PySem.Str), g__law_asked) := rfl
  have f1 : G_law.fn[1]? = some (("_law_due" : PySem.Str), g__law_due) := rfl
  have f2 : G_law.fn[2]? = some (("_law_filling" : PySem.Str), g__law_filling) := rfl
  have f3 : G_law.fn[3]? = some (("_law_told" : PySem.Str), g__law_told) := rfl
  have f4 : G_law.fn[4]? = some (("read_rule" : PySem.Str), g_read_rule) := rfl
  have f5 : G_law.fn[5]? = some (("_law_mixed" : PySem.Str), g__law_mixed) := rfl
  have f6 : G_law.fn[6]? = some (("_law_floor" : PySem.Str), g__law_floor) := rfl
  have m400 := mx_lit hl 400 400 rfl (by decide)
  have m401 := mx_lit hl 401 401 rfl (by decide)
  obtain ⟨h, w, s, h1, h2, w1, w2, hw, s1, s2, fe⟩ := floor_ok (mx ns 400)
  have hp : 0 < h * w := Nat.mul_pos h1 w1
  have hm : (h : Int) * w = ((h * w : Nat) : Int) := by rw [Int.natCast_mul]
  have mul : mulB (h : Int) w = true := mul_t (.inl ⟨by omega, by omega⟩)
  have t0 : L2.atI [D.int h, .int w, .int s] 0 = some (.int h) := rfl
  have t1 : L2.atI [D.int h, .int w, .int s] 1 = some (.int w) := rfl
  have t2 : L2.atI [D.int h, .int w, .int s] 2 = some (.int s) := rfl
  have nzs : nzB (s : Int) = true := nz_t (by omega)
  obtain ⟨sg, hsg, g1, g2⟩ : ∃ sg : Nat, (1 : Int) + ((mx ns 401 : Nat) : Int).fmod s = (sg : Int) ∧ 1 ≤ sg ∧ sg ≤ s := by
    have b := fmod_lt ((mx ns 401 : Nat) : Int) (n := s) (by omega)
    exact ⟨(1 + ((mx ns 401 : Nat) : Int).fmod s).toNat, by omega, by omega, by omega⟩
  have rd := read_ok h w s sg (by omega) hw g1 g2 s2
  have e0 : evEq (.int 0) (.int 0) = .ok true := rfl
  have to : g__law_told [RU (.tup [.int h, .int w, .int s]) (List.range (h * w)) 0 sg, .str [110,111,115,113,117,97,114,101], .lst ((IC (List.range (h * w))).map D.int), .int 0, .int sg, .bl false, .str (TL.joinL [32] ([110,111,115,113,117,97,114,101] :: [sg].map dg))] = .ok (.val (.bl true) true) :=
    told_ok _ (List.range (h * w)) 0 sg [sg] (by simp; omega) (toldn_ok _ _ 0 sg) (by simp) (fun n hn => by rw [List.mem_singleton.mp hn]; omega)
  have fx : ∀ j : Nat, ∃ fl : List Int, j < 8 → fl.length = h * w ∧ g__law_filling [.lst (ns.map D.int), .int (20 * (j : Int)), .tup [.int h, .int w, .int s], .int sg] = .ok (.fre (fl.map D.int) true) := fun j => by
    by_cases q : j < 8
    · obtain ⟨fl, e⟩ := filling_ok hl (20 * j) (20 * (j : Int)) (by omega) h w s sg h1 h2 w1 hw s1 (by omega)
      exact ⟨fl, fun _ => e⟩
    · exact ⟨[], fun z => absurd z q⟩
  obtain ⟨fs, hfs⟩ := Classical.axiomOfChoice fx
  have hh : ∀ fl ∈ (List.range 8).map fs, g_NoSquare_holds [RU (.tup [.int h, .int w, .int s]) (List.range (h * w)) 0 sg, FD fl] = .ok (.val (.bl (du h w sg fl)) true) := fun fl hf => by
    obtain ⟨j, hj, rfl⟩ := List.mem_map.mp hf
    have := (hfs j (List.mem_range.mp hj)).1
    exact holds_ok h w s _ _ 0 sg h1 h2 w1 w2 this
  have as1 := asked_ok [.tup [.int h, .int w, .int s], .lst ((IC (List.range (h * w))).map D.int), .int ((0 : Nat) : Int), .int sg] (du h w sg) ((List.range 8).map fs) (by simp) hh
  have as2 := asked_ok [.tup [.int h, .int w, .int s], .lst ((IC (List.range (h * w))).map D.int), .int ((0 : Nat) : Int), .int sg] (du h w sg) ((List.range 8).map fs).reverse (by simp) (fun fl hf => hh fl (List.mem_reverse.mp hf))
  rw [List.map_reverse, List.map_reverse] at as2
  have s1' := dg_str sg (by omega)
  have s2' := dg_str2 sg (by omega)
  have ld := (dg_len sg (by omega)).1
  refine ⟨true, def_run rfl ?_⟩
  rw [i_law]
  simp only [List.map_cons, List.map_nil, List.replicate, List.cons_append, List.nil_append, D.flat]
  rw [st_asg (d := .tup [.int h, .int w, .int s]) (f := true) (by simp only [evIsc, ev, evs, evO, evT, evBs, evBv, evI, Cm.run, runs, evB, evC, evEq, evTr, evIx, evSl, evP, evM, evTy, evRng, callR, bindL, bindT, dis, evAny, Out.fin, retE, held, parGo, ok, onB, ownAt, valAt, noX, wipeS, D.isNon, ER.frz, ER.isV, ER.isB, D.flat, D.flats, defD,
    gd_true, gdO_true, RE.bind_ok, RE.bind_bad, RE.out_ok, RE.out_bad, Out.seq_nx, Out.seq_ret, Out.seq_brk, Out.seq_cnt, ER.d_val, ER.d_fre, ER.d_brw, ER.b_val, ER.b_fre, ER.b_brw, List.getElem?_cons_zero, List.getElem?_cons_succ, List.set_cons_zero, List.set_cons_succ, List.map_cons, List.map_nil, List.cons_append, List.nil_append, List.replicate, List.length_cons, List.length_nil,
    List.all_cons, List.all_nil, List.any_cons, List.any_nil, Bool.and_true, Bool.true_and, Bool.and_self, Bool.or_true, Bool.true_or, Bool.false_or, Bool.or_false, Bool.not_true, Bool.not_false, Bool.and_false, Bool.false_and, if_true, if_false, ite_true, ite_false, decide_true, decide_false, decide_eq_true_eq, Bool.false_eq_true, reduceCtorEq, Option.some.injEq, Nat.zero_add, eq_self, ↓reduceIte, f6, f5, m400, fe])]
  simp only [List.set_cons_zero, List.set_cons_succ]
  rw [st_asg (d := .int ((h * w : Nat) : Int)) (f := true) (by simp only [evIsc, ev, evs, evO, evT, evBs, evBv, evI, Cm.run, runs, evB, evC, evEq, evTr, evIx, evSl, evP, evM, evTy, evRng, callR, bindL, bindT, dis, evAny, Out.fin, retE, held, parGo, ok, onB, ownAt, valAt, noX, wipeS, D.isNon, ER.frz, ER.isV, ER.isB, D.flat, D.flats, defD,
    gd_true, gdO_true, RE.bind_ok, RE.bind_bad, RE.out_ok, RE.out_bad, Out.seq_nx, Out.seq_ret, Out.seq_brk, Out.seq_cnt, ER.d_val, ER.d_fre, ER.d_brw, ER.b_val, ER.b_fre, ER.b_brw, List.getElem?_cons_zero, List.getElem?_cons_succ, List.set_cons_zero, List.set_cons_succ, List.map_cons, List.map_nil, List.cons_append, List.nil_append, List.replicate, List.length_cons, List.length_nil,
    List.all_cons, List.all_nil, List.any_cons, List.any_nil, Bool.and_true, Bool.true_and, Bool.and_self, Bool.or_true, Bool.true_or, Bool.false_or, Bool.or_false, Bool.not_true, Bool.not_false, Bool.and_false, Bool.false_and, if_true, if_false, ite_true, ite_false, decide_true, decide_false, decide_eq_true_eq, Bool.false_eq_true, reduceCtorEq, Option.some.injEq, Nat.zero_add, eq_self, ↓reduceIte, t0, t1, mul, hm])]
  simp only [List.set_cons_zero, List.set_cons_succ]
  rw [st_asg (d := .int sg) (f := true) (by simp only [evIsc, ev, evs, evO, evT, evBs, evBv, evI, Cm.run, runs, evB, evC, evEq, evTr, evIx, evSl, evP, evM, evTy, evRng, callR, bindL, bindT, dis, evAny, Out.fin, retE, held, parGo, ok, onB, ownAt, valAt, noX, wipeS, D.isNon, ER.frz, ER.isV, ER.isB, D.flat, D.flats, defD,
    gd_true, gdO_true, RE.bind_ok, RE.bind_bad, RE.out_ok, RE.out_bad, Out.seq_nx, Out.seq_ret, Out.seq_brk, Out.seq_cnt, ER.d_val, ER.d_fre, ER.d_brw, ER.b_val, ER.b_fre, ER.b_brw, List.getElem?_cons_zero, List.getElem?_cons_succ, List.set_cons_zero, List.set_cons_succ, List.map_cons, List.map_nil, List.cons_append, List.nil_append, List.replicate, List.length_cons, List.length_nil,
    List.all_cons, List.all_nil, List.any_cons, List.any_nil, Bool.and_true, Bool.true_and, Bool.and_self, Bool.or_true, Bool.true_or, Bool.false_or, Bool.or_false, Bool.not_true, Bool.not_false, Bool.and_false, Bool.false_and, if_true, if_false, ite_true, ite_false, decide_true, decide_false, decide_eq_true_eq, Bool.false_eq_true, reduceCtorEq, Option.some.injEq, Nat.zero_add, eq_self, ↓reduceIte, f5, m401, t2, nzs, hsg])]
  simp only [List.set_cons_zero, List.set_cons_succ]
  have sh : TL.joinL [32] ([110,111,115,113,117,97,114,101] :: [sg].map dg) = ([110,111,115,113,117,97,114,101,32] : List Nat) ++ dg sg := by simp [TL.joinL]
  rw [st_asg (d := .str (TL.joinL [32] ([110,111,115,113,117,97,114,101] :: [sg].map dg))) (f := true) (by
    rw [sh]
    have l0 : leB (([110,111,115,113,117,97,114,101,32] : List Nat).length + (dg sg).length) = true := le_t (by simp only [List.length_cons, List.length_nil]; omega)
    have p1 : ev G_law (.pri .str (.cons (.var 3) .nil)) [.val (.lst (ns.map D.int)) false, .val (.tup [.int h, .int w, .int s]) true, .val (.int ((h * w : Nat) : Int)) true, .val (.int sg) true, .non, .non, .non, .non, .non, .non] = .ok (.val (.str (dg sg)) true) := by
      simp only [evIsc, ev, evs, evO, evT, evBs, evBv, evI, Cm.run, runs, evB, evC, evEq, evTr, evIx, evSl, evP, evM, evTy, evRng, callR, bindL, bindT, dis, evAny, Out.fin, retE, held, parGo, ok, onB, ownAt, valAt, noX, wipeS, D.isNon, ER.frz, ER.isV, ER.isB, D.flat, D.flats, defD,
    gd_true, gdO_true, RE.bind_ok, RE.bind_bad, RE.out_ok, RE.out_bad, Out.seq_nx, Out.seq_ret, Out.seq_brk, Out.seq_cnt, ER.d_val, ER.d_fre, ER.d_brw, ER.b_val, ER.b_fre, ER.b_brw, List.getElem?_cons_zero, List.getElem?_cons_succ, List.set_cons_zero, List.set_cons_succ, List.map_cons, List.map_nil, List.cons_append, List.nil_append, List.replicate, List.length_cons, List.length_nil,
    List.all_cons, List.all_nil, List.any_cons, List.any_nil, Bool.and_true, Bool.true_and, Bool.and_self, Bool.or_true, Bool.true_or, Bool.false_or, Bool.or_false, Bool.not_true, Bool.not_false, Bool.and_false, Bool.false_and, if_true, if_false, ite_true, ite_false, decide_true, decide_false, decide_eq_true_eq, Bool.false_eq_true, reduceCtorEq, Option.some.injEq, Nat.zero_add, eq_self, ↓reduceIte, s2', s1']
    rw [ev, p1]
    simp only [ev, ok, RE.bind_ok, ER.d_val, evB, l0, gd_true])]
  simp only [List.set_cons_zero, List.set_cons_succ]
  rw [st_asg (d := RU (.tup [.int h, .int w, .int s]) (List.range (h * w)) 0 sg) (f := true) (by
    generalize TL.joinL [32] ([110,111,115,113,117,97,114,101] :: [sg].map dg) = L at rd
    simp only [evIsc, ev, evs, evO, evT, evBs, evBv, evI, Cm.run, runs, evB, evC, evEq, evTr, evIx, evSl, evP, evM, evTy, evRng, callR, bindL, bindT, dis, evAny, Out.fin, retE, held, parGo, ok, onB, ownAt, valAt, noX, wipeS, D.isNon, ER.frz, ER.isV, ER.isB, D.flat, D.flats, defD,
    gd_true, gdO_true, RE.bind_ok, RE.bind_bad, RE.out_ok, RE.out_bad, Out.seq_nx, Out.seq_ret, Out.seq_brk, Out.seq_cnt, ER.d_val, ER.d_fre, ER.d_brw, ER.b_val, ER.b_fre, ER.b_brw, List.getElem?_cons_zero, List.getElem?_cons_succ, List.set_cons_zero, List.set_cons_succ, List.map_cons, List.map_nil, List.cons_append, List.nil_append, List.replicate, List.length_cons, List.length_nil,
    List.all_cons, List.all_nil, List.any_cons, List.any_nil, Bool.and_true, Bool.true_and, Bool.and_self, Bool.or_true, Bool.true_or, Bool.false_or, Bool.or_false, Bool.not_true, Bool.not_false, Bool.and_false, Bool.false_and, if_true, if_false, ite_true, ite_false, decide_true, decide_false, decide_eq_true_eq, Bool.false_eq_true, reduceCtorEq, Option.some.injEq, Nat.zero_add, eq_self, ↓reduceIte, f4, rd])]
  simp only [List.set_cons_zero, List.set_cons_succ]
  have r1 : rg1B ((h * w : Nat) : Int) = true := rg1_t (by omega)
  have tn : ((h * w : Nat) : Int).toNat = h * w := Int.toNat_natCast _
  rw [st_ifF (by
    generalize TL.joinL [32] ([110,111,115,113,117,97,114,101] :: [sg].map dg) = L at to
    simp only [evIsc, ev, evs, evO, evT, evBs, evBv, evI, Cm.run, runs, evB, evC, evEq, evTr, evIx, evSl, evP, evM, evTy, evRng, callR, bindL, bindT, dis, evAny, Out.fin, retE, held, parGo, ok, onB, ownAt, valAt, noX, wipeS, D.isNon, ER.frz, ER.isV, ER.isB, D.flat, D.flats, defD,
    gd_true, gdO_true, RE.bind_ok, RE.bind_bad, RE.out_ok, RE.out_bad, Out.seq_nx, Out.seq_ret, Out.seq_brk, Out.seq_cnt, ER.d_val, ER.d_fre, ER.d_brw, ER.b_val, ER.b_fre, ER.b_brw, List.getElem?_cons_zero, List.getElem?_cons_succ, List.set_cons_zero, List.set_cons_succ, List.map_cons, List.map_nil, List.cons_append, List.nil_append, List.replicate, List.length_cons, List.length_nil,
    List.all_cons, List.all_nil, List.any_cons, List.any_nil, Bool.and_true, Bool.true_and, Bool.and_self, Bool.or_true, Bool.true_or, Bool.false_or, Bool.or_false, Bool.not_true, Bool.not_false, Bool.and_false, Bool.false_and, if_true, if_false, ite_true, ite_false, decide_true, decide_false, decide_eq_true_eq, Bool.false_eq_true, reduceCtorEq, Option.some.injEq, Nat.zero_add, eq_self, ↓reduceIte, f3, r1, tn, rngL_IC, to]), st_nil, Out.seq_nx]
  rw [st_asgL (ds := ((List.range 8).map fs).map FD) (f := true) (by
    rw [List.map_map]
    refine ev_lc (xs := List.range 8) (en := fun j => D.int ((j : Nat) : Int)) (h := fun j => FD (fs j)) (b := true) (o := false) (by kernel_rfl) (by decide) fun j hj => ⟨.fre ((fs j).map D.int) true, ?_, rfl, rfl, rfl⟩
    have q := (hfs j (List.mem_range.mp hj)).2
    have m20 : mulB 20 (j : Int) = true := mul_t (.inl ⟨by decide, by decide⟩)
    simp only [evIsc, ev, evs, evO, evT, evBs, evBv, evI, Cm.run, runs, evB, evC, evEq, evTr, evIx, evSl, evP, evM, evTy, evRng, callR, bindL, bindT, dis, evAny, Out.fin, retE, held, parGo, ok, onB, ownAt, valAt, noX, wipeS, D.isNon, ER.frz, ER.isV, ER.isB, D.flat, D.flats, defD,
    gd_true, gdO_true, RE.bind_ok, RE.bind_bad, RE.out_ok, RE.out_bad, Out.seq_nx, Out.seq_ret, Out.seq_brk, Out.seq_cnt, ER.d_val, ER.d_fre, ER.d_brw, ER.b_val, ER.b_fre, ER.b_brw, List.getElem?_cons_zero, List.getElem?_cons_succ, List.set_cons_zero, List.set_cons_succ, List.map_cons, List.map_nil, List.cons_append, List.nil_append, List.replicate, List.length_cons, List.length_nil,
    List.all_cons, List.all_nil, List.any_cons, List.any_nil, Bool.and_true, Bool.true_and, Bool.and_self, Bool.or_true, Bool.true_or, Bool.false_or, Bool.or_false, Bool.not_true, Bool.not_false, Bool.and_false, Bool.false_and, if_true, if_false, ite_true, ite_false, decide_true, decide_false, decide_eq_true_eq, Bool.false_eq_true, reduceCtorEq, Option.some.injEq, Nat.zero_add, eq_self, ↓reduceIte, f2, m20, q])]
  simp only [List.set_cons_zero, List.set_cons_succ]
  rw [st_asgL (ds := ((List.range 8).map fs).map fun fl => D.bl (du h w sg fl)) (f := true) (by
    refine ev_lc (xs := (List.range 8).map fs) (en := FD) (h := fun fl => D.bl (du h w sg fl)) (b := true) (o := false) (by simp only [evIsc, ev, evs, evO, evT, evBs, evBv, evI, Cm.run, runs, evB, evC, evEq, evTr, evIx, evSl, evP, evM, evTy, evRng, callR, bindL, bindT, dis, evAny, Out.fin, retE, held, parGo, ok, onB, ownAt, valAt, noX, wipeS, D.isNon, ER.frz, ER.isV, ER.isB, D.flat, D.flats, defD,
    gd_true, gdO_true, RE.bind_ok, RE.bind_bad, RE.out_ok, RE.out_bad, Out.seq_nx, Out.seq_ret, Out.seq_brk, Out.seq_cnt, ER.d_val, ER.d_fre, ER.d_brw, ER.b_val, ER.b_fre, ER.b_brw, List.getElem?_cons_zero, List.getElem?_cons_succ, List.set_cons_zero, List.set_cons_succ, List.map_cons, List.map_nil, List.cons_append, List.nil_append, List.replicate, List.length_cons, List.length_nil,
    List.all_cons, List.all_nil, List.any_cons, List.any_nil, Bool.and_true, Bool.true_and, Bool.and_self, Bool.or_true, Bool.true_or, Bool.false_or, Bool.or_false, Bool.not_true, Bool.not_false, Bool.and_false, Bool.false_and, if_true, if_false, ite_true, ite_false, decide_true, decide_false, decide_eq_true_eq, Bool.false_eq_true, reduceCtorEq, Option.some.injEq, Nat.zero_add, eq_self, ↓reduceIte]) (by simp; decide) fun fl hf => ⟨.val (.bl (du h w sg fl)) true, ?_, rfl, rfl, rfl⟩
    obtain ⟨j, hj, rfl⟩ := List.mem_map.mp hf
    have hlen := (hfs j (List.mem_range.mp hj)).1
    have q := due_ok h w s sg (fs j) h1 h2 w1 w2 hlen
    simp only [evIsc, ev, evs, evO, evT, evBs, evBv, evI, Cm.run, runs, evB, evC, evEq, evTr, evIx, evSl, evP, evM, evTy, evRng, callR, bindL, bindT, dis, evAny, Out.fin, retE, held, parGo, ok, onB, ownAt, valAt, noX, wipeS, D.isNon, ER.frz, ER.isV, ER.isB, D.flat, D.flats, defD,
    gd_true, gdO_true, RE.bind_ok, RE.bind_bad, RE.out_ok, RE.out_bad, Out.seq_nx, Out.seq_ret, Out.seq_brk, Out.seq_cnt, ER.d_val, ER.d_fre, ER.d_brw, ER.b_val, ER.b_fre, ER.b_brw, List.getElem?_cons_zero, List.getElem?_cons_succ, List.set_cons_zero, List.set_cons_succ, List.map_cons, List.map_nil, List.cons_append, List.nil_append, List.replicate, List.length_cons, List.length_nil,
    List.all_cons, List.all_nil, List.any_cons, List.any_nil, Bool.and_true, Bool.true_and, Bool.and_self, Bool.or_true, Bool.true_or, Bool.false_or, Bool.or_false, Bool.not_true, Bool.not_false, Bool.and_false, Bool.false_and, if_true, if_false, ite_true, ite_false, decide_true, decide_false, decide_eq_true_eq, Bool.false_eq_true, reduceCtorEq, Option.some.injEq, Nat.zero_add, eq_self, ↓reduceIte, f1, q])]
  simp only [List.set_cons_zero, List.set_cons_succ]
  rw [RU] at *
  rw [st_ifF (by simp only [evIsc, ev, evs, evO, evT, evBs, evBv, evI, Cm.run, runs, evB, evC, evEq, evTr, evIx, evSl, evP, evM, evTy, evRng, callR, bindL, bindT, dis, evAny, Out.fin, retE, held, parGo, ok, onB, ownAt, valAt, noX, wipeS, D.isNon, ER.frz, ER.isV, ER.isB, D.flat, D.flats, defD,
    gd_true, gdO_true, RE.bind_ok, RE.bind_bad, RE.out_ok, RE.out_bad, Out.seq_nx, Out.seq_ret, Out.seq_brk, Out.seq_cnt, ER.d_val, ER.d_fre, ER.d_brw, ER.b_val, ER.b_fre, ER.b_brw, List.getElem?_cons_zero, List.getElem?_cons_succ, List.set_cons_zero, List.set_cons_succ, List.map_cons, List.map_nil, List.cons_append, List.nil_append, List.replicate, List.length_cons, List.length_nil,
    List.all_cons, List.all_nil, List.any_cons, List.any_nil, Bool.and_true, Bool.true_and, Bool.and_self, Bool.or_true, Bool.true_or, Bool.false_or, Bool.or_false, Bool.not_true, Bool.not_false, Bool.and_false, Bool.false_and, if_true, if_false, ite_true, ite_false, decide_true, decide_false, decide_eq_true_eq, Bool.false_eq_true, reduceCtorEq, Option.some.injEq, Nat.zero_add, eq_self, ↓reduceIte, f0, as1]), st_nil, Out.seq_nx]
  rw [st_ret (x := .val (.bl true) true) (by simp only [evIsc, ev, evs, evO, evT, evBs, evBv, evI, Cm.run, runs, evB, evC, evEq, evTr, evIx, evSl, evP, evM, evTy, evRng, callR, bindL, bindT, dis, evAny, Out.fin, retE, held, parGo, ok, onB, ownAt, valAt, noX, wipeS, D.isNon, ER.frz, ER.isV, ER.isB, D.flat, D.flats, defD,
    gd_true, gdO_true, RE.bind_ok, RE.bind_bad, RE.out_ok, RE.out_bad, Out.seq_nx, Out.seq_ret, Out.seq_brk, Out.seq_cnt, ER.d_val, ER.d_fre, ER.d_brw, ER.b_val, ER.b_fre, ER.b_brw, List.getElem?_cons_zero, List.getElem?_cons_succ, List.set_cons_zero, List.set_cons_succ, List.map_cons, List.map_nil, List.cons_append, List.nil_append, List.replicate, List.length_cons, List.length_nil,
    List.all_cons, List.all_nil, List.any_cons, List.any_nil, Bool.and_true, Bool.true_and, Bool.and_self, Bool.or_true, Bool.true_or, Bool.false_or, Bool.or_false, Bool.not_true, Bool.not_false, Bool.and_false, Bool.false_and, if_true, if_false, ite_true, ite_false, decide_true, decide_false, decide_eq_true_eq, Bool.false_eq_true, reduceCtorEq, Option.some.injEq, Nat.zero_add, eq_self, ↓reduceIte, f0, as2])]
  rfl
end K16

set_option Elab.async false
set_option linter.all false
set_option maxRecDepth 100000
set_option maxHeartbeats 0
namespace K16
open Cm PySem PySem.Spec PyProof.Rows L2
def top (i : Nat) : Stmt := PySem.Challenge.pw_cluemaker_k16_squares_of_a_sign.main.body.getD i (.Pass ⟨0, 0, 0, 0⟩)
def sub (i j : Nat) : Stmt := match top i with
  | .ClassDef _ _ _ body _ _ _ _ _ _ _ => body.getD j (.Pass ⟨0, 0, 0, 0⟩)
  | _ => .Pass ⟨0, 0, 0, 0⟩
def d_spot_of : He.DefD := ⟨("spot_of", none), "spot_of", "spot_of", defArgs (top 6), defBody (top 6), defScope (top 6), [], []⟩
def d_beside : He.DefD := ⟨("beside", none), "beside", "beside", defArgs (top 7), defBody (top 7), defScope (top 7), [], []⟩
def d_reached : He.DefD := ⟨("reached", none), "reached", "reached", defArgs (top 9), defBody (top 9), defScope (top 9), [], []⟩
def d_are_joined : He.DefD := ⟨("are_joined", none), "are_joined", "are_joined", defArgs (top 18), defBody (top 18), defScope (top 18), [], []⟩
def d_cells_with : He.DefD := ⟨("cells_with", none), "cells_with", "cells_with", defArgs (top 17), defBody (top 17), defScope (top 17), [], []⟩
def d_many_cells : He.DefD := ⟨("many_cells", none), "many_cells", "many_cells", defArgs (top 5), defBody (top 5), defScope (top 5), [], []⟩
def d_squares : He.DefD := ⟨("squares", none), "squares", "squares", defArgs (top 8), defBody (top 8), defScope (top 8), [], []⟩
def d__law_asked : He.DefD := ⟨("_law_asked", none), "_law_asked", "_law_asked", defArgs (top 38), defBody (top 38), defScope (top 38), [], []⟩
def d__law_due : He.DefD := ⟨("_law_due", none), "_law_due", "_law_due", defArgs (top 37), defBody (top 37), defScope (top 37), [], []⟩
def d__law_mixed : He.DefD := ⟨("_law_mixed", none), "_law_mixed", "_law_mixed", defArgs (top 31), defBody (top 31), defScope (top 31), [], []⟩
def d__law_other : He.DefD := ⟨("_law_other", none), "_law_other", "_law_other", defArgs (top 35), defBody (top 35), defScope (top 35), [], []⟩
def d__law_filling : He.DefD := ⟨("_law_filling", none), "_law_filling", "_law_filling", defArgs (top 36), defBody (top 36), defScope (top 36), [], []⟩
def d__law_whole : He.DefD := ⟨("_law_whole", none), "_law_whole", "_law_whole", defArgs (top 33), defBody (top 33), defScope (top 33), [], []⟩
def d__law_told : He.DefD := ⟨("_law_told", none), "_law_told", "_law_told", defArgs (top 34), defBody (top 34), defScope (top 34), [], []⟩
def d_cells_told : He.DefD := ⟨("cells_told", none), "cells_told", "cells_told", defArgs (top 27), defBody (top 27), defScope (top 27), [], []⟩
def d_sign_told : He.DefD := ⟨("sign_told", none), "sign_told", "sign_told", defArgs (top 26), defBody (top 26), defScope (top 26), [], []⟩
def d_whole_rule : He.DefD := ⟨("whole_rule", none), "whole_rule", "whole_rule", defArgs (top 28), defBody (top 28), defScope (top 28), [], []⟩
def d_number_of : He.DefD := ⟨("number_of", none), "number_of", "number_of", defArgs (top 25), defBody (top 25), defScope (top 25), [], []⟩
def d_read_rule : He.DefD := ⟨("read_rule", none), "read_rule", "read_rule", defArgs (top 29), defBody (top 29), defScope (top 29), [], []⟩
def d__law_floor : He.DefD := ⟨("_law_floor", none), "_law_floor", "_law_floor", defArgs (top 32), defBody (top 32), defScope (top 32), [], []⟩
def d_law : He.DefD := ⟨("law", none), "law", "law", defArgs (top 39), defBody (top 39), defScope (top 39), [], []⟩
def d_Unlike_spots : He.DefD := ⟨("Unlike", some "spots"), "spots", "Rule.spots", defArgs (sub 11 2), defBody (sub 11 2), defScope (sub 11 2), [], []⟩
def d_Total_spots : He.DefD := ⟨("Total", some "spots"), "spots", "Rule.spots", defArgs (sub 11 2), defBody (sub 11 2), defScope (sub 11 2), [], []⟩
def d_Rising_spots : He.DefD := ⟨("Rising", some "spots"), "spots", "Rule.spots", defArgs (sub 11 2), defBody (sub 11 2), defScope (sub 11 2), [], []⟩
def d_Seen_spots : He.DefD := ⟨("Seen", some "spots"), "spots", "Rule.spots", defArgs (sub 11 2), defBody (sub 11 2), defScope (sub 11 2), [], []⟩
def d_Counted_spots : He.DefD := ⟨("Counted", some "spots"), "spots", "Rule.spots", defArgs (sub 11 2), defBody (sub 11 2), defScope (sub 11 2), [], []⟩
def d_Joined_spots : He.DefD := ⟨("Joined", some "spots"), "spots", "Rule.spots", defArgs (sub 11 2), defBody (sub 11 2), defScope (sub 11 2), [], []⟩
def d_NoSquare_spots : He.DefD := ⟨("NoSquare", some "spots"), "spots", "Rule.spots", defArgs (sub 11 2), defBody (sub 11 2), defScope (sub 11 2), [], []⟩
def d_Ring_spots : He.DefD := ⟨("Ring", some "spots"), "spots", "Rule.spots", defArgs (sub 11 2), defBody (sub 11 2), defScope (sub 11 2), [], []⟩
def d_Unlike_sign : He.DefD := ⟨("Unlike", some "sign"), "sign", "Rule.sign", defArgs (sub 11 5), defBody (sub 11 5), defScope (sub 11 5), [], []⟩
def d_Total_sign : He.DefD := ⟨("Total", some "sign"), "sign", "Rule.sign", defArgs (sub 11 5), defBody (sub 11 5), defScope (sub 11 5), [], []⟩
def d_Rising_sign : He.DefD := ⟨("Rising", some "sign"), "sign", "Rule.sign", defArgs (sub 11 5), defBody (sub 11 5), defScope (sub 11 5), [], []⟩
def d_Seen_sign : He.DefD := ⟨("Seen", some "sign"), "sign", "Rule.sign", defArgs (sub 11 5), defBody (sub 11 5), defScope (sub 11 5), [], []⟩
def d_Counted_sign : He.DefD := ⟨("Counted", some "sign"), "sign", "Rule.sign", defArgs (sub 11 5), defBody (sub 11 5), defScope (sub 11 5), [], []⟩
def d_Joined_sign : He.DefD := ⟨("Joined", some "sign"), "sign", "Rule.sign", defArgs (sub 11 5), defBody (sub 11 5), defScope (sub 11 5), [], []⟩
def d_NoSquare_sign : He.DefD := ⟨("NoSquare", some "sign"), "sign", "Rule.sign", defArgs (sub 11 5), defBody (sub 11 5), defScope (sub 11 5), [], []⟩
def d_Ring_sign : He.DefD := ⟨("Ring", some "sign"), "sign", "Rule.sign", defArgs (sub 11 5), defBody (sub 11 5), defScope (sub 11 5), [], []⟩
def d_Unlike_holds : He.DefD := ⟨("Unlike", some "holds"), "holds", "Unlike.holds", defArgs (sub 12 1), defBody (sub 12 1), defScope (sub 12 1), [], []⟩
def d_Total_holds : He.DefD := ⟨("Total", some "holds"), "holds", "Total.holds", defArgs (sub 13 1), defBody (sub 13 1), defScope (sub 13 1), [], []⟩
def d_Rising_holds : He.DefD := ⟨("Rising", some "holds"), "holds", "Rising.holds", defArgs (sub 14 1), defBody (sub 14 1), defScope (sub 14 1), [], []⟩
def d_Seen_holds : He.DefD := ⟨("Seen", some "holds"), "holds", "Seen.holds", defArgs (sub 15 1), defBody (sub 15 1), defScope (sub 15 1), [], []⟩
def d_Counted_holds : He.DefD := ⟨("Counted", some "holds"), "holds", "Counted.holds", defArgs (sub 16 1), defBody (sub 16 1), defScope (sub 16 1), [], []⟩
def d_Joined_holds : He.DefD := ⟨("Joined", some "holds"), "holds", "Joined.holds", defArgs (sub 19 1), defBody (sub 19 1), defScope (sub 19 1), [], []⟩
def d_NoSquare_holds : He.DefD := ⟨("NoSquare", some "holds"), "holds", "NoSquare.holds", defArgs (sub 20 1), defBody (sub 20 1), defScope (sub 20 1), [], []⟩
def d_Ring_holds : He.DefD := ⟨("Ring", some "holds"), "holds", "Ring.holds", defArgs (sub 21 1), defBody (sub 21 1), defScope (sub 21 1), [], []⟩
def d_Unlike_name : He.DefD := ⟨("Unlike", some "name"), "name", "Unlike.name", defArgs (sub 12 0), defBody (sub 12 0), defScope (sub 12 0), [], []⟩
def d_Total_name : He.DefD := ⟨("Total", some "name"), "name", "Total.name", defArgs (sub 13 0), defBody (sub 13 0), defScope (sub 13 0), [], []⟩
def d_Rising_name : He.DefD := ⟨("Rising", some "name"), "name", "Rising.name", defArgs (sub 14 0), defBody (sub 14 0), defScope (sub 14 0), [], []⟩
def d_Seen_name : He.DefD := ⟨("Seen", some "name"), "name", "Seen.name", defArgs (sub 15 0), defBody (sub 15 0), defScope (sub 15 0), [], []⟩
def d_Counted_name : He.DefD := ⟨("Counted", some "name"), "name", "Counted.name", defArgs (sub 16 0), defBody (sub 16 0), defScope (sub 16 0), [], []⟩
def d_Joined_name : He.DefD := ⟨("Joined", some "name"), "name", "Joined.name", defArgs (sub 19 0), defBody (sub 19 0), defScope (sub 19 0), [], []⟩
def d_NoSquare_name : He.DefD := ⟨("NoSquare", some "name"), "name", "NoSquare.name", defArgs (sub 20 0), defBody (sub 20 0), defScope (sub 20 0), [], []⟩
def d_Ring_name : He.DefD := ⟨("Ring", some "name"), "name", "Ring.name", defArgs (sub 21 0), defBody (sub 21 0), defScope (sub 21 0), [], []⟩
def d_Unlike_told_numbers : He.DefD := ⟨("Unlike", some "told_numbers"), "told_numbers", "Rule.told_numbers", defArgs (sub 11 8), defBody (sub 11 8), defScope (sub 11 8), [], []⟩
def d_Total_told_numbers : He.DefD := ⟨("Total", some "told_numbers"), "told_numbers", "Total.told_numbers", defArgs (sub 13 3), defBody (sub 13 3), defScope (sub 13 3), [], []⟩
def d_Rising_told_numbers : He.DefD := ⟨("Rising", some "told_numbers"), "told_numbers", "Rule.told_numbers", defArgs (sub 11 8), defBody (sub 11 8), defScope (sub 11 8), [], []⟩
def d_Seen_told_numbers : He.DefD := ⟨("Seen", some "told_numbers"), "told_numbers", "Seen.told_numbers", defArgs (sub 15 3), defBody (sub 15 3), defScope (sub 15 3), [], []⟩
def d_Counted_told_numbers : He.DefD := ⟨("Counted", some "told_numbers"), "told_numbers", "Counted.told_numbers", defArgs (sub 16 2), defBody (sub 16 2), defScope (sub 16 2), [], []⟩
def d_Joined_told_numbers : He.DefD := ⟨("Joined", some "told_numbers"), "told_numbers", "Joined.told_numbers", defArgs (sub 19 2), defBody (sub 19 2), defScope (sub 19 2), [], []⟩
def d_NoSquare_told_numbers : He.DefD := ⟨("NoSquare", some "told_numbers"), "told_numbers", "NoSquare.told_numbers", defArgs (sub 20 2), defBody (sub 20 2), defScope (sub 20 2), [], []⟩
def d_Ring_told_numbers : He.DefD := ⟨("Ring", some "told_numbers"), "told_numbers", "Ring.told_numbers", defArgs (sub 21 2), defBody (sub 21 2), defScope (sub 21 2), [], []⟩
def d_Unlike_line : He.DefD := ⟨("Unlike", some "line"), "line", "Rule.line", defArgs (sub 11 7), defBody (sub 11 7), defScope (sub 11 7), [], []⟩
def d_Total_line : He.DefD := ⟨("Total", some "line"), "line", "Rule.line", defArgs (sub 11 7), defBody (sub 11 7), defScope (sub 11 7), [], []⟩
def d_Rising_line : He.DefD := ⟨("Rising", some "line"), "line", "Rule.line", defArgs (sub 11 7), defBody (sub 11 7), defScope (sub 11 7), [], []⟩
def d_Seen_line : He.DefD := ⟨("Seen", some "line"), "line", "Rule.line", defArgs (sub 11 7), defBody (sub 11 7), defScope (sub 11 7), [], []⟩
def d_Counted_line : He.DefD := ⟨("Counted", some "line"), "line", "Rule.line", defArgs (sub 11 7), defBody (sub 11 7), defScope (sub 11 7), [], []⟩
def d_Joined_line : He.DefD := ⟨("Joined", some "line"), "line", "Rule.line", defArgs (sub 11 7), defBody (sub 11 7), defScope (sub 11 7), [], []⟩
def d_NoSquare_line : He.DefD := ⟨("NoSquare", some "line"), "line", "Rule.line", defArgs (sub 11 7), defBody (sub 11 7), defScope (sub 11 7), [], []⟩
def d_Ring_line : He.DefD := ⟨("Ring", some "line"), "line", "Rule.line", defArgs (sub 11 7), defBody (sub 11 7), defScope (sub 11 7), [], []⟩
def d_Unlike_reckons : He.DefD := ⟨("Unlike", some "reckons"), "reckons", "Rule.reckons", defArgs (sub 11 6), defBody (sub 11 6), defScope (sub 11 6), [], []⟩
def d_Total_reckons : He.DefD := ⟨("Total", some "reckons"), "reckons", "Total.reckons", defArgs (sub 13 2), defBody (sub 13 2), defScope (sub 13 2), [], []⟩
def d_Rising_reckons : He.DefD := ⟨("Rising", some "reckons"), "reckons", "Rising.reckons", defArgs (sub 14 2), defBody (sub 14 2), defScope (sub 14 2), [], []⟩
def d_Seen_reckons : He.DefD := ⟨("Seen", some "reckons"), "reckons", "Seen.reckons", defArgs (sub 15 2), defBody (sub 15 2), defScope (sub 15 2), [], []⟩
def d_Counted_reckons : He.DefD := ⟨("Counted", some "reckons"), "reckons", "Rule.reckons", defArgs (sub 11 6), defBody (sub 11 6), defScope (sub 11 6), [], []⟩
def d_Joined_reckons : He.DefD := ⟨("Joined", some "reckons"), "reckons", "Rule.reckons", defArgs (sub 11 6), defBody (sub 11 6), defScope (sub 11 6), [], []⟩
def d_NoSquare_reckons : He.DefD := ⟨("NoSquare", some "reckons"), "reckons", "Rule.reckons", defArgs (sub 11 6), defBody (sub 11 6), defScope (sub 11 6), [], []⟩
def d_Ring_reckons : He.DefD := ⟨("Ring", some "reckons"), "reckons", "Rule.reckons", defArgs (sub 11 6), defBody (sub 11 6), defScope (sub 11 6), [], []⟩
def d_Unlike_number : He.DefD := ⟨("Unlike", some "number"), "number", "Rule.number", defArgs (sub 11 4), defBody (sub 11 4), defScope (sub 11 4), [], []⟩
def d_Total_number : He.DefD := ⟨("Total", some "number"), "number", "Rule.number", defArgs (sub 11 4), defBody (sub 11 4), defScope (sub 11 4), [], []⟩
def d_Rising_number : He.DefD := ⟨("Rising", some "number"), "number", "Rule.number", defArgs (sub 11 4), defBody (sub 11 4), defScope (sub 11 4), [], []⟩
def d_Seen_number : He.DefD := ⟨("Seen", some "number"), "number", "Rule.number", defArgs (sub 11 4), defBody (sub 11 4), defScope (sub 11 4), [], []⟩
def d_Counted_number : He.DefD := ⟨("Counted", some "number"), "number", "Rule.number", defArgs (sub 11 4), defBody (sub 11 4), defScope (sub 11 4), [], []⟩
def d_Joined_number : He.DefD := ⟨("Joined", some "number"), "number", "Rule.number", defArgs (sub 11 4), defBody (sub 11 4), defScope (sub 11 4), [], []⟩
def d_NoSquare_number : He.DefD := ⟨("NoSquare", some "number"), "number", "Rule.number", defArgs (sub 11 4), defBody (sub 11 4), defScope (sub 11 4), [], []⟩
def d_Ring_number : He.DefD := ⟨("Ring", some "number"), "number", "Rule.number", defArgs (sub 11 4), defBody (sub 11 4), defScope (sub 11 4), [], []⟩
def d_Unlike___init__ : He.DefD := ⟨("Unlike", some "__init__"), "__init__", "Rule.__init__", defArgs (sub 11 0), defBody (sub 11 0), defScope (sub 11 0), [], []⟩
def d_Total___init__ : He.DefD := ⟨("Total", some "__init__"), "__init__", "Rule.__init__", defArgs (sub 11 0), defBody (sub 11 0), defScope (sub 11 0), [], []⟩
def d_Rising___init__ : He.DefD := ⟨("Rising", some "__init__"), "__init__", "Rule.__init__", defArgs (sub 11 0), defBody (sub 11 0), defScope (sub 11 0), [], []⟩
def d_Seen___init__ : He.DefD := ⟨("Seen", some "__init__"), "__init__", "Rule.__init__", defArgs (sub 11 0), defBody (sub 11 0), defScope (sub 11 0), [], []⟩
def d_Counted___init__ : He.DefD := ⟨("Counted", some "__init__"), "__init__", "Rule.__init__", defArgs (sub 11 0), defBody (sub 11 0), defScope (sub 11 0), [], []⟩
def d_Joined___init__ : He.DefD := ⟨("Joined", some "__init__"), "__init__", "Rule.__init__", defArgs (sub 11 0), defBody (sub 11 0), defScope (sub 11 0), [], []⟩
def d_NoSquare___init__ : He.DefD := ⟨("NoSquare", some "__init__"), "__init__", "Rule.__init__", defArgs (sub 11 0), defBody (sub 11 0), defScope (sub 11 0), [], []⟩
def d_Ring___init__ : He.DefD := ⟨("Ring", some "__init__"), "__init__", "Rule.__init__", defArgs (sub 11 0), defBody (sub 11 0), defScope (sub 11 0), [], []⟩
def fn : List He.DefD := [d_spot_of, d_beside, d_reached, d_are_joined, d_cells_with, d_many_cells, d_squares, d__law_asked, d__law_due, d__law_mixed, d__law_other, d__law_filling, d__law_whole, d__law_told, d_cells_told, d_sign_told, d_whole_rule, d_number_of, d_read_rule, d__law_floor, d_law, d_Unlike_spots, d_Total_spots, d_Rising_spots, d_Seen_spots, d_Counted_spots, d_Joined_spots, d_NoSquare_spots, d_Ring_spots, d_Unlike_sign, d_Total_sign, d_Rising_sign, d_Seen_sign, d_Counted_sign, d_Joined_sign, d_NoSquare_sign, d_Ring_sign, d_Unlike_holds, d_Total_holds, d_Rising_holds, d_Seen_holds, d_Counted_holds, d_Joined_holds, d_NoSquare_holds, d_Ring_holds, d_Unlike_name, d_Total_name, d_Rising_name, d_Seen_name, d_Counted_name, d_Joined_name, d_NoSquare_name, d_Ring_name, d_Unlike_told_numbers, d_Total_told_numbers, d_Rising_told_numbers, d_Seen_told_numbers, d_Counted_told_numbers, d_Joined_told_numbers, d_NoSquare_told_numbers, d_Ring_told_numbers, d_Unlike_line, d_Total_line, d_Rising_line, d_Seen_line, d_Counted_line, d_Joined_line, d_NoSquare_line, d_Ring_line, d_Unlike_reckons, d_Total_reckons, d_Rising_reckons, d_Seen_reckons, d_Counted_reckons, d_Joined_reckons, d_NoSquare_reckons, d_Ring_reckons, d_Unlike_number, d_Total_number, d_Rising_number, d_Seen_number, d_Counted_number, d_Joined_number, d_NoSquare_number, d_Ring_number, d_Unlike___init__, d_Total___init__, d_Rising___init__, d_Seen___init__, d_Counted___init__, d_Joined___init__, d_NoSquare___init__, d_Ring___init__]
def fa0 : List He.Fa := [.cls "Unlike", .noat "Unlike" "cells", .cls "Total", .noat "Total" "cells", .cls "Rising", .noat "Rising" "cells", .cls "Seen", .noat "Seen" "cells", .cls "Counted", .noat "Counted" "cells", .cls "Joined", .noat "Joined" "cells", .cls "NoSquare", .noat "NoSquare" "cells", .cls "Ring", .noat "Ring" "cells", .meth "Unlike" "holds", .noat "Unlike" "wanted", .noat "Total" "wanted", .noat "Rising" "wanted", .noat "Seen" "wanted", .noat "Counted" "wanted", .noat "Joined" "wanted", .noat "NoSquare" "wanted", .noat "Ring" "wanted", .meth "Total" "holds", .meth "Rising" "holds", .meth "Seen" "holds", .noat "Unlike" "of_sign", .noat "Total" "of_sign", .noat "Rising" "of_sign", .noat "Seen" "of_sign", .noat "Counted" "of_sign", .noat "Joined" "of_sign", .noat "NoSquare" "of_sign", .noat "Ring" "of_sign", .meth "Counted" "holds", .glo "spot_of", .glo "beside", .glo "reached", .glo "are_joined", .meth "Unlike" "spots", .meth "Total" "spots", .meth "Rising" "spots", .meth "Seen" "spots", .meth "Counted" "spots", .meth "Joined" "spots", .meth "NoSquare" "spots", .meth "Ring" "spots", .meth "Unlike" "sign", .meth "Total" "sign", .meth "Rising" "sign", .meth "Seen" "sign", .meth "Counted" "sign", .meth "Joined" "sign", .meth "NoSquare" "sign", .meth "Ring" "sign", .glo "cells_with", .noat "Unlike" "ground", .noat "Total" "ground", .noat "Rising" "ground", .noat "Seen" "ground", .noat "Counted" "ground", .noat "Joined" "ground", .noat "NoSquare" "ground", .noat "Ring" "ground", .meth "Joined" "holds", .glo "many_cells", .glo "squares", .meth "NoSquare" "holds", .meth "Ring" "holds", .glo "_law_asked", .glo "_law_due", .glo "_law_mixed", .glo "_law_other", .glo "_law_filling", .glo "_law_whole", .meth "Unlike" "name", .meth "Total" "name", .meth "Rising" "name", .meth "Seen" "name", .meth "Counted" "name", .meth "Joined" "name", .meth "NoSquare" "name", .meth "Ring" "name", .meth "Unlike" "told_numbers", .meth "Rising" "told_numbers", .meth "Total" "told_numbers", .meth "Seen" "told_numbers", .meth "Counted" "told_numbers", .meth "Joined" "told_numbers", .meth "NoSquare" "told_numbers", .meth "Ring" "told_numbers", .meth "Unlike" "line", .meth "Total" "line", .meth "Rising" "line", .meth "Seen" "line", .meth "Counted" "line", .meth "Joined" "line", .meth "NoSquare" "line", .meth "Ring" "line", .meth "Unlike" "reckons", .meth "Counted" "reckons", .meth "Joined" "reckons", .meth "NoSquare" "reckons", .meth "Ring" "reckons", .meth "Total" "reckons", .meth "Rising" "reckons", .meth "Seen" "reckons", .meth "Unlike" "number", .meth "Total" "number", .meth "Rising" "number", .meth "Seen" "number", .meth "Counted" "number", .meth "Joined" "number", .meth "NoSquare" "number", .meth "Ring" "number", .glo "_law_told", .glo "NoRule", .exc "NoRule", .glo "cells_told", .glo "sign_told", .mkr "Unlike", .glo "Unlike", .mkr "Total", .glo "Total", .mkr "Rising", .glo "Rising", .mkr "Seen", .glo "Seen", .mkr "Counted", .glo "Counted", .mkr "Joined", .glo "Joined", .mkr "NoSquare", .glo "NoSquare", .mkr "Ring", .glo "Ring", .glo "whole_rule", .str "FIGURES" "0123456789", .int "LONGEST" 2, .glo "number_of", .glo "read_rule", .glo "_law_floor", .glo "law"]
abbrev fa : List He.Fa := bltNames.map He.Fa.free ++ fa0
def xa : List Xa := []
def FL : Nat → List Str := fun c => match c with
  | 0 => ["ground", "cells", "wanted", "of_sign"]
  | 1 => ["ground", "cells", "wanted", "of_sign"]
  | 2 => ["ground", "cells", "wanted", "of_sign"]
  | 3 => ["ground", "cells", "wanted", "of_sign"]
  | 4 => ["ground", "cells", "wanted", "of_sign"]
  | 5 => ["ground", "cells", "wanted", "of_sign"]
  | 6 => ["ground", "cells", "wanted", "of_sign"]
  | 7 => ["ground", "cells", "wanted", "of_sign"]
  | _ => []
def GK (K : PySem.W.Frag) : Glo := ⟨K, fun c => match c with
  | 0 => He.ga K "Unlike"
  | 1 => He.ga K "Total"
  | 2 => He.ga K "Rising"
  | 3 => He.ga K "Seen"
  | 4 => He.ga K "Counted"
  | 5 => He.ga K "Joined"
  | 6 => He.ga K "NoSquare"
  | 7 => He.ga K "Ring"
  | 8 => He.ga K "NoRule"
  | _ => 0, FL⟩
def T_Unlike_holds : Tb := { N := ["self", "filling", "cell"], fn := [], gc := [], mn := [], fs := ["cells"], nw := [], ck := [], xk := [] }
theorem s_Unlike_holds : FnScope T_Unlike_holds.N ["self", "filling"] (defScope (sub 12 1)) := ⟨rfl, rfl, rfl, by decide +kernel, rfl, by decide +kernel, by decide +kernel⟩
theorem c_Unlike_holds : chkSs T_Unlike_holds (defScope (sub 12 1)) i_Unlike_holds (defBody (sub 12 1)) = true := by decide +kernel
def T_Total_holds : Tb := { N := ["self", "filling", "cell"], fn := [], gc := [], mn := [], fs := ["cells", "wanted"], nw := [], ck := [], xk := [] }
theorem s_Total_holds : FnScope T_Total_holds.N ["self", "filling"] (defScope (sub 13 1)) := ⟨rfl, rfl, rfl, by decide +kernel, rfl, by decide +kernel, by decide +kernel⟩
theorem c_Total_holds : chkSs T_Total_holds (defScope (sub 13 1)) i_Total_holds (defBody (sub 13 1)) = true := by decide +kernel
def T_Rising_holds : Tb := { N := ["self", "filling", "ahead", "cell"], fn := [], gc := [], mn := [], fs := ["cells"], nw := [], ck := [], xk := [] }
theorem s_Rising_holds : FnScope T_Rising_holds.N ["self", "filling"] (defScope (sub 14 1)) := ⟨rfl, rfl, rfl, by decide +kernel, rfl, by decide +kernel, by decide +kernel⟩
theorem c_Rising_holds : chkSs T_Rising_holds (defScope (sub 14 1)) i_Rising_holds (defBody (sub 14 1)) = true := by decide +kernel
def T_Seen_holds : Tb := { N := ["self", "filling", "many", "highest", "cell"], fn := [], gc := [], mn := [], fs := ["wanted", "cells"], nw := [], ck := [], xk := [] }
theorem s_Seen_holds : FnScope T_Seen_holds.N ["self", "filling"] (defScope (sub 15 1)) := ⟨rfl, rfl, rfl, by decide +kernel, rfl, by decide +kernel, by decide +kernel⟩
theorem c_Seen_holds : chkSs T_Seen_holds (defScope (sub 15 1)) i_Seen_holds (defBody (sub 15 1)) = true := by decide +kernel
def T_Counted_holds : Tb := { N := ["self", "filling", "cell"], fn := [], gc := [], mn := [], fs := ["cells", "of_sign", "wanted"], nw := [], ck := [], xk := [] }
theorem s_Counted_holds : FnScope T_Counted_holds.N ["self", "filling"] (defScope (sub 16 1)) := ⟨rfl, rfl, rfl, by decide +kernel, rfl, by decide +kernel, by decide +kernel⟩
theorem c_Counted_holds : chkSs T_Counted_holds (defScope (sub 16 1)) i_Counted_holds (defBody (sub 16 1)) = true := by decide +kernel
def T_spot_of : Tb := { N := ["floor", "cell"], fn := [], gc := [], mn := [], fs := [], nw := [], ck := [], xk := [] }
theorem s_spot_of : FnScope T_spot_of.N ["floor", "cell"] (defScope (top 6)) := ⟨rfl, rfl, rfl, by decide +kernel, rfl, by decide +kernel, by decide +kernel⟩
theorem c_spot_of : chkSs T_spot_of (defScope (top 6)) i_spot_of (defBody (top 6)) = true := by decide +kernel
def T_beside : Tb := { N := ["floor", "cell", "high", "wide", "signs", "row", "column", "found"], fn := [("spot_of", 2)], gc := [], mn := [], fs := [], nw := [], ck := [], xk := [] }
theorem s_beside : FnScope T_beside.N ["floor", "cell"] (defScope (top 7)) := ⟨rfl, rfl, rfl, by decide +kernel, rfl, by decide +kernel, by decide +kernel⟩
theorem c_beside : chkSs T_beside (defScope (top 7)) i_beside (defBody (top 7)) = true := by decide +kernel
def T_reached : Tb := { N := ["floor", "cells", "start", "found", "at", "cell"], fn := [("beside", 2)], gc := [], mn := [], fs := [], nw := [], ck := [], xk := [] }
theorem s_reached : FnScope T_reached.N ["floor", "cells", "start"] (defScope (top 9)) := ⟨rfl, rfl, rfl, by decide +kernel, rfl, by decide +kernel, by decide +kernel⟩
theorem c_reached : chkSs T_reached (defScope (top 9)) i_reached (defBody (top 9)) = true := by decide +kernel
def T_are_joined : Tb := { N := ["floor", "cells"], fn := [("reached", 3)], gc := [], mn := [], fs := [], nw := [], ck := [], xk := [] }
theorem s_are_joined : FnScope T_are_joined.N ["floor", "cells"] (defScope (top 18)) := ⟨rfl, rfl, rfl, by decide +kernel, rfl, by decide +kernel, by decide +kernel⟩
theorem c_are_joined : chkSs T_are_joined (defScope (top 18)) i_are_joined (defBody (top 18)) = true := by decide +kernel
def T_Rule_spots : Tb := { N := ["self"], fn := [], gc := [], mn := [], fs := ["cells"], nw := [], ck := [], xk := [] }
theorem s_Rule_spots : FnScope T_Rule_spots.N ["self"] (defScope (sub 11 2)) := ⟨rfl, rfl, rfl, by decide +kernel, rfl, by decide +kernel, by decide +kernel⟩
theorem c_Rule_spots : chkSs T_Rule_spots (defScope (sub 11 2)) i_Rule_spots (defBody (sub 11 2)) = true := by decide +kernel
def T_Rule_sign : Tb := { N := ["self"], fn := [], gc := [], mn := [], fs := ["of_sign"], nw := [], ck := [], xk := [] }
theorem s_Rule_sign : FnScope T_Rule_sign.N ["self"] (defScope (sub 11 5)) := ⟨rfl, rfl, rfl, by decide +kernel, rfl, by decide +kernel, by decide +kernel⟩
theorem c_Rule_sign : chkSs T_Rule_sign (defScope (sub 11 5)) i_Rule_sign (defBody (sub 11 5)) = true := by decide +kernel
def T_cells_with : Tb := { N := ["rule", "filling", "cell"], fn := [], gc := [], mn := [("spots", 0), ("sign", 0)], fs := [], nw := [], ck := [], xk := [] }
theorem s_cells_with : FnScope T_cells_with.N ["rule", "filling"] (defScope (top 17)) := ⟨rfl, rfl, rfl, by decide +kernel, rfl, by decide +kernel, by decide +kernel⟩
theorem c_cells_with : chkSs T_cells_with (defScope (top 17)) i_cells_with (defBody (top 17)) = true := by decide +kernel
def T_Joined_holds : Tb := { N := ["self", "filling"], fn := [("are_joined", 2), ("cells_with", 2)], gc := [], mn := [], fs := ["ground"], nw := [], ck := [], xk := [] }
theorem s_Joined_holds : FnScope T_Joined_holds.N ["self", "filling"] (defScope (sub 19 1)) := ⟨rfl, rfl, rfl, by decide +kernel, rfl, by decide +kernel, by decide +kernel⟩
theorem c_Joined_holds : chkSs T_Joined_holds (defScope (sub 19 1)) i_Joined_holds (defBody (sub 19 1)) = true := by decide +kernel
def T_many_cells : Tb := { N := ["floor"], fn := [], gc := [], mn := [], fs := [], nw := [], ck := [], xk := [] }
theorem s_many_cells : FnScope T_many_cells.N ["floor"] (defScope (top 5)) := ⟨rfl, rfl, rfl, by decide +kernel, rfl, by decide +kernel, by decide +kernel⟩
theorem c_many_cells : chkSs T_many_cells (defScope (top 5)) i_many_cells (defBody (top 5)) = true := by decide +kernel
def T_squares : Tb := { N := ["floor", "high", "wide", "signs", "found", "cell", "row", "column"], fn := [("many_cells", 1), ("spot_of", 2)], gc := [], mn := [], fs := [], nw := [], ck := [], xk := [] }
theorem s_squares : FnScope T_squares.N ["floor"] (defScope (top 8)) := ⟨rfl, rfl, rfl, by decide +kernel, rfl, by decide +kernel, by decide +kernel⟩
theorem c_squares : chkSs T_squares (defScope (top 8)) i_squares (defBody (top 8)) = true := by decide +kernel
def T_NoSquare_holds : Tb := { N := ["self", "filling", "square", "cell"], fn := [("squares", 1)], gc := [], mn := [], fs := ["ground", "of_sign"], nw := [], ck := [], xk := [] }
theorem s_NoSquare_holds : FnScope T_NoSquare_holds.N ["self", "filling"] (defScope (sub 20 1)) := ⟨rfl, rfl, rfl, by decide +kernel, rfl, by decide +kernel, by decide +kernel⟩
theorem c_NoSquare_holds : chkSs T_NoSquare_holds (defScope (sub 20 1)) i_NoSquare_holds (defBody (sub 20 1)) = true := by decide +kernel
def T_Ring_holds : Tb := { N := ["self", "filling", "found", "cell", "other"], fn := [("are_joined", 2), ("beside", 2), ("cells_with", 2)], gc := [], mn := [], fs := ["ground"], nw := [], ck := [], xk := [] }
theorem s_Ring_holds : FnScope T_Ring_holds.N ["self", "filling"] (defScope (sub 21 1)) := ⟨rfl, rfl, rfl, by decide +kernel, rfl, by decide +kernel, by decide +kernel⟩
theorem c_Ring_holds : chkSs T_Ring_holds (defScope (sub 21 1)) i_Ring_holds (defBody (sub 21 1)) = true := by decide +kernel
def T__law_asked : Tb := { N := ["_law_rule", "_law_fillings", "_law_dues", "_law_k", "_law_handed", "_law_found"], fn := [], gc := [], mn := [("holds", 1)], fs := [], nw := [], ck := [], xk := [] }
theorem s__law_asked : FnScope T__law_asked.N ["_law_rule", "_law_fillings", "_law_dues"] (defScope (top 38)) := ⟨rfl, rfl, rfl, by decide +kernel, rfl, by decide +kernel, by decide +kernel⟩
theorem c__law_asked : chkSs T__law_asked (defScope (top 38)) i__law_asked (defBody (top 38)) = true := by decide +kernel
def T__law_due : Tb := { N := ["_law_floor_here", "_law_sign", "_law_filling_here", "_law_row", "_law_column", "_law_at", "_law_some"], fn := [], gc := [], mn := [], fs := [], nw := [], ck := [], xk := [] }
theorem s__law_due : FnScope T__law_due.N ["_law_floor_here", "_law_sign", "_law_filling_here"] (defScope (top 37)) := ⟨rfl, rfl, rfl, by decide +kernel, rfl, by decide +kernel, by decide +kernel⟩
theorem c__law_due : chkSs T__law_due (defScope (top 37)) i__law_due (defBody (top 37)) = true := by decide +kernel
def T__law_mixed : Tb := { N := ["_law_script", "_law_k", "_law_number", "_law_cell"], fn := [], gc := [], mn := [], fs := [], nw := [], ck := [], xk := [] }
theorem s__law_mixed : FnScope T__law_mixed.N ["_law_script", "_law_k"] (defScope (top 31)) := ⟨rfl, rfl, rfl, by decide +kernel, rfl, by decide +kernel, by decide +kernel⟩
theorem c__law_mixed : chkSs T__law_mixed (defScope (top 31)) i__law_mixed (defBody (top 31)) = true := by decide +kernel
def T__law_other : Tb := { N := ["_law_script", "_law_at", "_law_k", "_law_sign", "_law_signs"], fn := [("_law_mixed", 2)], gc := [], mn := [], fs := [], nw := [], ck := [], xk := [] }
theorem s__law_other : FnScope T__law_other.N ["_law_script", "_law_at", "_law_k", "_law_sign", "_law_signs"] (defScope (top 35)) := ⟨rfl, rfl, rfl, by decide +kernel, rfl, by decide +kernel, by decide +kernel⟩
theorem c__law_other : chkSs T__law_other (defScope (top 35)) i__law_other (defBody (top 35)) = true := by decide +kernel
def T__law_filling : Tb := { N := ["_law_script", "_law_at", "_law_floor_here", "_law_sign", "_law_number", "_law_high", "_law_wide", "_law_signs", "_law_filling_here", "_law_others", "_law_k", "_law_drawn", "_law_row", "_law_column", "_law_spots", "_law_spot"], fn := [("_law_mixed", 2), ("_law_other", 5)], gc := [], mn := [], fs := [], nw := [], ck := [], xk := [] }
theorem s__law_filling : FnScope T__law_filling.N ["_law_script", "_law_at", "_law_floor_here", "_law_sign"] (defScope (top 36)) := ⟨rfl, rfl, rfl, by decide +kernel, rfl, by decide +kernel, by decide +kernel⟩
theorem c__law_filling : chkSs T__law_filling (defScope (top 36)) i__law_filling (defBody (top 36)) = true := by decide +kernel
def T__law_whole : Tb := { N := ["_law_found"], fn := [], gc := [], mn := [], fs := [], nw := [], ck := [], xk := [] }
theorem s__law_whole : FnScope T__law_whole.N ["_law_found"] (defScope (top 33)) := ⟨rfl, rfl, rfl, by decide +kernel, rfl, by decide +kernel, by decide +kernel⟩
theorem c__law_whole : chkSs T__law_whole (defScope (top 33)) i__law_whole (defBody (top 33)) = true := by decide +kernel
def T_Unlike_name : Tb := { N := ["self"], fn := [], gc := [], mn := [], fs := [], nw := [], ck := [], xk := [] }
theorem s_Unlike_name : FnScope T_Unlike_name.N ["self"] (defScope (sub 12 0)) := ⟨rfl, rfl, rfl, by decide +kernel, rfl, by decide +kernel, by decide +kernel⟩
theorem c_Unlike_name : chkSs T_Unlike_name (defScope (sub 12 0)) i_Unlike_name (defBody (sub 12 0)) = true := by decide +kernel
def T_Total_name : Tb := { N := ["self"], fn := [], gc := [], mn := [], fs := [], nw := [], ck := [], xk := [] }
theorem s_Total_name : FnScope T_Total_name.N ["self"] (defScope (sub 13 0)) := ⟨rfl, rfl, rfl, by decide +kernel, rfl, by decide +kernel, by decide +kernel⟩
theorem c_Total_name : chkSs T_Total_name (defScope (sub 13 0)) i_Total_name (defBody (sub 13 0)) = true := by decide +kernel
def T_Rising_name : Tb := { N := ["self"], fn := [], gc := [], mn := [], fs := [], nw := [], ck := [], xk := [] }
theorem s_Rising_name : FnScope T_Rising_name.N ["self"] (defScope (sub 14 0)) := ⟨rfl, rfl, rfl, by decide +kernel, rfl, by decide +kernel, by decide +kernel⟩
theorem c_Rising_name : chkSs T_Rising_name (defScope (sub 14 0)) i_Rising_name (defBody (sub 14 0)) = true := by decide +kernel
def T_Seen_name : Tb := { N := ["self"], fn := [], gc := [], mn := [], fs := [], nw := [], ck := [], xk := [] }
theorem s_Seen_name : FnScope T_Seen_name.N ["self"] (defScope (sub 15 0)) := ⟨rfl, rfl, rfl, by decide +kernel, rfl, by decide +kernel, by decide +kernel⟩
theorem c_Seen_name : chkSs T_Seen_name (defScope (sub 15 0)) i_Seen_name (defBody (sub 15 0)) = true := by decide +kernel
def T_Counted_name : Tb := { N := ["self"], fn := [], gc := [], mn := [], fs := [], nw := [], ck := [], xk := [] }
theorem s_Counted_name : FnScope T_Counted_name.N ["self"] (defScope (sub 16 0)) := ⟨rfl, rfl, rfl, by decide +kernel, rfl, by decide +kernel, by decide +kernel⟩
theorem c_Counted_name : chkSs T_Counted_name (defScope (sub 16 0)) i_Counted_name (defBody (sub 16 0)) = true := by decide +kernel
def T_Joined_name : Tb := { N := ["self"], fn := [], gc := [], mn := [], fs := [], nw := [], ck := [], xk := [] }
theorem s_Joined_name : FnScope T_Joined_name.N ["self"] (defScope (sub 19 0)) := ⟨rfl, rfl, rfl, by decide +kernel, rfl, by decide +kernel, by decide +kernel⟩
theorem c_Joined_name : chkSs T_Joined_name (defScope (sub 19 0)) i_Joined_name (defBody (sub 19 0)) = true := by decide +kernel
def T_NoSquare_name : Tb := { N := ["self"], fn := [], gc := [], mn := [], fs := [], nw := [], ck := [], xk := [] }
theorem s_NoSquare_name : FnScope T_NoSquare_name.N ["self"] (defScope (sub 20 0)) := ⟨rfl, rfl, rfl, by decide +kernel, rfl, by decide +kernel, by decide +kernel⟩
theorem c_NoSquare_name : chkSs T_NoSquare_name (defScope (sub 20 0)) i_NoSquare_name (defBody (sub 20 0)) = true := by decide +kernel
def T_Ring_name : Tb := { N := ["self"], fn := [], gc := [], mn := [], fs := [], nw := [], ck := [], xk := [] }
theorem s_Ring_name : FnScope T_Ring_name.N ["self"] (defScope (sub 21 0)) := ⟨rfl, rfl, rfl, by decide +kernel, rfl, by decide +kernel, by decide +kernel⟩
theorem c_Ring_name : chkSs T_Ring_name (defScope (sub 21 0)) i_Ring_name (defBody (sub 21 0)) = true := by decide +kernel
def T_Rule_told_numbers : Tb := { N := ["self"], fn := [], gc := [], mn := [], fs := ["cells"], nw := [], ck := [], xk := [] }
theorem s_Rule_told_numbers : FnScope T_Rule_told_numbers.N ["self"] (defScope (sub 11 8)) := ⟨rfl, rfl, rfl, by decide +kernel, rfl, by decide +kernel, by decide +kernel⟩
theorem c_Rule_told_numbers : chkSs T_Rule_told_numbers (defScope (sub 11 8)) i_Rule_told_numbers (defBody (sub 11 8)) = true := by decide +kernel
def T_Total_told_numbers : Tb := { N := ["self"], fn := [], gc := [], mn := [], fs := ["wanted", "cells"], nw := [], ck := [], xk := [] }
theorem s_Total_told_numbers : FnScope T_Total_told_numbers.N ["self"] (defScope (sub 13 3)) := ⟨rfl, rfl, rfl, by decide +kernel, rfl, by decide +kernel, by decide +kernel⟩
theorem c_Total_told_numbers : chkSs T_Total_told_numbers (defScope (sub 13 3)) i_Total_told_numbers (defBody (sub 13 3)) = true := by decide +kernel
def T_Seen_told_numbers : Tb := { N := ["self"], fn := [], gc := [], mn := [], fs := ["wanted", "cells"], nw := [], ck := [], xk := [] }
theorem s_Seen_told_numbers : FnScope T_Seen_told_numbers.N ["self"] (defScope (sub 15 3)) := ⟨rfl, rfl, rfl, by decide +kernel, rfl, by decide +kernel, by decide +kernel⟩
theorem c_Seen_told_numbers : chkSs T_Seen_told_numbers (defScope (sub 15 3)) i_Seen_told_numbers (defBody (sub 15 3)) = true := by decide +kernel
def T_Counted_told_numbers : Tb := { N := ["self"], fn := [], gc := [], mn := [], fs := ["wanted", "of_sign", "cells"], nw := [], ck := [], xk := [] }
theorem s_Counted_told_numbers : FnScope T_Counted_told_numbers.N ["self"] (defScope (sub 16 2)) := ⟨rfl, rfl, rfl, by decide +kernel, rfl, by decide +kernel, by decide +kernel⟩
theorem c_Counted_told_numbers : chkSs T_Counted_told_numbers (defScope (sub 16 2)) i_Counted_told_numbers (defBody (sub 16 2)) = true := by decide +kernel
def T_Joined_told_numbers : Tb := { N := ["self"], fn := [], gc := [], mn := [], fs := ["of_sign"], nw := [], ck := [], xk := [] }
theorem s_Joined_told_numbers : FnScope T_Joined_told_numbers.N ["self"] (defScope (sub 19 2)) := ⟨rfl, rfl, rfl, by decide +kernel, rfl, by decide +kernel, by decide +kernel⟩
theorem c_Joined_told_numbers : chkSs T_Joined_told_numbers (defScope (sub 19 2)) i_Joined_told_numbers (defBody (sub 19 2)) = true := by decide +kernel
def T_NoSquare_told_numbers : Tb := { N := ["self"], fn := [], gc := [], mn := [], fs := ["of_sign"], nw := [], ck := [], xk := [] }
theorem s_NoSquare_told_numbers : FnScope T_NoSquare_told_numbers.N ["self"] (defScope (sub 20 2)) := ⟨rfl, rfl, rfl, by decide +kernel, rfl, by decide +kernel, by decide +kernel⟩
theorem c_NoSquare_told_numbers : chkSs T_NoSquare_told_numbers (defScope (sub 20 2)) i_NoSquare_told_numbers (defBody (sub 20 2)) = true := by decide +kernel
def T_Ring_told_numbers : Tb := { N := ["self"], fn := [], gc := [], mn := [], fs := ["of_sign"], nw := [], ck := [], xk := [] }
theorem s_Ring_told_numbers : FnScope T_Ring_told_numbers.N ["self"] (defScope (sub 21 2)) := ⟨rfl, rfl, rfl, by decide +kernel, rfl, by decide +kernel, by decide +kernel⟩
theorem c_Ring_told_numbers : chkSs T_Ring_told_numbers (defScope (sub 21 2)) i_Ring_told_numbers (defBody (sub 21 2)) = true := by decide +kernel
def T_Rule_line : Tb := { N := ["self", "number"], fn := [], gc := [], mn := [("name", 0), ("told_numbers", 0)], fs := [], nw := [], ck := [], xk := [] }
theorem s_Rule_line : FnScope T_Rule_line.N ["self"] (defScope (sub 11 7)) := ⟨rfl, rfl, rfl, by decide +kernel, rfl, by decide +kernel, by decide +kernel⟩
theorem c_Rule_line : chkSs T_Rule_line (defScope (sub 11 7)) i_Rule_line (defBody (sub 11 7)) = true := by decide +kernel
def T_Rule_reckons : Tb := { N := ["self"], fn := [], gc := [], mn := [], fs := [], nw := [], ck := [], xk := [] }
theorem s_Rule_reckons : FnScope T_Rule_reckons.N ["self"] (defScope (sub 11 6)) := ⟨rfl, rfl, rfl, by decide +kernel, rfl, by decide +kernel, by decide +kernel⟩
theorem c_Rule_reckons : chkSs T_Rule_reckons (defScope (sub 11 6)) i_Rule_reckons (defBody (sub 11 6)) = true := by decide +kernel
def T_Total_reckons : Tb := { N := ["self"], fn := [], gc := [], mn := [], fs := [], nw := [], ck := [], xk := [] }
theorem s_Total_reckons : FnScope T_Total_reckons.N ["self"] (defScope (sub 13 2)) := ⟨rfl, rfl, rfl, by decide +kernel, rfl, by decide +kernel, by decide +kernel⟩
theorem c_Total_reckons : chkSs T_Total_reckons (defScope (sub 13 2)) i_Total_reckons (defBody (sub 13 2)) = true := by decide +kernel
def T_Rising_reckons : Tb := { N := ["self"], fn := [], gc := [], mn := [], fs := [], nw := [], ck := [], xk := [] }
theorem s_Rising_reckons : FnScope T_Rising_reckons.N ["self"] (defScope (sub 14 2)) := ⟨rfl, rfl, rfl, by decide +kernel, rfl, by decide +kernel, by decide +kernel⟩
theorem c_Rising_reckons : chkSs T_Rising_reckons (defScope (sub 14 2)) i_Rising_reckons (defBody (sub 14 2)) = true := by decide +kernel
def T_Seen_reckons : Tb := { N := ["self"], fn := [], gc := [], mn := [], fs := [], nw := [], ck := [], xk := [] }
theorem s_Seen_reckons : FnScope T_Seen_reckons.N ["self"] (defScope (sub 15 2)) := ⟨rfl, rfl, rfl, by decide +kernel, rfl, by decide +kernel, by decide +kernel⟩
theorem c_Seen_reckons : chkSs T_Seen_reckons (defScope (sub 15 2)) i_Seen_reckons (defBody (sub 15 2)) = true := by decide +kernel
def T_Rule_number : Tb := { N := ["self"], fn := [], gc := [], mn := [], fs := ["wanted"], nw := [], ck := [], xk := [] }
theorem s_Rule_number : FnScope T_Rule_number.N ["self"] (defScope (sub 11 4)) := ⟨rfl, rfl, rfl, by decide +kernel, rfl, by decide +kernel, by decide +kernel⟩
theorem c_Rule_number : chkSs T_Rule_number (defScope (sub 11 4)) i_Rule_number (defBody (sub 11 4)) = true := by decide +kernel
def T__law_told : Tb := { N := ["_law_rule", "_law_name", "_law_cells", "_law_number", "_law_sign", "_law_by_size", "_law_line", "_law_found"], fn := [("_law_whole", 1)], gc := [], mn := [("spots", 0), ("line", 0), ("reckons", 0), ("sign", 0), ("number", 0), ("name", 0)], fs := [], nw := [], ck := [], xk := [] }
theorem s__law_told : FnScope T__law_told.N ["_law_rule", "_law_name", "_law_cells", "_law_number", "_law_sign", "_law_by_size", "_law_line"] (defScope (top 34)) := ⟨rfl, rfl, rfl, by decide +kernel, rfl, by decide +kernel, by decide +kernel⟩
theorem c__law_told : chkSs T__law_told (defScope (top 34)) i__law_told (defBody (top 34)) = true := by decide +kernel
def T_cells_told : Tb := { N := ["floor", "numbers"], fn := [("many_cells", 1)], gc := [], mn := [], fs := [], nw := [], ck := [], xk := ["NoRule"] }
theorem s_cells_told : FnScope T_cells_told.N ["floor", "numbers"] (defScope (top 27)) := ⟨rfl, rfl, rfl, by decide +kernel, rfl, by decide +kernel, by decide +kernel⟩
theorem c_cells_told : chkSs T_cells_told (defScope (top 27)) i_cells_told (defBody (top 27)) = true := by decide +kernel
def T_sign_told : Tb := { N := ["floor", "numbers", "at"], fn := [], gc := [], mn := [], fs := [], nw := [], ck := [], xk := ["NoRule"] }
theorem s_sign_told : FnScope T_sign_told.N ["floor", "numbers", "at"] (defScope (top 26)) := ⟨rfl, rfl, rfl, by decide +kernel, rfl, by decide +kernel, by decide +kernel⟩
theorem c_sign_told : chkSs T_sign_told (defScope (top 26)) i_sign_told (defBody (top 26)) = true := by decide +kernel
def T_Rule___init__ : Tb := { N := ["self", "ground", "cells", "wanted", "of_sign"], fn := [], gc := [], mn := [], fs := ["of_sign", "wanted", "cells", "ground"], nw := [], ck := [], xk := [] }
theorem s_Rule___init__ : FnScope T_Rule___init__.N ["self", "ground", "cells", "wanted", "of_sign"] (defScope (sub 11 0)) := ⟨rfl, rfl, rfl, by decide +kernel, rfl, by decide +kernel, by decide +kernel⟩
theorem c_Rule___init__ : chkSs T_Rule___init__ (defScope (sub 11 0)) i_Rule___init__ (defBody (sub 11 0)) = true := by decide +kernel
def T_whole_rule : Tb := { N := ["floor", "word", "numbers", "sign", "cells"], fn := [("many_cells", 1), ("sign_told", 3)], gc := [], mn := [], fs := [], nw := [("Ring", 4), ("NoSquare", 4), ("Joined", 4)], ck := [], xk := ["NoRule"] }
theorem s_whole_rule : FnScope T_whole_rule.N ["floor", "word", "numbers"] (defScope (top 28)) := ⟨rfl, rfl, rfl, by decide +kernel, rfl, by decide +kernel, by decide +kernel⟩
theorem c_whole_rule : chkSs T_whole_rule (defScope (top 28)) i_whole_rule (defBody (top 28)) = true := by decide +kernel
def T_number_of : Tb := { N := ["word", "sign"], fn := [], gc := ["FIGURES", "LONGEST"], mn := [], fs := [], nw := [], ck := [], xk := ["NoRule"] }
theorem s_number_of : FnScope T_number_of.N ["word"] (defScope (top 25)) := ⟨rfl, rfl, rfl, by decide +kernel, rfl, by decide +kernel, by decide +kernel⟩
theorem c_number_of : chkSs T_number_of (defScope (top 25)) i_number_of (defBody (top 25)) = true := by decide +kernel
def T_read_rule : Tb := { N := ["floor", "line", "words", "word", "numbers", "one", "sign", "cells"], fn := [("cells_told", 2), ("sign_told", 3), ("whole_rule", 3), ("number_of", 1)], gc := [], mn := [], fs := [], nw := [("Seen", 4), ("Total", 4), ("Counted", 4), ("Rising", 4), ("Unlike", 4)], ck := [], xk := ["NoRule"] }
theorem s_read_rule : FnScope T_read_rule.N ["floor", "line"] (defScope (top 29)) := ⟨rfl, rfl, rfl, by decide +kernel, rfl, by decide +kernel, by decide +kernel⟩
theorem c_read_rule : chkSs T_read_rule (defScope (top 29)) i_read_rule (defBody (top 29)) = true := by decide +kernel
def T__law_floor : Tb := { N := ["_law_number", "_law_sizes", "_law_high", "_law_wide"], fn := [], gc := [], mn := [], fs := [], nw := [], ck := [], xk := [] }
theorem s__law_floor : FnScope T__law_floor.N ["_law_number"] (defScope (top 32)) := ⟨rfl, rfl, rfl, by decide +kernel, rfl, by decide +kernel, by decide +kernel⟩
theorem c__law_floor : chkSs T__law_floor (defScope (top 32)) i__law_floor (defBody (top 32)) = true := by decide +kernel
def T_law : Tb := { N := ["_law_script", "_law_floor_here", "_law_many", "_law_sign", "_law_line", "_law_rule", "_law_fillings", "_law_j", "_law_dues", "_law_filling_here"], fn := [("_law_asked", 3), ("_law_due", 3), ("_law_filling", 4), ("_law_told", 7), ("read_rule", 2), ("_law_mixed", 2), ("_law_floor", 1)], gc := [], mn := [], fs := [], nw := [], ck := [], xk := [] }
theorem s_law : FnScope T_law.N ["_law_script"] (defScope (top 39)) := ⟨rfl, rfl, rfl, by decide +kernel, rfl, by decide +kernel, by decide +kernel⟩
theorem c_law : chkSs T_law (defScope (top 39)) i_law (defBody (top 39)) = true := by decide +kernel
section
variable {P : Program} {w : World} {K : PySem.W.Frag} {h : Heap} {mg : Str → Option Value} {base : Heap}
theorem t_Unlike_holds (c : He.SaysD fa fn K) (cx : xaOk xa K = true) (X : K.In h) (N : h.Ns mainGlobals mg) : TabOk P w K mg base T_Unlike_holds G_Unlike_holds (GK K) 0 :=
  tab1 (mts := []) (fds := [(0, 0, 1), (1, 0, 1), (2, 0, 1), (3, 0, 1), (4, 0, 1), (5, 0, 1), (6, 0, 1), (7, 0, 1)]) c X N trivial trivial rfl trivial rfl ⟨fun x e => by cases e; exact fd1 (j := 21) (j2 := 22) c rfl rfl rfl rfl (show (FL 0).Nodup by decide), fun x e => by cases e; exact fd1 (j := 23) (j2 := 24) c rfl rfl rfl rfl (show (FL 1).Nodup by decide), fun x e => by cases e; exact fd1 (j := 25) (j2 := 26) c rfl rfl rfl rfl (show (FL 2).Nodup by decide), fun x e => by cases e; exact fd1 (j := 27) (j2 := 28) c rfl rfl rfl rfl (show (FL 3).Nodup by decide), fun x e => by cases e; exact fd1 (j := 29) (j2 := 30) c rfl rfl rfl rfl (show (FL 4).Nodup by decide), fun x e => by cases e; exact fd1 (j := 31) (j2 := 32) c rfl rfl rfl rfl (show (FL 5).Nodup by decide), fun x e => by cases e; exact fd1 (j := 33) (j2 := 34) c rfl rfl rfl rfl (show (FL 6).Nodup by decide), fun x e => by cases e; exact fd1 (j := 35) (j2 := 36) c rfl rfl rfl rfl (show (FL 7).Nodup by decide), trivial⟩ trivial trivial trivial
theorem m_Unlike_holds (c : He.SaysD fa fn K) (cx : xaOk xa K = true) (X : K.In h) (N : h.Ns mainGlobals mg) : MthAt P w K mg base (GK K) 1 0 "holds" 1 g_Unlike_holds :=
  mth1 (G := GK K) (T := T_Unlike_holds) (Γ := G_Unlike_holds) (k := 0) (m := 1) (i := 37) (j := 37) (j2 := 21) (ir := i_Unlike_holds) (ps := ["self", "filling"]) (d := d_Unlike_holds) (cn := 0) c rfl rfl rfl rfl rfl rfl rfl rfl (show ("holds" : Str) ∉ FL 0 by decide) rfl s_Unlike_holds rfl c_Unlike_holds (fun _ _ _ _ _ _ us hl => match us, hl with | [_, _], _ => rfl) (t_Unlike_holds c cx X N)
theorem t_Total_holds (c : He.SaysD fa fn K) (cx : xaOk xa K = true) (X : K.In h) (N : h.Ns mainGlobals mg) : TabOk P w K mg base T_Total_holds G_Total_holds (GK K) 0 :=
  tab1 (mts := []) (fds := [(0, 0, 1), (1, 0, 1), (2, 0, 1), (3, 0, 1), (4, 0, 1), (5, 0, 1), (6, 0, 1), (7, 0, 1), (0, 1, 2), (1, 1, 2), (2, 1, 2), (3, 1, 2), (4, 1, 2), (5, 1, 2), (6, 1, 2), (7, 1, 2)]) c X N trivial trivial rfl trivial rfl ⟨fun x e => by cases e; exact fd1 (j := 21) (j2 := 22) c rfl rfl rfl rfl (show (FL 0).Nodup by decide), fun x e => by cases e; exact fd1 (j := 23) (j2 := 24) c rfl rfl rfl rfl (show (FL 1).Nodup by decide), fun x e => by cases e; exact fd1 (j := 25) (j2 := 26) c rfl rfl rfl rfl (show (FL 2).Nodup by decide), fun x e => by cases e; exact fd1 (j := 27) (j2 := 28) c rfl rfl rfl rfl (show (FL 3).Nodup by decide), fun x e => by cases e; exact fd1 (j := 29) (j2 := 30) c rfl rfl rfl rfl (show (FL 4).Nodup by decide), fun x e => by cases e; exact fd1 (j := 31) (j2 := 32) c rfl rfl rfl rfl (show (FL 5).Nodup by decide), fun x e => by cases e; exact fd1 (j := 33) (j2 := 34) c rfl rfl rfl rfl (show (FL 6).Nodup by decide), fun x e => by cases e; exact fd1 (j := 35) (j2 := 36) c rfl rfl rfl rfl (show (FL 7).Nodup by decide), fun x e => by cases e; exact fd1 (j := 21) (j2 := 38) c rfl rfl rfl rfl (show (FL 0).Nodup by decide), fun x e => by cases e; exact fd1 (j := 23) (j2 := 39) c rfl rfl rfl rfl (show (FL 1).Nodup by decide), fun x e => by cases e; exact fd1 (j := 25) (j2 := 40) c rfl rfl rfl rfl (show (FL 2).Nodup by decide), fun x e => by cases e; exact fd1 (j := 27) (j2 := 41) c rfl rfl rfl rfl (show (FL 3).Nodup by decide), fun x e => by cases e; exact fd1 (j := 29) (j2 := 42) c rfl rfl rfl rfl (show (FL 4).Nodup by decide), fun x e => by cases e; exact fd1 (j := 31) (j2 := 43) c rfl rfl rfl rfl (show (FL 5).Nodup by decide), fun x e => by cases e; exact fd1 (j := 33) (j2 := 44) c rfl rfl rfl rfl (show (FL 6).Nodup by decide), fun x e => by cases e; exact fd1 (j := 35) (j2 := 45) c rfl rfl rfl rfl (show (FL 7).Nodup by decide), trivial⟩ trivial trivial trivial
theorem m_Total_holds (c : He.SaysD fa fn K) (cx : xaOk xa K = true) (X : K.In h) (N : h.Ns mainGlobals mg) : MthAt P w K mg base (GK K) 1 1 "holds" 1 g_Total_holds :=
  mth1 (G := GK K) (T := T_Total_holds) (Γ := G_Total_holds) (k := 0) (m := 1) (i := 38) (j := 46) (j2 := 23) (ir := i_Total_holds) (ps := ["self", "filling"]) (d := d_Total_holds) (cn := 1) c rfl rfl rfl rfl rfl rfl rfl rfl (show ("holds" : Str) ∉ FL 1 by decide) rfl s_Total_holds rfl c_Total_holds (fun _ _ _ _ _ _ us hl => match us, hl with | [_, _], _ => rfl) (t_Total_holds c cx X N)
theorem t_Rising_holds (c : He.SaysD fa fn K) (cx : xaOk xa K = true) (X : K.In h) (N : h.Ns mainGlobals mg) : TabOk P w K mg base T_Rising_holds G_Rising_holds (GK K) 0 :=
  tab1 (mts := []) (fds := [(0, 0, 1), (1, 0, 1), (2, 0, 1), (3, 0, 1), (4, 0, 1), (5, 0, 1), (6, 0, 1), (7, 0, 1)]) c X N trivial trivial rfl trivial rfl ⟨fun x e => by cases e; exact fd1 (j := 21) (j2 := 22) c rfl rfl rfl rfl (show (FL 0).Nodup by decide), fun x e => by cases e; exact fd1 (j := 23) (j2 := 24) c rfl rfl rfl rfl (show (FL 1).Nodup by decide), fun x e => by cases e; exact fd1 (j := 25) (j2 := 26) c rfl rfl rfl rfl (show (FL 2).Nodup by decide), fun x e => by cases e; exact fd1 (j := 27) (j2 := 28) c rfl rfl rfl rfl (show (FL 3).Nodup by decide), fun x e => by cases e; exact fd1 (j := 29) (j2 := 30) c rfl rfl rfl rfl (show (FL 4).Nodup by decide), fun x e => by cases e; exact fd1 (j := 31) (j2 := 32) c rfl rfl rfl rfl (show (FL 5).Nodup by decide), fun x e => by cases e; exact fd1 (j := 33) (j2 := 34) c rfl rfl rfl rfl (show (FL 6).Nodup by decide), fun x e => by cases e; exact fd1 (j := 35) (j2 := 36) c rfl rfl rfl rfl (show (FL 7).Nodup by decide), trivial⟩ trivial trivial trivial
theorem m_Rising_holds (c : He.SaysD fa fn K) (cx : xaOk xa K = true) (X : K.In h) (N : h.Ns mainGlobals mg) : MthAt P w K mg base (GK K) 1 2 "holds" 1 g_Rising_holds :=
  mth1 (G := GK K) (T := T_Rising_holds) (Γ := G_Rising_holds) (k := 0) (m := 2) (i := 39) (j := 47) (j2 := 25) (ir := i_Rising_holds) (ps := ["self", "filling"]) (d := d_Rising_holds) (cn := 2) c rfl rfl rfl rfl rfl rfl rfl rfl (show ("holds" : Str) ∉ FL 2 by decide) rfl s_Rising_holds rfl c_Rising_holds (fun _ _ _ _ _ _ us hl => match us, hl with | [_, _], _ => rfl) (t_Rising_holds c cx X N)
theorem t_Seen_holds (c : He.SaysD fa fn K) (cx : xaOk xa K = true) (X : K.In h) (N : h.Ns mainGlobals mg) : TabOk P w K mg base T_Seen_holds G_Seen_holds (GK K) 0 :=
  tab1 (mts := []) (fds := [(0, 0, 2), (1, 0, 2), (2, 0, 2), (3, 0, 2), (4, 0, 2), (5, 0, 2), (6, 0, 2), (7, 0, 2), (0, 1, 1), (1, 1, 1), (2, 1, 1), (3, 1, 1), (4, 1, 1), (5, 1, 1), (6, 1, 1), (7, 1, 1)]) c X N trivial trivial rfl trivial rfl ⟨fun x e => by cases e; exact fd1 (j := 21) (j2 := 38) c rfl rfl rfl rfl (show (FL 0).Nodup by decide), fun x e => by cases e; exact fd1 (j := 23) (j2 := 39) c rfl rfl rfl rfl (show (FL 1).Nodup by decide), fun x e => by cases e; exact fd1 (j := 25) (j2 := 40) c rfl rfl rfl rfl (show (FL 2).Nodup by decide), fun x e => by cases e; exact fd1 (j := 27) (j2 := 41) c rfl rfl rfl rfl (show (FL 3).Nodup by decide), fun x e => by cases e; exact fd1 (j := 29) (j2 := 42) c rfl rfl rfl rfl (show (FL 4).Nodup by decide), fun x e => by cases e; exact fd1 (j := 31) (j2 := 43) c rfl rfl rfl rfl (show (FL 5).Nodup by decide), fun x e => by cases e; exact fd1 (j := 33) (j2 := 44) c rfl rfl rfl rfl (show (FL 6).Nodup by decide), fun x e => by cases e; exact fd1 (j := 35) (j2 := 45) c rfl rfl rfl rfl (show (FL 7).Nodup by decide), fun x e => by cases e; exact fd1 (j := 21) (j2 := 22) c rfl rfl rfl rfl (show (FL 0).Nodup by decide), fun x e => by cases e; exact fd1 (j := 23) (j2 := 24) c rfl rfl rfl rfl (show (FL 1).Nodup by decide), fun x e => by cases e; exact fd1 (j := 25) (j2 := 26) c rfl rfl rfl rfl (show (FL 2).Nodup by decide), fun x e => by cases e; exact fd1 (j := 27) (j2 := 28) c rfl rfl rfl rfl (show (FL 3).Nodup by decide), fun x e => by cases e; exact fd1 (j := 29) (j2 := 30) c rfl rfl rfl rfl (show (FL 4).Nodup by decide), fun x e => by cases e; exact fd1 (j := 31) (j2 := 32) c rfl rfl rfl rfl (show (FL 5).Nodup by decide), fun x e => by cases e; exact fd1 (j := 33) (j2 := 34) c rfl rfl rfl rfl (show (FL 6).Nodup by decide), fun x e => by cases e; exact fd1 (j := 35) (j2 := 36) c rfl rfl rfl rfl (show (FL 7).Nodup by decide), trivial⟩ trivial trivial trivial
theorem m_Seen_holds (c : He.SaysD fa fn K) (cx : xaOk xa K = true) (X : K.In h) (N : h.Ns mainGlobals mg) : MthAt P w K mg base (GK K) 1 3 "holds" 1 g_Seen_holds :=
  mth1 (G := GK K) (T := T_Seen_holds) (Γ := G_Seen_holds) (k := 0) (m := 3) (i := 40) (j := 48) (j2 := 27) (ir := i_Seen_holds) (ps := ["self", "filling"]) (d := d_Seen_holds) (cn := 3) c rfl rfl rfl rfl rfl rfl rfl rfl (show ("holds" : Str) ∉ FL 3 by decide) rfl s_Seen_holds rfl c_Seen_holds (fun _ _ _ _ _ _ us hl => match us, hl with | [_, _], _ => rfl) (t_Seen_holds c cx X N)
theorem t_Counted_holds (c : He.SaysD fa fn K) (cx : xaOk xa K = true) (X : K.In h) (N : h.Ns mainGlobals mg) : TabOk P w K mg base T_Counted_holds G_Counted_holds (GK K) 0 :=
  tab1 (mts := []) (fds := [(0, 0, 1), (1, 0, 1), (2, 0, 1), (3, 0, 1), (4, 0, 1), (5, 0, 1), (6, 0, 1), (7, 0, 1), (0, 1, 3), (1, 1, 3), (2, 1, 3), (3, 1, 3), (4, 1, 3), (5, 1, 3), (6, 1, 3), (7, 1, 3), (0, 2, 2), (1, 2, 2), (2, 2, 2), (3, 2, 2), (4, 2, 2), (5, 2, 2), (6, 2, 2), (7, 2, 2)]) c X N trivial trivial rfl trivial rfl ⟨fun x e => by cases e; exact fd1 (j := 21) (j2 := 22) c rfl rfl rfl rfl (show (FL 0).Nodup by decide), fun x e => by cases e; exact fd1 (j := 23) (j2 := 24) c rfl rfl rfl rfl (show (FL 1).Nodup by decide), fun x e => by cases e; exact fd1 (j := 25) (j2 := 26) c rfl rfl rfl rfl (show (FL 2).Nodup by decide), fun x e => by cases e; exact fd1 (j := 27) (j2 := 28) c rfl rfl rfl rfl (show (FL 3).Nodup by decide), fun x e => by cases e; exact fd1 (j := 29) (j2 := 30) c rfl rfl rfl rfl (show (FL 4).Nodup by decide), fun x e => by cases e; exact fd1 (j := 31) (j2 := 32) c rfl rfl rfl rfl (show (FL 5).Nodup by decide), fun x e => by cases e; exact fd1 (j := 33) (j2 := 34) c rfl rfl rfl rfl (show (FL 6).Nodup by decide), fun x e => by cases e; exact fd1 (j := 35) (j2 := 36) c rfl rfl rfl rfl (show (FL 7).Nodup by decide), fun x e => by cases e; exact fd1 (j := 21) (j2 := 49) c rfl rfl rfl rfl (show (FL 0).Nodup by decide), fun x e => by cases e; exact fd1 (j := 23) (j2 := 50) c rfl rfl rfl rfl (show (FL 1).Nodup by decide), fun x e => by cases e; exact fd1 (j := 25) (j2 := 51) c rfl rfl rfl rfl (show (FL 2).Nodup by decide), fun x e => by cases e; exact fd1 (j := 27) (j2 := 52) c rfl rfl rfl rfl (show (FL 3).Nodup by decide), fun x e => by cases e; exact fd1 (j := 29) (j2 := 53) c rfl rfl rfl rfl (show (FL 4).Nodup by decide), fun x e => by cases e; exact fd1 (j := 31) (j2 := 54) c rfl rfl rfl rfl (show (FL 5).Nodup by decide), fun x e => by cases e; exact fd1 (j := 33) (j2 := 55) c rfl rfl rfl rfl (show (FL 6).Nodup by decide), fun x e => by cases e; exact fd1 (j := 35) (j2 := 56) c rfl rfl rfl rfl (show (FL 7).Nodup by decide), fun x e => by cases e; exact fd1 (j := 21) (j2 := 38) c rfl rfl rfl rfl (show (FL 0).Nodup by decide), fun x e => by cases e; exact fd1 (j := 23) (j2 := 39) c rfl rfl rfl rfl (show (FL 1).Nodup by decide), fun x e => by cases e; exact fd1 (j := 25) (j2 := 40) c rfl rfl rfl rfl (show (FL 2).Nodup by decide), fun x e => by cases e; exact fd1 (j := 27) (j2 := 41) c rfl rfl rfl rfl (show (FL 3).Nodup by decide), fun x e => by cases e; exact fd1 (j := 29) (j2 := 42) c rfl rfl rfl rfl (show (FL 4).Nodup by decide), fun x e => by cases e; exact fd1 (j := 31) (j2 := 43) c rfl rfl rfl rfl (show (FL 5).Nodup by decide), fun x e => by cases e; exact fd1 (j := 33) (j2 := 44) c rfl rfl rfl rfl (show (FL 6).Nodup by decide), fun x e => by cases e; exact fd1 (j := 35) (j2 := 45) c rfl rfl rfl rfl (show (FL 7).Nodup by decide), trivial⟩ trivial trivial trivial
theorem m_Counted_holds (c : He.SaysD fa fn K) (cx : xaOk xa K = true) (X : K.In h) (N : h.Ns mainGlobals mg) : MthAt P w K mg base (GK K) 1 4 "holds" 1 g_Counted_holds :=
  mth1 (G := GK K) (T := T_Counted_holds) (Γ := G_Counted_holds) (k := 0) (m := 1) (i := 41) (j := 57) (j2 := 29) (ir := i_Counted_holds) (ps := ["self", "filling"]) (d := d_Counted_holds) (cn := 4) c rfl rfl rfl rfl rfl rfl rfl rfl (show ("holds" : Str) ∉ FL 4 by decide) rfl s_Counted_holds rfl c_Counted_holds (fun _ _ _ _ _ _ us hl => match us, hl with | [_, _], _ => rfl) (t_Counted_holds c cx X N)
theorem t_spot_of (c : He.SaysD fa fn K) (cx : xaOk xa K = true) (X : K.In h) (N : h.Ns mainGlobals mg) : TabOk P w K mg base T_spot_of G_spot_of (GK K) 0 :=
  tab1 (mts := []) (fds := []) c X N trivial trivial rfl trivial rfl trivial trivial trivial trivial
theorem o_spot_of (c : He.SaysD fa fn K) (cx : xaOk xa K = true) (X : K.In h) (N : h.Ns mainGlobals mg) : DefAt P w K mg base (GK K) 1 "spot_of" 2 g_spot_of :=
  def1 (G := GK K) (T := T_spot_of) (Γ := G_spot_of) (k := 0) (m := 0) (i := 0) (j := 58) (ir := i_spot_of) (ps := ["floor", "cell"]) (d := d_spot_of) c X N rfl rfl rfl rfl rfl rfl s_spot_of rfl c_spot_of (fun _ _ _ _ _ _ us hl => match us, hl with | [_, _], _ => rfl) (t_spot_of c cx X N)
theorem t_beside (c : He.SaysD fa fn K) (cx : xaOk xa K = true) (X : K.In h) (N : h.Ns mainGlobals mg) : TabOk P w K mg base T_beside G_beside (GK K) 1 :=
  tab1 (mts := []) (fds := []) c X N ⟨(o_spot_of c cx X N).mono (by decide), trivial⟩ trivial rfl trivial rfl trivial trivial trivial trivial
theorem o_beside (c : He.SaysD fa fn K) (cx : xaOk xa K = true) (X : K.In h) (N : h.Ns mainGlobals mg) : DefAt P w K mg base (GK K) 2 "beside" 2 g_beside :=
  def1 (G := GK K) (T := T_beside) (Γ := G_beside) (k := 1) (m := 6) (i := 1) (j := 59) (ir := i_beside) (ps := ["floor", "cell"]) (d := d_beside) c X N rfl rfl rfl rfl rfl rfl s_beside rfl c_beside (fun _ _ _ _ _ _ us hl => match us, hl with | [_, _], _ => rfl) (t_beside c cx X N)
theorem t_reached (c : He.SaysD fa fn K) (cx : xaOk xa K = true) (X : K.In h) (N : h.Ns mainGlobals mg) : TabOk P w K mg base T_reached G_reached (GK K) 2 :=
  tab1 (mts := []) (fds := []) c X N ⟨(o_beside c cx X N).mono (by decide), trivial⟩ trivial rfl trivial rfl trivial trivial trivial trivial
theorem o_reached (c : He.SaysD fa fn K) (cx : xaOk xa K = true) (X : K.In h) (N : h.Ns mainGlobals mg) : DefAt P w K mg base (GK K) 3 "reached" 3 g_reached :=
  def1 (G := GK K) (T := T_reached) (Γ := G_reached) (k := 2) (m := 3) (i := 2) (j := 60) (ir := i_reached) (ps := ["floor", "cells", "start"]) (d := d_reached) c X N rfl rfl rfl rfl rfl rfl s_reached rfl c_reached (fun _ _ _ _ _ _ us hl => match us, hl with | [_, _, _], _ => rfl) (t_reached c cx X N)
theorem t_are_joined (c : He.SaysD fa fn K) (cx : xaOk xa K = true) (X : K.In h) (N : h.Ns mainGlobals mg) : TabOk P w K mg base T_are_joined G_are_joined (GK K) 3 :=
  tab1 (mts := []) (fds := []) c X N ⟨(o_reached c cx X N).mono (by decide), trivial⟩ trivial rfl trivial rfl trivial trivial trivial trivial
theorem o_are_joined (c : He.SaysD fa fn K) (cx : xaOk xa K = true) (X : K.In h) (N : h.Ns mainGlobals mg) : DefAt P w K mg base (GK K) 4 "are_joined" 2 g_are_joined :=
  def1 (G := GK K) (T := T_are_joined) (Γ := G_are_joined) (k := 3) (m := 0) (i := 3) (j := 61) (ir := i_are_joined) (ps := ["floor", "cells"]) (d := d_are_joined) c X N rfl rfl rfl rfl rfl rfl s_are_joined rfl c_are_joined (fun _ _ _ _ _ _ us hl => match us, hl with | [_, _], _ => rfl) (t_are_joined c cx X N)
theorem t_Rule_spots (c : He.SaysD fa fn K) (cx : xaOk xa K = true) (X : K.In h) (N : h.Ns mainGlobals mg) : TabOk P w K mg base T_Rule_spots G_Rule_spots (GK K) 0 :=
  tab1 (mts := []) (fds := [(0, 0, 1), (1, 0, 1), (2, 0, 1), (3, 0, 1), (4, 0, 1), (5, 0, 1), (6, 0, 1), (7, 0, 1)]) c X N trivial trivial rfl trivial rfl ⟨fun x e => by cases e; exact fd1 (j := 21) (j2 := 22) c rfl rfl rfl rfl (show (FL 0).Nodup by decide), fun x e => by cases e; exact fd1 (j := 23) (j2 := 24) c rfl rfl rfl rfl (show (FL 1).Nodup by decide), fun x e => by cases e; exact fd1 (j := 25) (j2 := 26) c rfl rfl rfl rfl (show (FL 2).Nodup by decide), fun x e => by cases e; exact fd1 (j := 27) (j2 := 28) c rfl rfl rfl rfl (show (FL 3).Nodup by decide), fun x e => by cases e; exact fd1 (j := 29) (j2 := 30) c rfl rfl rfl rfl (show (FL 4).Nodup by decide), fun x e => by cases e; exact fd1 (j := 31) (j2 := 32) c rfl rfl rfl rfl (show (FL 5).Nodup by decide), fun x e => by cases e; exact fd1 (j := 33) (j2 := 34) c rfl rfl rfl rfl (show (FL 6).Nodup by decide), fun x e => by cases e; exact fd1 (j := 35) (j2 := 36) c rfl rfl rfl rfl (show (FL 7).Nodup by decide), trivial⟩ trivial trivial trivial
theorem m_Unlike_spots (c : He.SaysD fa fn K) (cx : xaOk xa K = true) (X : K.In h) (N : h.Ns mainGlobals mg) : MthAt P w K mg base (GK K) 1 0 "spots" 0 g_Rule_spots :=
  mth1 (G := GK K) (T := T_Rule_spots) (Γ := G_Rule_spots) (k := 0) (m := 0) (i := 21) (j := 62) (j2 := 21) (ir := i_Rule_spots) (ps := ["self"]) (d := d_Unlike_spots) (cn := 0) c rfl rfl rfl rfl rfl rfl rfl rfl (show ("spots" : Str) ∉ FL 0 by decide) rfl s_Rule_spots rfl c_Rule_spots (fun _ _ _ _ _ _ us hl => match us, hl with | [_], _ => rfl) (t_Rule_spots c cx X N)
theorem m_Total_spots (c : He.SaysD fa fn K) (cx : xaOk xa K = true) (X : K.In h) (N : h.Ns mainGlobals mg) : MthAt P w K mg base (GK K) 1 1 "spots" 0 g_Rule_spots :=
  mth1 (G := GK K) (T := T_Rule_spots) (Γ := G_Rule_spots) (k := 0) (m := 0) (i := 22) (j := 63) (j2 := 23) (ir := i_Rule_spots) (ps := ["self"]) (d := d_Total_spots) (cn := 1) c rfl rfl rfl rfl rfl rfl rfl rfl (show ("spots" : Str) ∉ FL 1 by decide) rfl s_Rule_spots rfl c_Rule_spots (fun _ _ _ _ _ _ us hl => match us, hl with | [_], _ => rfl) (t_Rule_spots c cx X N)
theorem m_Rising_spots (c : He.SaysD fa fn K) (cx : xaOk xa K = true) (X : K.In h) (N : h.Ns mainGlobals mg) : MthAt P w K mg base (GK K) 1 2 "spots" 0 g_Rule_spots :=
  mth1 (G := GK K) (T := T_Rule_spots) (Γ := G_Rule_spots) (k := 0) (m := 0) (i := 23) (j := 64) (j2 := 25) (ir := i_Rule_spots) (ps := ["self"]) (d := d_Rising_spots) (cn := 2) c rfl rfl rfl rfl rfl rfl rfl rfl (show ("spots" : Str) ∉ FL 2 by decide) rfl s_Rule_spots rfl c_Rule_spots (fun _ _ _ _ _ _ us hl => match us, hl with | [_], _ => rfl) (t_Rule_spots c cx X N)
theorem m_Seen_spots (c : He.SaysD fa fn K) (cx : xaOk xa K = true) (X : K.In h) (N : h.Ns mainGlobals mg) : MthAt P w K mg base (GK K) 1 3 "spots" 0 g_Rule_spots :=
  mth1 (G := GK K) (T := T_Rule_spots) (Γ := G_Rule_spots) (k := 0) (m := 0) (i := 24) (j := 65) (j2 := 27) (ir := i_Rule_spots) (ps := ["self"]) (d := d_Seen_spots) (cn := 3) c rfl rfl rfl rfl rfl rfl rfl rfl (show ("spots" : Str) ∉ FL 3 by decide) rfl s_Rule_spots rfl c_Rule_spots (fun _ _ _ _ _ _ us hl => match us, hl with | [_], _ => rfl) (t_Rule_spots c cx X N)
theorem m_Counted_spots (c : He.SaysD fa fn K) (cx : xaOk xa K = true) (X : K.In h) (N : h.Ns mainGlobals mg) : MthAt P w K mg base (GK K) 1 4 "spots" 0 g_Rule_spots :=
  mth1 (G := GK K) (T := T_Rule_spots) (Γ := G_Rule_spots) (k := 0) (m := 0) (i := 25) (j := 66) (j2 := 29) (ir := i_Rule_spots) (ps := ["self"]) (d := d_Counted_spots) (cn := 4) c rfl rfl rfl rfl rfl rfl rfl rfl (show ("spots" : Str) ∉ FL 4 by decide) rfl s_Rule_spots rfl c_Rule_spots (fun _ _ _ _ _ _ us hl => match us, hl with | [_], _ => rfl) (t_Rule_spots c cx X N)
theorem m_Joined_spots (c : He.SaysD fa fn K) (cx : xaOk xa K = true) (X : K.In h) (N : h.Ns mainGlobals mg) : MthAt P w K mg base (GK K) 1 5 "spots" 0 g_Rule_spots :=
  mth1 (G := GK K) (T := T_Rule_spots) (Γ := G_Rule_spots) (k := 0) (m := 0) (i := 26) (j := 67) (j2 := 31) (ir := i_Rule_spots) (ps := ["self"]) (d := d_Joined_spots) (cn := 5) c rfl rfl rfl rfl rfl rfl rfl rfl (show ("spots" : Str) ∉ FL 5 by decide) rfl s_Rule_spots rfl c_Rule_spots (fun _ _ _ _ _ _ us hl => match us, hl with | [_], _ => rfl) (t_Rule_spots c cx X N)
theorem m_NoSquare_spots (c : He.SaysD fa fn K) (cx : xaOk xa K = true) (X : K.In h) (N : h.Ns mainGlobals mg) : MthAt P w K mg base (GK K) 1 6 "spots" 0 g_Rule_spots :=
  mth1 (G := GK K) (T := T_Rule_spots) (Γ := G_Rule_spots) (k := 0) (m := 0) (i := 27) (j := 68) (j2 := 33) (ir := i_Rule_spots) (ps := ["self"]) (d := d_NoSquare_spots) (cn := 6) c rfl rfl rfl rfl rfl rfl rfl rfl (show ("spots" : Str) ∉ FL 6 by decide) rfl s_Rule_spots rfl c_Rule_spots (fun _ _ _ _ _ _ us hl => match us, hl with | [_], _ => rfl) (t_Rule_spots c cx X N)
theorem m_Ring_spots (c : He.SaysD fa fn K) (cx : xaOk xa K = true) (X : K.In h) (N : h.Ns mainGlobals mg) : MthAt P w K mg base (GK K) 1 7 "spots" 0 g_Rule_spots :=
  mth1 (G := GK K) (T := T_Rule_spots) (Γ := G_Rule_spots) (k := 0) (m := 0) (i := 28) (j := 69) (j2 := 35) (ir := i_Rule_spots) (ps := ["self"]) (d := d_Ring_spots) (cn := 7) c rfl rfl rfl rfl rfl rfl rfl rfl (show ("spots" : Str) ∉ FL 7 by decide) rfl s_Rule_spots rfl c_Rule_spots (fun _ _ _ _ _ _ us hl => match us, hl with | [_], _ => rfl) (t_Rule_spots c cx X N)
theorem t_Rule_sign (c : He.SaysD fa fn K) (cx : xaOk xa K = true) (X : K.In h) (N : h.Ns mainGlobals mg) : TabOk P w K mg base T_Rule_sign G_Rule_sign (GK K) 0 :=
  tab1 (mts := []) (fds := [(0, 0, 3), (1, 0, 3), (2, 0, 3), (3, 0, 3), (4, 0, 3), (5, 0, 3), (6, 0, 3), (7, 0, 3)]) c X N trivial trivial rfl trivial rfl ⟨fun x e => by cases e; exact fd1 (j := 21) (j2 := 49) c rfl rfl rfl rfl (show (FL 0).Nodup by decide), fun x e => by cases e; exact fd1 (j := 23) (j2 := 50) c rfl rfl rfl rfl (show (FL 1).Nodup by decide), fun x e => by cases e; exact fd1 (j := 25) (j2 := 51) c rfl rfl rfl rfl (show (FL 2).Nodup by decide), fun x e => by cases e; exact fd1 (j := 27) (j2 := 52) c rfl rfl rfl rfl (show (FL 3).Nodup by decide), fun x e => by cases e; exact fd1 (j := 29) (j2 := 53) c rfl rfl rfl rfl (show (FL 4).Nodup by decide), fun x e => by cases e; exact fd1 (j := 31) (j2 := 54) c rfl rfl rfl rfl (show (FL 5).Nodup by decide), fun x e => by cases e; exact fd1 (j := 33) (j2 := 55) c rfl rfl rfl rfl (show (FL 6).Nodup by decide), fun x e => by cases e; exact fd1 (j := 35) (j2 := 56) c rfl rfl rfl rfl (show (FL 7).Nodup by decide), trivial⟩ trivial trivial trivial
theorem m_Unlike_sign (c : He.SaysD fa fn K) (cx : xaOk xa K = true) (X : K.In h) (N : h.Ns mainGlobals mg) : MthAt P w K mg base (GK K) 1 0 "sign" 0 g_Rule_sign :=
  mth1 (G := GK K) (T := T_Rule_sign) (Γ := G_Rule_sign) (k := 0) (m := 0) (i := 29) (j := 70) (j2 := 21) (ir := i_Rule_sign) (ps := ["self"]) (d := d_Unlike_sign) (cn := 0) c rfl rfl rfl rfl rfl rfl rfl rfl (show ("sign" : Str) ∉ FL 0 by decide) rfl s_Rule_sign rfl c_Rule_sign (fun _ _ _ _ _ _ us hl => match us, hl with | [_], _ => rfl) (t_Rule_sign c cx X N)
theorem m_Total_sign (c : He.SaysD fa fn K) (cx : xaOk xa K = true) (X : K.In h) (N : h.Ns mainGlobals mg) : MthAt P w K mg base (GK K) 1 1 "sign" 0 g_Rule_sign :=
  mth1 (G := GK K) (T := T_Rule_sign) (Γ := G_Rule_sign) (k := 0) (m := 0) (i := 30) (j := 71) (j2 := 23) (ir := i_Rule_sign) (ps := ["self"]) (d := d_Total_sign) (cn := 1) c rfl rfl rfl rfl rfl rfl rfl rfl (show ("sign" : Str) ∉ FL 1 by decide) rfl s_Rule_sign rfl c_Rule_sign (fun _ _ _ _ _ _ us hl => match us, hl with | [_], _ => rfl) (t_Rule_sign c cx X N)
theorem m_Rising_sign (c : He.SaysD fa fn K) (cx : xaOk xa K = true) (X : K.In h) (N : h.Ns mainGlobals mg) : MthAt P w K mg base (GK K) 1 2 "sign" 0 g_Rule_sign :=
  mth1 (G := GK K) (T := T_Rule_sign) (Γ := G_Rule_sign) (k := 0) (m := 0) (i := 31) (j := 72) (j2 := 25) (ir := i_Rule_sign) (ps := ["self"]) (d := d_Rising_sign) (cn := 2) c rfl rfl rfl rfl rfl rfl rfl rfl (show ("sign" : Str) ∉ FL 2 by decide) rfl s_Rule_sign rfl c_Rule_sign (fun _ _ _ _ _ _ us hl => match us, hl with | [_], _ => rfl) (t_Rule_sign c cx X N)
theorem m_Seen_sign (c : He.SaysD fa fn K) (cx : xaOk xa K = true) (X : K.In h) (N : h.Ns mainGlobals mg) : MthAt P w K mg base (GK K) 1 3 "sign" 0 g_Rule_sign :=
  mth1 (G := GK K) (T := T_Rule_sign) (Γ := G_Rule_sign) (k := 0) (m := 0) (i := 32) (j := 73) (j2 := 27) (ir := i_Rule_sign) (ps := ["self"]) (d := d_Seen_sign) (cn := 3) c rfl rfl rfl rfl rfl rfl rfl rfl (show ("sign" : Str) ∉ FL 3 by decide) rfl s_Rule_sign rfl c_Rule_sign (fun _ _ _ _ _ _ us hl => match us, hl with | [_], _ => rfl) (t_Rule_sign c cx X N)
theorem m_Counted_sign (c : He.SaysD fa fn K) (cx : xaOk xa K = true) (X : K.In h) (N : h.Ns mainGlobals mg) : MthAt P w K mg base (GK K) 1 4 "sign" 0 g_Rule_sign :=
  mth1 (G := GK K) (T := T_Rule_sign) (Γ := G_Rule_sign) (k := 0) (m := 0) (i := 33) (j := 74) (j2 := 29) (ir := i_Rule_sign) (ps := ["self"]) (d := d_Counted_sign) (cn := 4) c rfl rfl rfl rfl rfl rfl rfl rfl (show ("sign" : Str) ∉ FL 4 by decide) rfl s_Rule_sign rfl c_Rule_sign (fun _ _ _ _ _ _ us hl => match us, hl with | [_], _ => rfl) (t_Rule_sign c cx X N)
theorem m_Joined_sign (c : He.SaysD fa fn K) (cx : xaOk xa K = true) (X : K.In h) (N : h.Ns mainGlobals mg) : MthAt P w K mg base (GK K) 1 5 "sign" 0 g_Rule_sign :=
  mth1 (G := GK K) (T := T_Rule_sign) (Γ := G_Rule_sign) (k := 0) (m := 0) (i := 34) (j := 75) (j2 := 31) (ir := i_Rule_sign) (ps := ["self"]) (d := d_Joined_sign) (cn := 5) c rfl rfl rfl rfl rfl rfl rfl rfl (show ("sign" : Str) ∉ FL 5 by decide) rfl s_Rule_sign rfl c_Rule_sign (fun _ _ _ _ _ _ us hl => match us, hl with | [_], _ => rfl) (t_Rule_sign c cx X N)
theorem m_NoSquare_sign (c : He.SaysD fa fn K) (cx : xaOk xa K = true) (X : K.In h) (N : h.Ns mainGlobals mg) : MthAt P w K mg base (GK K) 1 6 "sign" 0 g_Rule_sign :=
  mth1 (G := GK K) (T := T_Rule_sign) (Γ := G_Rule_sign) (k := 0) (m := 0) (i := 35) (j := 76) (j2 := 33) (ir := i_Rule_sign) (ps := ["self"]) (d := d_NoSquare_sign) (cn := 6) c rfl rfl rfl rfl rfl rfl rfl rfl (show ("sign" : Str) ∉ FL 6 by decide) rfl s_Rule_sign rfl c_Rule_sign (fun _ _ _ _ _ _ us hl => match us, hl with | [_], _ => rfl) (t_Rule_sign c cx X N)
theorem m_Ring_sign (c : He.SaysD fa fn K) (cx : xaOk xa K = true) (X : K.In h) (N : h.Ns mainGlobals mg) : MthAt P w K mg base (GK K) 1 7 "sign" 0 g_Rule_sign :=
  mth1 (G := GK K) (T := T_Rule_sign) (Γ := G_Rule_sign) (k := 0) (m := 0) (i := 36) (j := 77) (j2 := 35) (ir := i_Rule_sign) (ps := ["self"]) (d := d_Ring_sign) (cn := 7) c rfl rfl rfl rfl rfl rfl rfl rfl (show ("sign" : Str) ∉ FL 7 by decide) rfl s_Rule_sign rfl c_Rule_sign (fun _ _ _ _ _ _ us hl => match us, hl with | [_], _ => rfl) (t_Rule_sign c cx X N)
theorem t_cells_with (c : He.SaysD fa fn K) (cx : xaOk xa K = true) (X : K.In h) (N : h.Ns mainGlobals mg) : TabOk P w K mg base T_cells_with G_cells_with (GK K) 1 :=
  tab1 (mts := [(0, 0, g_Rule_spots), (1, 0, g_Rule_spots), (2, 0, g_Rule_spots), (3, 0, g_Rule_spots), (4, 0, g_Rule_spots), (5, 0, g_Rule_spots), (6, 0, g_Rule_spots), (7, 0, g_Rule_spots), (0, 1, g_Rule_sign), (1, 1, g_Rule_sign), (2, 1, g_Rule_sign), (3, 1, g_Rule_sign), (4, 1, g_Rule_sign), (5, 1, g_Rule_sign), (6, 1, g_Rule_sign), (7, 1, g_Rule_sign)]) (fds := []) c X N trivial trivial rfl ⟨fun x n e => by cases e; exact (m_Unlike_spots c cx X N).mono (by decide), fun x n e => by cases e; exact (m_Total_spots c cx X N).mono (by decide), fun x n e => by cases e; exact (m_Rising_spots c cx X N).mono (by decide), fun x n e => by cases e; exact (m_Seen_spots c cx X N).mono (by decide), fun x n e => by cases e; exact (m_Counted_spots c cx X N).mono (by decide), fun x n e => by cases e; exact (m_Joined_spots c cx X N).mono (by decide), fun x n e => by cases e; exact (m_NoSquare_spots c cx X N).mono (by decide), fun x n e => by cases e; exact (m_Ring_spots c cx X N).mono (by decide), fun x n e => by cases e; exact (m_Unlike_sign c cx X N).mono (by decide), fun x n e => by cases e; exact (m_Total_sign c cx X N).mono (by decide), fun x n e => by cases e; exact (m_Rising_sign c cx X N).mono (by decide), fun x n e => by cases e; exact (m_Seen_sign c cx X N).mono (by decide), fun x n e => by cases e; exact (m_Counted_sign c cx X N).mono (by decide), fun x n e => by cases e; exact (m_Joined_sign c cx X N).mono (by decide), fun x n e => by cases e; exact (m_NoSquare_sign c cx X N).mono (by decide), fun x n e => by cases e; exact (m_Ring_sign c cx X N).mono (by decide), trivial⟩ rfl trivial trivial trivial trivial
theorem o_cells_with (c : He.SaysD fa fn K) (cx : xaOk xa K = true) (X : K.In h) (N : h.Ns mainGlobals mg) : DefAt P w K mg base (GK K) 2 "cells_with" 2 g_cells_with :=
  def1 (G := GK K) (T := T_cells_with) (Γ := G_cells_with) (k := 1) (m := 1) (i := 4) (j := 78) (ir := i_cells_with) (ps := ["rule", "filling"]) (d := d_cells_with) c X N rfl rfl rfl rfl rfl rfl s_cells_with rfl c_cells_with (fun _ _ _ _ _ _ us hl => match us, hl with | [_, _], _ => rfl) (t_cells_with c cx X N)
theorem t_Joined_holds (c : He.SaysD fa fn K) (cx : xaOk xa K = true) (X : K.In h) (N : h.Ns mainGlobals mg) : TabOk P w K mg base T_Joined_holds G_Joined_holds (GK K) 4 :=
  tab1 (mts := []) (fds := [(0, 0, 0), (1, 0, 0), (2, 0, 0), (3, 0, 0), (4, 0, 0), (5, 0, 0), (6, 0, 0), (7, 0, 0)]) c X N ⟨(o_are_joined c cx X N).mono (by decide), (o_cells_with c cx X N).mono (by decide), trivial⟩ trivial rfl trivial rfl ⟨fun x e => by cases e; exact fd1 (j := 21) (j2 := 79) c rfl rfl rfl rfl (show (FL 0).Nodup by decide), fun x e => by cases e; exact fd1 (j := 23) (j2 := 80) c rfl rfl rfl rfl (show (FL 1).Nodup by decide), fun x e => by cases e; exact fd1 (j := 25) (j2 := 81) c rfl rfl rfl rfl (show (FL 2).Nodup by decide), fun x e => by cases e; exact fd1 (j := 27) (j2 := 82) c rfl rfl rfl rfl (show (FL 3).Nodup by decide), fun x e => by cases e; exact fd1 (j := 29) (j2 := 83) c rfl rfl rfl rfl (show (FL 4).Nodup by decide), fun x e => by cases e; exact fd1 (j := 31) (j2 := 84) c rfl rfl rfl rfl (show (FL 5).Nodup by decide), fun x e => by cases e; exact fd1 (j := 33) (j2 := 85) c rfl rfl rfl rfl (show (FL 6).Nodup by decide), fun x e => by cases e; exact fd1 (j := 35) (j2 := 86) c rfl rfl rfl rfl (show (FL 7).Nodup by decide), trivial⟩ trivial trivial trivial
theorem m_Joined_holds (c : He.SaysD fa fn K) (cx : xaOk xa K = true) (X : K.In h) (N : h.Ns mainGlobals mg) : MthAt P w K mg base (GK K) 5 5 "holds" 1 g_Joined_holds :=
  mth1 (G := GK K) (T := T_Joined_holds) (Γ := G_Joined_holds) (k := 4) (m := 0) (i := 42) (j := 87) (j2 := 31) (ir := i_Joined_holds) (ps := ["self", "filling"]) (d := d_Joined_holds) (cn := 5) c rfl rfl rfl rfl rfl rfl rfl rfl (show ("holds" : Str) ∉ FL 5 by decide) rfl s_Joined_holds rfl c_Joined_holds (fun _ _ _ _ _ _ us hl => match us, hl with | [_, _], _ => rfl) (t_Joined_holds c cx X N)
theorem t_many_cells (c : He.SaysD fa fn K) (cx : xaOk xa K = true) (X : K.In h) (N : h.Ns mainGlobals mg) : TabOk P w K mg base T_many_cells G_many_cells (GK K) 0 :=
  tab1 (mts := []) (fds := []) c X N trivial trivial rfl trivial rfl trivial trivial trivial trivial
theorem o_many_cells (c : He.SaysD fa fn K) (cx : xaOk xa K = true) (X : K.In h) (N : h.Ns mainGlobals mg) : DefAt P w K mg base (GK K) 1 "many_cells" 1 g_many_cells :=
  def1 (G := GK K) (T := T_many_cells) (Γ := G_many_cells) (k := 0) (m := 0) (i := 5) (j := 88) (ir := i_many_cells) (ps := ["floor"]) (d := d_many_cells) c X N rfl rfl rfl rfl rfl rfl s_many_cells rfl c_many_cells (fun _ _ _ _ _ _ us hl => match us, hl with | [_], _ => rfl) (t_many_cells c cx X N)
theorem t_squares (c : He.SaysD fa fn K) (cx : xaOk xa K = true) (X : K.In h) (N : h.Ns mainGlobals mg) : TabOk P w K mg base T_squares G_squares (GK K) 1 :=
  tab1 (mts := []) (fds := []) c X N ⟨(o_many_cells c cx X N).mono (by decide), (o_spot_of c cx X N).mono (by decide), trivial⟩ trivial rfl trivial rfl trivial trivial trivial trivial
theorem o_squares (c : He.SaysD fa fn K) (cx : xaOk xa K = true) (X : K.In h) (N : h.Ns mainGlobals mg) : DefAt P w K mg base (GK K) 2 "squares" 1 g_squares :=
  def1 (G := GK K) (T := T_squares) (Γ := G_squares) (k := 1) (m := 7) (i := 6) (j := 89) (ir := i_squares) (ps := ["floor"]) (d := d_squares) c X N rfl rfl rfl rfl rfl rfl s_squares rfl c_squares (fun _ _ _ _ _ _ us hl => match us, hl with | [_], _ => rfl) (t_squares c cx X N)
theorem t_NoSquare_holds (c : He.SaysD fa fn K) (cx : xaOk xa K = true) (X : K.In h) (N : h.Ns mainGlobals mg) : TabOk P w K mg base T_NoSquare_holds G_NoSquare_holds (GK K) 2 :=
  tab1 (mts := []) (fds := [(0, 0, 0), (1, 0, 0), (2, 0, 0), (3, 0, 0), (4, 0, 0), (5, 0, 0), (6, 0, 0), (7, 0, 0), (0, 1, 3), (1, 1, 3), (2, 1, 3), (3, 1, 3), (4, 1, 3), (5, 1, 3), (6, 1, 3), (7, 1, 3)]) c X N ⟨(o_squares c cx X N).mono (by decide), trivial⟩ trivial rfl trivial rfl ⟨fun x e => by cases e; exact fd1 (j := 21) (j2 := 79) c rfl rfl rfl rfl (show (FL 0).Nodup by decide), fun x e => by cases e; exact fd1 (j := 23) (j2 := 80) c rfl rfl rfl rfl (show (FL 1).Nodup by decide), fun x e => by cases e; exact fd1 (j := 25) (j2 := 81) c rfl rfl rfl rfl (show (FL 2).Nodup by decide), fun x e => by cases e; exact fd1 (j := 27) (j2 := 82) c rfl rfl rfl rfl (show (FL 3).Nodup by decide), fun x e => by cases e; exact fd1 (j := 29) (j2 := 83) c rfl rfl rfl rfl (show (FL 4).Nodup by decide), fun x e => by cases e; exact fd1 (j := 31) (j2 := 84) c rfl rfl rfl rfl (show (FL 5).Nodup by decide), fun x e => by cases e; exact fd1 (j := 33) (j2 := 85) c rfl rfl rfl rfl (show (FL 6).Nodup by decide), fun x e => by cases e; exact fd1 (j := 35) (j2 := 86) c rfl rfl rfl rfl (show (FL 7).Nodup by decide), fun x e => by cases e; exact fd1 (j := 21) (j2 := 49) c rfl rfl rfl rfl (show (FL 0).Nodup by decide), fun x e => by cases e; exact fd1 (j := 23) (j2 := 50) c rfl rfl rfl rfl (show (FL 1).Nodup by decide), fun x e => by cases e; exact fd1 (j := 25) (j2 := 51) c rfl rfl rfl rfl (show (FL 2).Nodup by decide), fun x e => by cases e; exact fd1 (j := 27) (j2 := 52) c rfl rfl rfl rfl (show (FL 3).Nodup by decide), fun x e => by cases e; exact fd1 (j := 29) (j2 := 53) c rfl rfl rfl rfl (show (FL 4).Nodup by decide), fun x e => by cases e; exact fd1 (j := 31) (j2 := 54) c rfl rfl rfl rfl (show (FL 5).Nodup by decide), fun x e => by cases e; exact fd1 (j := 33) (j2 := 55) c rfl rfl rfl rfl (show (FL 6).Nodup by decide), fun x e => by cases e; exact fd1 (j := 35) (j2 := 56) c rfl rfl rfl rfl (show (FL 7).Nodup by decide), trivial⟩ trivial trivial trivial
theorem m_NoSquare_holds (c : He.SaysD fa fn K) (cx : xaOk xa K = true) (X : K.In h) (N : h.Ns mainGlobals mg) : MthAt P w K mg base (GK K) 3 6 "holds" 1 g_NoSquare_holds :=
  mth1 (G := GK K) (T := T_NoSquare_holds) (Γ := G_NoSquare_holds) (k := 2) (m := 2) (i := 43) (j := 90) (j2 := 33) (ir := i_NoSquare_holds) (ps := ["self", "filling"]) (d := d_NoSquare_holds) (cn := 6) c rfl rfl rfl rfl rfl rfl rfl rfl (show ("holds" : Str) ∉ FL 6 by decide) rfl s_NoSquare_holds rfl c_NoSquare_holds (fun _ _ _ _ _ _ us hl => match us, hl with | [_, _], _ => rfl) (t_NoSquare_holds c cx X N)
theorem t_Ring_holds (c : He.SaysD fa fn K) (cx : xaOk xa K = true) (X : K.In h) (N : h.Ns mainGlobals mg) : TabOk P w K mg base T_Ring_holds G_Ring_holds (GK K) 4 :=
  tab1 (mts := []) (fds := [(0, 0, 0), (1, 0, 0), (2, 0, 0), (3, 0, 0), (4, 0, 0), (5, 0, 0), (6, 0, 0), (7, 0, 0)]) c X N ⟨(o_are_joined c cx X N).mono (by decide), (o_beside c cx X N).mono (by decide), (o_cells_with c cx X N).mono (by decide), trivial⟩ trivial rfl trivial rfl ⟨fun x e => by cases e; exact fd1 (j := 21) (j2 := 79) c rfl rfl rfl rfl (show (FL 0).Nodup by decide), fun x e => by cases e; exact fd1 (j := 23) (j2 := 80) c rfl rfl rfl rfl (show (FL 1).Nodup by decide), fun x e => by cases e; exact fd1 (j := 25) (j2 := 81) c rfl rfl rfl rfl (show (FL 2).Nodup by decide), fun x e => by cases e; exact fd1 (j := 27) (j2 := 82) c rfl rfl rfl rfl (show (FL 3).Nodup by decide), fun x e => by cases e; exact fd1 (j := 29) (j2 := 83) c rfl rfl rfl rfl (show (FL 4).Nodup by decide), fun x e => by cases e; exact fd1 (j := 31) (j2 := 84) c rfl rfl rfl rfl (show (FL 5).Nodup by decide), fun x e => by cases e; exact fd1 (j := 33) (j2 := 85) c rfl rfl rfl rfl (show (FL 6).Nodup by decide), fun x e => by cases e; exact fd1 (j := 35) (j2 := 86) c rfl rfl rfl rfl (show (FL 7).Nodup by decide), trivial⟩ trivial trivial trivial
theorem m_Ring_holds (c : He.SaysD fa fn K) (cx : xaOk xa K = true) (X : K.In h) (N : h.Ns mainGlobals mg) : MthAt P w K mg base (GK K) 5 7 "holds" 1 g_Ring_holds :=
  mth1 (G := GK K) (T := T_Ring_holds) (Γ := G_Ring_holds) (k := 4) (m := 3) (i := 44) (j := 91) (j2 := 35) (ir := i_Ring_holds) (ps := ["self", "filling"]) (d := d_Ring_holds) (cn := 7) c rfl rfl rfl rfl rfl rfl rfl rfl (show ("holds" : Str) ∉ FL 7 by decide) rfl s_Ring_holds rfl c_Ring_holds (fun _ _ _ _ _ _ us hl => match us, hl with | [_, _], _ => rfl) (t_Ring_holds c cx X N)
theorem t__law_asked (c : He.SaysD fa fn K) (cx : xaOk xa K = true) (X : K.In h) (N : h.Ns mainGlobals mg) : TabOk P w K mg base T__law_asked G__law_asked (GK K) 5 :=
  tab1 (mts := [(0, 0, g_Unlike_holds), (1, 0, g_Total_holds), (2, 0, g_Rising_holds), (3, 0, g_Seen_holds), (4, 0, g_Counted_holds), (5, 0, g_Joined_holds), (6, 0, g_NoSquare_holds), (7, 0, g_Ring_holds)]) (fds := []) c X N trivial trivial rfl ⟨fun x n e => by cases e; exact (m_Unlike_holds c cx X N).mono (by decide), fun x n e => by cases e; exact (m_Total_holds c cx X N).mono (by decide), fun x n e => by cases e; exact (m_Rising_holds c cx X N).mono (by decide), fun x n e => by cases e; exact (m_Seen_holds c cx X N).mono (by decide), fun x n e => by cases e; exact (m_Counted_holds c cx X N).mono (by decide), fun x n e => by cases e; exact (m_Joined_holds c cx X N).mono (by decide), fun x n e => by cases e; exact (m_NoSquare_holds c cx X N).mono (by decide), fun x n e => by cases e; exact (m_Ring_holds c cx X N).mono (by decide), trivial⟩ rfl trivial trivial trivial trivial
theorem o__law_asked (c : He.SaysD fa fn K) (cx : xaOk xa K = true) (X : K.In h) (N : h.Ns mainGlobals mg) : DefAt P w K mg base (GK K) 6 "_law_asked" 3 g__law_asked :=
  def1 (G := GK K) (T := T__law_asked) (Γ := G__law_asked) (k := 5) (m := 3) (i := 7) (j := 92) (ir := i__law_asked) (ps := ["_law_rule", "_law_fillings", "_law_dues"]) (d := d__law_asked) c X N rfl rfl rfl rfl rfl rfl s__law_asked rfl c__law_asked (fun _ _ _ _ _ _ us hl => match us, hl with | [_, _, _], _ => rfl) (t__law_asked c cx X N)
theorem t__law_due (c : He.SaysD fa fn K) (cx : xaOk xa K = true) (X : K.In h) (N : h.Ns mainGlobals mg) : TabOk P w K mg base T__law_due G__law_due (GK K) 0 :=
  tab1 (mts := []) (fds := []) c X N trivial trivial rfl trivial rfl trivial trivial trivial trivial
theorem o__law_due (c : He.SaysD fa fn K) (cx : xaOk xa K = true) (X : K.In h) (N : h.Ns mainGlobals mg) : DefAt P w K mg base (GK K) 1 "_law_due" 3 g__law_due :=
  def1 (G := GK K) (T := T__law_due) (Γ := G__law_due) (k := 0) (m := 4) (i := 8) (j := 93) (ir := i__law_due) (ps := ["_law_floor_here", "_law_sign", "_law_filling_here"]) (d := d__law_due) c X N rfl rfl rfl rfl rfl rfl s__law_due rfl c__law_due (fun _ _ _ _ _ _ us hl => match us, hl with | [_, _, _], _ => rfl) (t__law_due c cx X N)
theorem t__law_mixed (c : He.SaysD fa fn K) (cx : xaOk xa K = true) (X : K.In h) (N : h.Ns mainGlobals mg) : TabOk P w K mg base T__law_mixed G__law_mixed (GK K) 0 :=
  tab1 (mts := []) (fds := []) c X N trivial trivial rfl trivial rfl trivial trivial trivial trivial
theorem o__law_mixed (c : He.SaysD fa fn K) (cx : xaOk xa K = true) (X : K.In h) (N : h.Ns mainGlobals mg) : DefAt P w K mg base (GK K) 1 "_law_mixed" 2 g__law_mixed :=
  def1 (G := GK K) (T := T__law_mixed) (Γ := G__law_mixed) (k := 0) (m := 2) (i := 9) (j := 94) (ir := i__law_mixed) (ps := ["_law_script", "_law_k"]) (d := d__law_mixed) c X N rfl rfl rfl rfl rfl rfl s__law_mixed rfl c__law_mixed (fun _ _ _ _ _ _ us hl => match us, hl with | [_, _], _ => rfl) (t__law_mixed c cx X N)
theorem t__law_other (c : He.SaysD fa fn K) (cx : xaOk xa K = true) (X : K.In h) (N : h.Ns mainGlobals mg) : TabOk P w K mg base T__law_other G__law_other (GK K) 1 :=
  tab1 (mts := []) (fds := []) c X N ⟨(o__law_mixed c cx X N).mono (by decide), trivial⟩ trivial rfl trivial rfl trivial trivial trivial trivial
theorem o__law_other (c : He.SaysD fa fn K) (cx : xaOk xa K = true) (X : K.In h) (N : h.Ns mainGlobals mg) : DefAt P w K mg base (GK K) 2 "_law_other" 5 g__law_other :=
  def1 (G := GK K) (T := T__law_other) (Γ := G__law_other) (k := 1) (m := 0) (i := 10) (j := 95) (ir := i__law_other) (ps := ["_law_script", "_law_at", "_law_k", "_law_sign", "_law_signs"]) (d := d__law_other) c X N rfl rfl rfl rfl rfl rfl s__law_other rfl c__law_other (fun _ _ _ _ _ _ us hl => match us, hl with | [_, _, _, _, _], _ => rfl) (t__law_other c cx X N)
theorem t__law_filling (c : He.SaysD fa fn K) (cx : xaOk xa K = true) (X : K.In h) (N : h.Ns mainGlobals mg) : TabOk P w K mg base T__law_filling G__law_filling (GK K) 2 :=
  tab1 (mts := []) (fds := []) c X N ⟨(o__law_mixed c cx X N).mono (by decide), (o__law_other c cx X N).mono (by decide), trivial⟩ trivial rfl trivial rfl trivial trivial trivial trivial
theorem o__law_filling (c : He.SaysD fa fn K) (cx : xaOk xa K = true) (X : K.In h) (N : h.Ns mainGlobals mg) : DefAt P w K mg base (GK K) 3 "_law_filling" 4 g__law_filling :=
  def1 (G := GK K) (T := T__law_filling) (Γ := G__law_filling) (k := 2) (m := 12) (i := 11) (j := 96) (ir := i__law_filling) (ps := ["_law_script", "_law_at", "_law_floor_here", "_law_sign"]) (d := d__law_filling) c X N rfl rfl rfl rfl rfl rfl s__law_filling rfl c__law_filling (fun _ _ _ _ _ _ us hl => match us, hl with | [_, _, _, _], _ => rfl) (t__law_filling c cx X N)
theorem t__law_whole (c : He.SaysD fa fn K) (cx : xaOk xa K = true) (X : K.In h) (N : h.Ns mainGlobals mg) : TabOk P w K mg base T__law_whole G__law_whole (GK K) 0 :=
  tab1 (mts := []) (fds := []) c X N trivial trivial rfl trivial rfl trivial trivial trivial trivial
theorem o__law_whole (c : He.SaysD fa fn K) (cx : xaOk xa K = true) (X : K.In h) (N : h.Ns mainGlobals mg) : DefAt P w K mg base (GK K) 1 "_law_whole" 1 g__law_whole :=
  def1 (G := GK K) (T := T__law_whole) (Γ := G__law_whole) (k := 0) (m := 0) (i := 12) (j := 97) (ir := i__law_whole) (ps := ["_law_found"]) (d := d__law_whole) c X N rfl rfl rfl rfl rfl rfl s__law_whole rfl c__law_whole (fun _ _ _ _ _ _ us hl => match us, hl with | [_], _ => rfl) (t__law_whole c cx X N)
theorem t_Unlike_name (c : He.SaysD fa fn K) (cx : xaOk xa K = true) (X : K.In h) (N : h.Ns mainGlobals mg) : TabOk P w K mg base T_Unlike_name G_Unlike_name (GK K) 0 :=
  tab1 (mts := []) (fds := []) c X N trivial trivial rfl trivial rfl trivial trivial trivial trivial
theorem m_Unlike_name (c : He.SaysD fa fn K) (cx : xaOk xa K = true) (X : K.In h) (N : h.Ns mainGlobals mg) : MthAt P w K mg base (GK K) 1 0 "name" 0 g_Unlike_name :=
  mth1 (G := GK K) (T := T_Unlike_name) (Γ := G_Unlike_name) (k := 0) (m := 0) (i := 45) (j := 98) (j2 := 21) (ir := i_Unlike_name) (ps := ["self"]) (d := d_Unlike_name) (cn := 0) c rfl rfl rfl rfl rfl rfl rfl rfl (show ("name" : Str) ∉ FL 0 by decide) rfl s_Unlike_name rfl c_Unlike_name (fun _ _ _ _ _ _ us hl => match us, hl with | [_], _ => rfl) (t_Unlike_name c cx X N)
theorem t_Total_name (c : He.SaysD fa fn K) (cx : xaOk xa K = true) (X : K.In h) (N : h.Ns mainGlobals mg) : TabOk P w K mg base T_Total_name G_Total_name (GK K) 0 :=
  tab1 (mts := []) (fds := []) c X N trivial trivial rfl trivial rfl trivial trivial trivial trivial
theorem m_Total_name (c : He.SaysD fa fn K) (cx : xaOk xa K = true) (X : K.In h) (N : h.Ns mainGlobals mg) : MthAt P w K mg base (GK K) 1 1 "name" 0 g_Total_name :=
  mth1 (G := GK K) (T := T_Total_name) (Γ := G_Total_name) (k := 0) (m := 0) (i := 46) (j := 99) (j2 := 23) (ir := i_Total_name) (ps := ["self"]) (d := d_Total_name) (cn := 1) c rfl rfl rfl rfl rfl rfl rfl rfl (show ("name" : Str) ∉ FL 1 by decide) rfl s_Total_name rfl c_Total_name (fun _ _ _ _ _ _ us hl => match us, hl with | [_], _ => rfl) (t_Total_name c cx X N)
theorem t_Rising_name (c : He.SaysD fa fn K) (cx : xaOk xa K = true) (X : K.In h) (N : h.Ns mainGlobals mg) : TabOk P w K mg base T_Rising_name G_Rising_name (GK K) 0 :=
  tab1 (mts := []) (fds := []) c X N trivial trivial rfl trivial rfl trivial trivial trivial trivial
theorem m_Rising_name (c : He.SaysD fa fn K) (cx : xaOk xa K = true) (X : K.In h) (N : h.Ns mainGlobals mg) : MthAt P w K mg base (GK K) 1 2 "name" 0 g_Rising_name :=
  mth1 (G := GK K) (T := T_Rising_name) (Γ := G_Rising_name) (k := 0) (m := 0) (i := 47) (j := 100) (j2 := 25) (ir := i_Rising_name) (ps := ["self"]) (d := d_Rising_name) (cn := 2) c rfl rfl rfl rfl rfl rfl rfl rfl (show ("name" : Str) ∉ FL 2 by decide) rfl s_Rising_name rfl c_Rising_name (fun _ _ _ _ _ _ us hl => match us, hl with | [_], _ => rfl) (t_Rising_name c cx X N)
theorem t_Seen_name (c : He.SaysD fa fn K) (cx : xaOk xa K = true) (X : K.In h) (N : h.Ns mainGlobals mg) : TabOk P w K mg base T_Seen_name G_Seen_name (GK K) 0 :=
  tab1 (mts := []) (fds := []) c X N trivial trivial rfl trivial rfl trivial trivial trivial trivial
theorem m_Seen_name (c : He.SaysD fa fn K) (cx : xaOk xa K = true) (X : K.In h) (N : h.Ns mainGlobals mg) : MthAt P w K mg base (GK K) 1 3 "name" 0 g_Seen_name :=
  mth1 (G := GK K) (T := T_Seen_name) (Γ := G_Seen_name) (k := 0) (m := 0) (i := 48) (j := 101) (j2 := 27) (ir := i_Seen_name) (ps := ["self"]) (d := d_Seen_name) (cn := 3) c rfl rfl rfl rfl rfl rfl rfl rfl (show ("name" : Str) ∉ FL 3 by decide) rfl s_Seen_name rfl c_Seen_name (fun _ _ _ _ _ _ us hl => match us, hl with | [_], _ => rfl) (t_Seen_name c cx X N)
theorem t_Counted_name (c : He.SaysD fa fn K) (cx : xaOk xa K = true) (X : K.In h) (N : h.Ns mainGlobals mg) : TabOk P w K mg base T_Counted_name G_Counted_name (GK K) 0 :=
  tab1 (mts := []) (fds := []) c X N trivial trivial rfl trivial rfl trivial trivial trivial trivial
theorem m_Counted_name (c : He.SaysD fa fn K) (cx : xaOk xa K = true) (X : K.In h) (N : h.Ns mainGlobals mg) : MthAt P w K mg base (GK K) 1 4 "name" 0 g_Counted_name :=
  mth1 (G := GK K) (T := T_Counted_name) (Γ := G_Counted_name) (k := 0) (m := 0) (i := 49) (j := 102) (j2 := 29) (ir := i_Counted_name) (ps := ["self"]) (d := d_Counted_name) (cn := 4) c rfl rfl rfl rfl rfl rfl rfl rfl (show ("name" : Str) ∉ FL 4 by decide) rfl s_Counted_name rfl c_Counted_name (fun _ _ _ _ _ _ us hl => match us, hl with | [_], _ => rfl) (t_Counted_name c cx X N)
theorem t_Joined_name (c : He.SaysD fa fn K) (cx : xaOk xa K = true) (X : K.In h) (N : h.Ns mainGlobals mg) : TabOk P w K mg base T_Joined_name G_Joined_name (GK K) 0 :=
  tab1 (mts := []) (fds := []) c X N trivial trivial rfl trivial rfl trivial trivial trivial trivial
theorem m_Joined_name (c : He.SaysD fa fn K) (cx : xaOk xa K = true) (X : K.In h) (N : h.Ns mainGlobals mg) : MthAt P w K mg base (GK K) 1 5 "name" 0 g_Joined_name :=
  mth1 (G := GK K) (T := T_Joined_name) (Γ := G_Joined_name) (k := 0) (m := 0) (i := 50) (j := 103) (j2 := 31) (ir := i_Joined_name) (ps := ["self"]) (d := d_Joined_name) (cn := 5) c rfl rfl rfl rfl rfl rfl rfl rfl (show ("name" : Str) ∉ FL 5 by decide) rfl s_Joined_name rfl c_Joined_name (fun _ _ _ _ _ _ us hl => match us, hl with | [_], _ => rfl) (t_Joined_name c cx X N)
theorem t_NoSquare_name (c : He.SaysD fa fn K) (cx : xaOk xa K = true) (X : K.In h) (N : h.Ns mainGlobals mg) : TabOk P w K mg base T_NoSquare_name G_NoSquare_name (GK K) 0 :=
  tab1 (mts := []) (fds := []) c X N trivial trivial rfl trivial rfl trivial trivial trivial trivial
theorem m_NoSquare_name (c : He.SaysD fa fn K) (cx : xaOk xa K = true) (X : K.In h) (N : h.Ns mainGlobals mg) : MthAt P w K mg base (GK K) 1 6 "name" 0 g_NoSquare_name :=
  mth1 (G := GK K) (T := T_NoSquare_name) (Γ := G_NoSquare_name) (k := 0) (m := 0) (i := 51) (j := 104) (j2 := 33) (ir := i_NoSquare_name) (ps := ["self"]) (d := d_NoSquare_name) (cn := 6) c rfl rfl rfl rfl rfl rfl rfl rfl (show ("name" : Str) ∉ FL 6 by decide) rfl s_NoSquare_name rfl c_NoSquare_name (fun _ _ _ _ _ _ us hl => match us, hl with | [_], _ => rfl) (t_NoSquare_name c cx X N)
theorem t_Ring_name (c : He.SaysD fa fn K) (cx : xaOk xa K = true) (X : K.In h) (N : h.Ns mainGlobals mg) : TabOk P w K mg base T_Ring_name G_Ring_name (GK K) 0 :=
  tab1 (mts := []) (fds := []) c X N trivial trivial rfl trivial rfl trivial trivial trivial trivial
theorem m_Ring_name (c : He.SaysD fa fn K) (cx : xaOk xa K = true) (X : K.In h) (N : h.Ns mainGlobals mg) : MthAt P w K mg base (GK K) 1 7 "name" 0 g_Ring_name :=
  mth1 (G := GK K) (T := T_Ring_name) (Γ := G_Ring_name) (k := 0) (m := 0) (i := 52) (j := 105) (j2 := 35) (ir := i_Ring_name) (ps := ["self"]) (d := d_Ring_name) (cn := 7) c rfl rfl rfl rfl rfl rfl rfl rfl (show ("name" : Str) ∉ FL 7 by decide) rfl s_Ring_name rfl c_Ring_name (fun _ _ _ _ _ _ us hl => match us, hl with | [_], _ => rfl) (t_Ring_name c cx X N)
theorem t_Rule_told_numbers (c : He.SaysD fa fn K) (cx : xaOk xa K = true) (X : K.In h) (N : h.Ns mainGlobals mg) : TabOk P w K mg base T_Rule_told_numbers G_Rule_told_numbers (GK K) 0 :=
  tab1 (mts := []) (fds := [(0, 0, 1), (1, 0, 1), (2, 0, 1), (3, 0, 1), (4, 0, 1), (5, 0, 1), (6, 0, 1), (7, 0, 1)]) c X N trivial trivial rfl trivial rfl ⟨fun x e => by cases e; exact fd1 (j := 21) (j2 := 22) c rfl rfl rfl rfl (show (FL 0).Nodup by decide), fun x e => by cases e; exact fd1 (j := 23) (j2 := 24) c rfl rfl rfl rfl (show (FL 1).Nodup by decide), fun x e => by cases e; exact fd1 (j := 25) (j2 := 26) c rfl rfl rfl rfl (show (FL 2).Nodup by decide), fun x e => by cases e; exact fd1 (j := 27) (j2 := 28) c rfl rfl rfl rfl (show (FL 3).Nodup by decide), fun x e => by cases e; exact fd1 (j := 29) (j2 := 30) c rfl rfl rfl rfl (show (FL 4).Nodup by decide), fun x e => by cases e; exact fd1 (j := 31) (j2 := 32) c rfl rfl rfl rfl (show (FL 5).Nodup by decide), fun x e => by cases e; exact fd1 (j := 33) (j2 := 34) c rfl rfl rfl rfl (show (FL 6).Nodup by decide), fun x e => by cases e; exact fd1 (j := 35) (j2 := 36) c rfl rfl rfl rfl (show (FL 7).Nodup by decide), trivial⟩ trivial trivial trivial
theorem m_Unlike_told_numbers (c : He.SaysD fa fn K) (cx : xaOk xa K = true) (X : K.In h) (N : h.Ns mainGlobals mg) : MthAt P w K mg base (GK K) 1 0 "told_numbers" 0 g_Rule_told_numbers :=
  mth1 (G := GK K) (T := T_Rule_told_numbers) (Γ := G_Rule_told_numbers) (k := 0) (m := 0) (i := 53) (j := 106) (j2 := 21) (ir := i_Rule_told_numbers) (ps := ["self"]) (d := d_Unlike_told_numbers) (cn := 0) c rfl rfl rfl rfl rfl rfl rfl rfl (show ("told_numbers" : Str) ∉ FL 0 by decide) rfl s_Rule_told_numbers rfl c_Rule_told_numbers (fun _ _ _ _ _ _ us hl => match us, hl with | [_], _ => rfl) (t_Rule_told_numbers c cx X N)
theorem m_Rising_told_numbers (c : He.SaysD fa fn K) (cx : xaOk xa K = true) (X : K.In h) (N : h.Ns mainGlobals mg) : MthAt P w K mg base (GK K) 1 2 "told_numbers" 0 g_Rule_told_numbers :=
  mth1 (G := GK K) (T := T_Rule_told_numbers) (Γ := G_Rule_told_numbers) (k := 0) (m := 0) (i := 55) (j := 107) (j2 := 25) (ir := i_Rule_told_numbers) (ps := ["self"]) (d := d_Rising_told_numbers) (cn := 2) c rfl rfl rfl rfl rfl rfl rfl rfl (show ("told_numbers" : Str) ∉ FL 2 by decide) rfl s_Rule_told_numbers rfl c_Rule_told_numbers (fun _ _ _ _ _ _ us hl => match us, hl with | [_], _ => rfl) (t_Rule_told_numbers c cx X N)
theorem t_Total_told_numbers (c : He.SaysD fa fn K) (cx : xaOk xa K = true) (X : K.In h) (N : h.Ns mainGlobals mg) : TabOk P w K mg base T_Total_told_numbers G_Total_told_numbers (GK K) 0 :=
  tab1 (mts := []) (fds := [(0, 0, 2), (1, 0, 2), (2, 0, 2), (3, 0, 2), (4, 0, 2), (5, 0, 2), (6, 0, 2), (7, 0, 2), (0, 1, 1), (1, 1, 1), (2, 1, 1), (3, 1, 1), (4, 1, 1), (5, 1, 1), (6, 1, 1), (7, 1, 1)]) c X N trivial trivial rfl trivial rfl ⟨fun x e => by cases e; exact fd1 (j := 21) (j2 := 38) c rfl rfl rfl rfl (show (FL 0).Nodup by decide), fun x e => by cases e; exact fd1 (j := 23) (j2 := 39) c rfl rfl rfl rfl (show (FL 1).Nodup by decide), fun x e => by cases e; exact fd1 (j := 25) (j2 := 40) c rfl rfl rfl rfl (show (FL 2).Nodup by decide), fun x e => by cases e; exact fd1 (j := 27) (j2 := 41) c rfl rfl rfl rfl (show (FL 3).Nodup by decide), fun x e => by cases e; exact fd1 (j := 29) (j2 := 42) c rfl rfl rfl rfl (show (FL 4).Nodup by decide), fun x e => by cases e; exact fd1 (j := 31) (j2 := 43) c rfl rfl rfl rfl (show (FL 5).Nodup by decide), fun x e => by cases e; exact fd1 (j := 33) (j2 := 44) c rfl rfl rfl rfl (show (FL 6).Nodup by decide), fun x e => by cases e; exact fd1 (j := 35) (j2 := 45) c rfl rfl rfl rfl (show (FL 7).Nodup by decide), fun x e => by cases e; exact fd1 (j := 21) (j2 := 22) c rfl rfl rfl rfl (show (FL 0).Nodup by decide), fun x e => by cases e; exact fd1 (j := 23) (j2 := 24) c rfl rfl rfl rfl (show (FL 1).Nodup by decide), fun x e => by cases e; exact fd1 (j := 25) (j2 := 26) c rfl rfl rfl rfl (show (FL 2).Nodup by decide), fun x e => by cases e; exact fd1 (j := 27) (j2 := 28) c rfl rfl rfl rfl (show (FL 3).Nodup by decide), fun x e => by cases e; exact fd1 (j := 29) (j2 := 30) c rfl rfl rfl rfl (show (FL 4).Nodup by decide), fun x e => by cases e; exact fd1 (j := 31) (j2 := 32) c rfl rfl rfl rfl (show (FL 5).Nodup by decide), fun x e => by cases e; exact fd1 (j := 33) (j2 := 34) c rfl rfl rfl rfl (show (FL 6).Nodup by decide), fun x e => by cases e; exact fd1 (j := 35) (j2 := 36) c rfl rfl rfl rfl (show (FL 7).Nodup by decide), trivial⟩ trivial trivial trivial
theorem m_Total_told_numbers (c : He.SaysD fa fn K) (cx : xaOk xa K = true) (X : K.In h) (N : h.Ns mainGlobals mg) : MthAt P w K mg base (GK K) 1 1 "told_numbers" 0 g_Total_told_numbers :=
  mth1 (G := GK K) (T := T_Total_told_numbers) (Γ := G_Total_told_numbers) (k := 0) (m := 0) (i := 54) (j := 108) (j2 := 23) (ir := i_Total_told_numbers) (ps := ["self"]) (d := d_Total_told_numbers) (cn := 1) c rfl rfl rfl rfl rfl rfl rfl rfl (show ("told_numbers" : Str) ∉ FL 1 by decide) rfl s_Total_told_numbers rfl c_Total_told_numbers (fun _ _ _ _ _ _ us hl => match us, hl with | [_], _ => rfl) (t_Total_told_numbers c cx X N)
theorem t_Seen_told_numbers (c : He.SaysD fa fn K) (cx : xaOk xa K = true) (X : K.In h) (N : h.Ns mainGlobals mg) : TabOk P w K mg base T_Seen_told_numbers G_Seen_told_numbers (GK K) 0 :=
  tab1 (mts := []) (fds := [(0, 0, 2), (1, 0, 2), (2, 0, 2), (3, 0, 2), (4, 0, 2), (5, 0, 2), (6, 0, 2), (7, 0, 2), (0, 1, 1), (1, 1, 1), (2, 1, 1), (3, 1, 1), (4, 1, 1), (5, 1, 1), (6, 1, 1), (7, 1, 1)]) c X N trivial trivial rfl trivial rfl ⟨fun x e => by cases e; exact fd1 (j := 21) (j2 := 38) c rfl rfl rfl rfl (show (FL 0).Nodup by decide), fun x e => by cases e; exact fd1 (j := 23) (j2 := 39) c rfl rfl rfl rfl (show (FL 1).Nodup by decide), fun x e => by cases e; exact fd1 (j := 25) (j2 := 40) c rfl rfl rfl rfl (show (FL 2).Nodup by decide), fun x e => by cases e; exact fd1 (j := 27) (j2 := 41) c rfl rfl rfl rfl (show (FL 3).Nodup by decide), fun x e => by cases e; exact fd1 (j := 29) (j2 := 42) c rfl rfl rfl rfl (show (FL 4).Nodup by decide), fun x e => by cases e; exact fd1 (j := 31) (j2 := 43) c rfl rfl rfl rfl (show (FL 5).Nodup by decide), fun x e => by cases e; exact fd1 (j := 33) (j2 := 44) c rfl rfl rfl rfl (show (FL 6).Nodup by decide), fun x e => by cases e; exact fd1 (j := 35) (j2 := 45) c rfl rfl rfl rfl (show (FL 7).Nodup by decide), fun x e => by cases e; exact fd1 (j := 21) (j2 := 22) c rfl rfl rfl rfl (show (FL 0).Nodup by decide), fun x e => by cases e; exact fd1 (j := 23) (j2 := 24) c rfl rfl rfl rfl (show (FL 1).Nodup by decide), fun x e => by cases e; exact fd1 (j := 25) (j2 := 26) c rfl rfl rfl rfl (show (FL 2).Nodup by decide), fun x e => by cases e; exact fd1 (j := 27) (j2 := 28) c rfl rfl rfl rfl (show (FL 3).Nodup by decide), fun x e => by cases e; exact fd1 (j := 29) (j2 := 30) c rfl rfl rfl rfl (show (FL 4).Nodup by decide), fun x e => by cases e; exact fd1 (j := 31) (j2 := 32) c rfl rfl rfl rfl (show (FL 5).Nodup by decide), fun x e => by cases e; exact fd1 (j := 33) (j2 := 34) c rfl rfl rfl rfl (show (FL 6).Nodup by decide), fun x e => by cases e; exact fd1 (j := 35) (j2 := 36) c rfl rfl rfl rfl (show (FL 7).Nodup by decide), trivial⟩ trivial trivial trivial
theorem m_Seen_told_numbers (c : He.SaysD fa fn K) (cx : xaOk xa K = true) (X : K.In h) (N : h.Ns mainGlobals mg) : MthAt P w K mg base (GK K) 1 3 "told_numbers" 0 g_Seen_told_numbers :=
  mth1 (G := GK K) (T := T_Seen_told_numbers) (Γ := G_Seen_told_numbers) (k := 0) (m := 0) (i := 56) (j := 109) (j2 := 27) (ir := i_Seen_told_numbers) (ps := ["self"]) (d := d_Seen_told_numbers) (cn := 3) c rfl rfl rfl rfl rfl rfl rfl rfl (show ("told_numbers" : Str) ∉ FL 3 by decide) rfl s_Seen_told_numbers rfl c_Seen_told_numbers (fun _ _ _ _ _ _ us hl => match us, hl with | [_], _ => rfl) (t_Seen_told_numbers c cx X N)
theorem t_Counted_told_numbers (c : He.SaysD fa fn K) (cx : xaOk xa K = true) (X : K.In h) (N : h.Ns mainGlobals mg) : TabOk P w K mg base T_Counted_told_numbers G_Counted_told_numbers (GK K) 0 :=
  tab1 (mts := []) (fds := [(0, 0, 2), (1, 0, 2), (2, 0, 2), (3, 0, 2), (4, 0, 2), (5, 0, 2), (6, 0, 2), (7, 0, 2), (0, 1, 3), (1, 1, 3), (2, 1, 3), (3, 1, 3), (4, 1, 3), (5, 1, 3), (6, 1, 3), (7, 1, 3), (0, 2, 1), (1, 2, 1), (2, 2, 1), (3, 2, 1), (4, 2, 1), (5, 2, 1), (6, 2, 1), (7, 2, 1)]) c X N trivial trivial rfl trivial rfl ⟨fun x e => by cases e; exact fd1 (j := 21) (j2 := 38) c rfl rfl rfl rfl (show (FL 0).Nodup by decide), fun x e => by cases e; exact fd1 (j := 23) (j2 := 39) c rfl rfl rfl rfl (show (FL 1).Nodup by decide), fun x e => by cases e; exact fd1 (j := 25) (j2 := 40) c rfl rfl rfl rfl (show (FL 2).Nodup by decide), fun x e => by cases e; exact fd1 (j := 27) (j2 := 41) c rfl rfl rfl rfl (show (FL 3).Nodup by decide), fun x e => by cases e; exact fd1 (j := 29) (j2 := 42) c rfl rfl rfl rfl (show (FL 4).Nodup by decide), fun x e => by cases e; exact fd1 (j := 31) (j2 := 43) c rfl rfl rfl rfl (show (FL 5).Nodup by decide), fun x e => by cases e; exact fd1 (j := 33) (j2 := 44) c rfl rfl rfl rfl (show (FL 6).Nodup by decide), fun x e => by cases e; exact fd1 (j := 35) (j2 := 45) c rfl rfl rfl rfl (show (FL 7).Nodup by decide), fun x e => by cases e; exact fd1 (j := 21) (j2 := 49) c rfl rfl rfl rfl (show (FL 0).Nodup by decide), fun x e => by cases e; exact fd1 (j := 23) (j2 := 50) c rfl rfl rfl rfl (show (FL 1).Nodup by decide), fun x e => by cases e; exact fd1 (j := 25) (j2 := 51) c rfl rfl rfl rfl (show (FL 2).Nodup by decide), fun x e => by cases e; exact fd1 (j := 27) (j2 := 52) c rfl rfl rfl rfl (show (FL 3).Nodup by decide), fun x e => by cases e; exact fd1 (j := 29) (j2 := 53) c rfl rfl rfl rfl (show (FL 4).Nodup by decide), fun x e => by cases e; exact fd1 (j := 31) (j2 := 54) c rfl rfl rfl rfl (show (FL 5).Nodup by decide), fun x e => by cases e; exact fd1 (j := 33) (j2 := 55) c rfl rfl rfl rfl (show (FL 6).Nodup by decide), fun x e => by cases e; exact fd1 (j := 35) (j2 := 56) c rfl rfl rfl rfl (show (FL 7).Nodup by decide), fun x e => by cases e; exact fd1 (j := 21) (j2 := 22) c rfl rfl rfl rfl (show (FL 0).Nodup by decide), fun x e => by cases e; exact fd1 (j := 23) (j2 := 24) c rfl rfl rfl rfl (show (FL 1).Nodup by decide), fun x e => by cases e; exact fd1 (j := 25) (j2 := 26) c rfl rfl rfl rfl (show (FL 2).Nodup by decide), fun x e => by cases e; exact fd1 (j := 27) (j2 := 28) c rfl rfl rfl rfl (show (FL 3).Nodup by decide), fun x e => by cases e; exact fd1 (j := 29) (j2 := 30) c rfl rfl rfl rfl (show (FL 4).Nodup by decide), fun x e => by cases e; exact fd1 (j := 31) (j2 := 32) c rfl rfl rfl rfl (show (FL 5).Nodup by decide), fun x e => by cases e; exact fd1 (j := 33) (j2 := 34) c rfl rfl rfl rfl (show (FL 6).Nodup by decide), fun x e => by cases e; exact fd1 (j := 35) (j2 := 36) c rfl rfl rfl rfl (show (FL 7).Nodup by decide), trivial⟩ trivial trivial trivial
theorem m_Counted_told_numbers (c : He.SaysD fa fn K) (cx : xaOk xa K = true) (X : K.In h) (N : h.Ns mainGlobals mg) : MthAt P w K mg base (GK K) 1 4 "told_numbers" 0 g_Counted_told_numbers :=
  mth1 (G := GK K) (T := T_Counted_told_numbers) (Γ := G_Counted_told_numbers) (k := 0) (m := 0) (i := 57) (j := 110) (j2 := 29) (ir := i_Counted_told_numbers) (ps := ["self"]) (d := d_Counted_told_numbers) (cn := 4) c rfl rfl rfl rfl rfl rfl rfl rfl (show ("told_numbers" : Str) ∉ FL 4 by decide) rfl s_Counted_told_numbers rfl c_Counted_told_numbers (fun _ _ _ _ _ _ us hl => match us, hl with | [_], _ => rfl) (t_Counted_told_numbers c cx X N)
theorem t_Joined_told_numbers (c : He.SaysD fa fn K) (cx : xaOk xa K = true) (X : K.In h) (N : h.Ns mainGlobals mg) : TabOk P w K mg base T_Joined_told_numbers G_Joined_told_numbers (GK K) 0 :=
  tab1 (mts := []) (fds := [(0, 0, 3), (1, 0, 3), (2, 0, 3), (3, 0, 3), (4, 0, 3), (5, 0, 3), (6, 0, 3), (7, 0, 3)]) c X N trivial trivial rfl trivial rfl ⟨fun x e => by cases e; exact fd1 (j := 21) (j2 := 49) c rfl rfl rfl rfl (show (FL 0).Nodup by decide), fun x e => by cases e; exact fd1 (j := 23) (j2 := 50) c rfl rfl rfl rfl (show (FL 1).Nodup by decide), fun x e => by cases e; exact fd1 (j := 25) (j2 := 51) c rfl rfl rfl rfl (show (FL 2).Nodup by decide), fun x e => by cases e; exact fd1 (j := 27) (j2 := 52) c rfl rfl rfl rfl (show (FL 3).Nodup by decide), fun x e => by cases e; exact fd1 (j := 29) (j2 := 53) c rfl rfl rfl rfl (show (FL 4).Nodup by decide), fun x e => by cases e; exact fd1 (j := 31) (j2 := 54) c rfl rfl rfl rfl (show (FL 5).Nodup by decide), fun x e => by cases e; exact fd1 (j := 33) (j2 := 55) c rfl rfl rfl rfl (show (FL 6).Nodup by decide), fun x e => by cases e; exact fd1 (j := 35) (j2 := 56) c rfl rfl rfl rfl (show (FL 7).Nodup by decide), trivial⟩ trivial trivial trivial
theorem m_Joined_told_numbers (c : He.SaysD fa fn K) (cx : xaOk xa K = true) (X : K.In h) (N : h.Ns mainGlobals mg) : MthAt P w K mg base (GK K) 1 5 "told_numbers" 0 g_Joined_told_numbers :=
  mth1 (G := GK K) (T := T_Joined_told_numbers) (Γ := G_Joined_told_numbers) (k := 0) (m := 0) (i := 58) (j := 111) (j2 := 31) (ir := i_Joined_told_numbers) (ps := ["self"]) (d := d_Joined_told_numbers) (cn := 5) c rfl rfl rfl rfl rfl rfl rfl rfl (show ("told_numbers" : Str) ∉ FL 5 by decide) rfl s_Joined_told_numbers rfl c_Joined_told_numbers (fun _ _ _ _ _ _ us hl => match us, hl with | [_], _ => rfl) (t_Joined_told_numbers c cx X N)
theorem t_NoSquare_told_numbers (c : He.SaysD fa fn K) (cx : xaOk xa K = true) (X : K.In h) (N : h.Ns mainGlobals mg) : TabOk P w K mg base T_NoSquare_told_numbers G_NoSquare_told_numbers (GK K) 0 :=
  tab1 (mts := []) (fds := [(0, 0, 3), (1, 0, 3), (2, 0, 3), (3, 0, 3), (4, 0, 3), (5, 0, 3), (6, 0, 3), (7, 0, 3)]) c X N trivial trivial rfl trivial rfl ⟨fun x e => by cases e; exact fd1 (j := 21) (j2 := 49) c rfl rfl rfl rfl (show (FL 0).Nodup by decide), fun x e => by cases e; exact fd1 (j := 23) (j2 := 50) c rfl rfl rfl rfl (show (FL 1).Nodup by decide), fun x e => by cases e; exact fd1 (j := 25) (j2 := 51) c rfl rfl rfl rfl (show (FL 2).Nodup by decide), fun x e => by cases e; exact fd1 (j := 27) (j2 := 52) c rfl rfl rfl rfl (show (FL 3).Nodup by decide), fun x e => by cases e; exact fd1 (j := 29) (j2 := 53) c rfl rfl rfl rfl (show (FL 4).Nodup by decide), fun x e => by cases e; exact fd1 (j := 31) (j2 := 54) c rfl rfl rfl rfl (show (FL 5).Nodup by decide), fun x e => by cases e; exact fd1 (j := 33) (j2 := 55) c rfl rfl rfl rfl (show (FL 6).Nodup by decide), fun x e => by cases e; exact fd1 (j := 35) (j2 := 56) c rfl rfl rfl rfl (show (FL 7).Nodup by decide), trivial⟩ trivial trivial trivial
theorem m_NoSquare_told_numbers (c : He.SaysD fa fn K) (cx : xaOk xa K = true) (X : K.In h) (N : h.Ns mainGlobals mg) : MthAt P w K mg base (GK K) 1 6 "told_numbers" 0 g_NoSquare_told_numbers :=
  mth1 (G := GK K) (T := T_NoSquare_told_numbers) (Γ := G_NoSquare_told_numbers) (k := 0) (m := 0) (i := 59) (j := 112) (j2 := 33) (ir := i_NoSquare_told_numbers) (ps := ["self"]) (d := d_NoSquare_told_numbers) (cn := 6) c rfl rfl rfl rfl rfl rfl rfl rfl (show ("told_numbers" : Str) ∉ FL 6 by decide) rfl s_NoSquare_told_numbers rfl c_NoSquare_told_numbers (fun _ _ _ _ _ _ us hl => match us, hl with | [_], _ => rfl) (t_NoSquare_told_numbers c cx X N)
theorem t_Ring_told_numbers (c : He.SaysD fa fn K) (cx : xaOk xa K = true) (X : K.In h) (N : h.Ns mainGlobals mg) : TabOk P w K mg base T_Ring_told_numbers G_Ring_told_numbers (GK K) 0 :=
  tab1 (mts := []) (fds := [(0, 0, 3), (1, 0, 3), (2, 0, 3), (3, 0, 3), (4, 0, 3), (5, 0, 3), (6, 0, 3), (7, 0, 3)]) c X N trivial trivial rfl trivial rfl ⟨fun x e => by cases e; exact fd1 (j := 21) (j2 := 49) c rfl rfl rfl rfl (show (FL 0).Nodup by decide), fun x e => by cases e; exact fd1 (j := 23) (j2 := 50) c rfl rfl rfl rfl (show (FL 1).Nodup by decide), fun x e => by cases e; exact fd1 (j := 25) (j2 := 51) c rfl rfl rfl rfl (show (FL 2).Nodup by decide), fun x e => by cases e; exact fd1 (j := 27) (j2 := 52) c rfl rfl rfl rfl (show (FL 3).Nodup by decide), fun x e => by cases e; exact fd1 (j := 29) (j2 := 53) c rfl rfl rfl rfl (show (FL 4).Nodup by decide), fun x e => by cases e; exact fd1 (j := 31) (j2 := 54) c rfl rfl rfl rfl (show (FL 5).Nodup by decide), fun x e => by cases e; exact fd1 (j := 33) (j2 := 55) c rfl rfl rfl rfl (show (FL 6).Nodup by decide), fun x e => by cases e; exact fd1 (j := 35) (j2 := 56) c rfl rfl rfl rfl (show (FL 7).Nodup by decide), trivial⟩ trivial trivial trivial
theorem m_Ring_told_numbers (c : He.SaysD fa fn K) (cx : xaOk xa K = true) (X : K.In h) (N : h.Ns mainGlobals mg) : MthAt P w K mg base (GK K) 1 7 "told_numbers" 0 g_Ring_told_numbers :=
  mth1 (G := GK K) (T := T_Ring_told_numbers) (Γ := G_Ring_told_numbers) (k := 0) (m := 0) (i := 60) (j := 113) (j2 := 35) (ir := i_Ring_told_numbers) (ps := ["self"]) (d := d_Ring_told_numbers) (cn := 7) c rfl rfl rfl rfl rfl rfl rfl rfl (show ("told_numbers" : Str) ∉ FL 7 by decide) rfl s_Ring_told_numbers rfl c_Ring_told_numbers (fun _ _ _ _ _ _ us hl => match us, hl with | [_], _ => rfl) (t_Ring_told_numbers c cx X N)
theorem t_Rule_line (c : He.SaysD fa fn K) (cx : xaOk xa K = true) (X : K.In h) (N : h.Ns mainGlobals mg) : TabOk P w K mg base T_Rule_line G_Rule_line (GK K) 1 :=
  tab1 (mts := [(0, 0, g_Unlike_name), (1, 0, g_Total_name), (2, 0, g_Rising_name), (3, 0, g_Seen_name), (4, 0, g_Counted_name), (5, 0, g_Joined_name), (6, 0, g_NoSquare_name), (7, 0, g_Ring_name), (0, 1, g_Rule_told_numbers), (1, 1, g_Total_told_numbers), (2, 1, g_Rule_told_numbers), (3, 1, g_Seen_told_numbers), (4, 1, g_Counted_told_numbers), (5, 1, g_Joined_told_numbers), (6, 1, g_NoSquare_told_numbers), (7, 1, g_Ring_told_numbers)]) (fds := []) c X N trivial trivial rfl ⟨fun x n e => by cases e; exact (m_Unlike_name c cx X N).mono (by decide), fun x n e => by cases e; exact (m_Total_name c cx X N).mono (by decide), fun x n e => by cases e; exact (m_Rising_name c cx X N).mono (by decide), fun x n e => by cases e; exact (m_Seen_name c cx X N).mono (by decide), fun x n e => by cases e; exact (m_Counted_name c cx X N).mono (by decide), fun x n e => by cases e; exact (m_Joined_name c cx X N).mono (by decide), fun x n e => by cases e; exact (m_NoSquare_name c cx X N).mono (by decide), fun x n e => by cases e; exact (m_Ring_name c cx X N).mono (by decide), fun x n e => by cases e; exact (m_Unlike_told_numbers c cx X N).mono (by decide), fun x n e => by cases e; exact (m_Total_told_numbers c cx X N).mono (by decide), fun x n e => by cases e; exact (m_Rising_told_numbers c cx X N).mono (by decide), fun x n e => by cases e; exact (m_Seen_told_numbers c cx X N).mono (by decide), fun x n e => by cases e; exact (m_Counted_told_numbers c cx X N).mono (by decide), fun x n e => by cases e; exact (m_Joined_told_numbers c cx X N).mono (by decide), fun x n e => by cases e; exact (m_NoSquare_told_numbers c cx X N).mono (by decide), fun x n e => by cases e; exact (m_Ring_told_numbers c cx X N).mono (by decide), trivial⟩ rfl trivial trivial trivial trivial
theorem m_Unlike_line (c : He.SaysD fa fn K) (cx : xaOk xa K = true) (X : K.In h) (N : h.Ns mainGlobals mg) : MthAt P w K mg base (GK K) 2 0 "line" 0 g_Rule_line :=
  mth1 (G := GK K) (T := T_Rule_line) (Γ := G_Rule_line) (k := 1) (m := 1) (i := 61) (j := 114) (j2 := 21) (ir := i_Rule_line) (ps := ["self"]) (d := d_Unlike_line) (cn := 0) c rfl rfl rfl rfl rfl rfl rfl rfl (show ("line" : Str) ∉ FL 0 by decide) rfl s_Rule_line rfl c_Rule_line (fun _ _ _ _ _ _ us hl => match us, hl with | [_], _ => rfl) (t_Rule_line c cx X N)
theorem m_Total_line (c : He.SaysD fa fn K) (cx : xaOk xa K = true) (X : K.In h) (N : h.Ns mainGlobals mg) : MthAt P w K mg base (GK K) 2 1 "line" 0 g_Rule_line :=
  mth1 (G := GK K) (T := T_Rule_line) (Γ := G_Rule_line) (k := 1) (m := 1) (i := 62) (j := 115) (j2 := 23) (ir := i_Rule_line) (ps := ["self"]) (d := d_Total_line) (cn := 1) c rfl rfl rfl rfl rfl rfl rfl rfl (show ("line" : Str) ∉ FL 1 by decide) rfl s_Rule_line rfl c_Rule_line (fun _ _ _ _ _ _ us hl => match us, hl with | [_], _ => rfl) (t_Rule_line c cx X N)
theorem m_Rising_line (c : He.SaysD fa fn K) (cx : xaOk xa K = true) (X : K.In h) (N : h.Ns mainGlobals mg) : MthAt P w K mg base (GK K) 2 2 "line" 0 g_Rule_line :=
  mth1 (G := GK K) (T := T_Rule_line) (Γ := G_Rule_line) (k := 1) (m := 1) (i := 63) (j := 116) (j2 := 25) (ir := i_Rule_line) (ps := ["self"]) (d := d_Rising_line) (cn := 2) c rfl rfl rfl rfl rfl rfl rfl rfl (show ("line" : Str) ∉ FL 2 by decide) rfl s_Rule_line rfl c_Rule_line (fun _ _ _ _ _ _ us hl => match us, hl with | [_], _ => rfl) (t_Rule_line c cx X N)
theorem m_Seen_line (c : He.SaysD fa fn K) (cx : xaOk xa K = true) (X : K.In h) (N : h.Ns mainGlobals mg) : MthAt P w K mg base (GK K) 2 3 "line" 0 g_Rule_line :=
  mth1 (G := GK K) (T := T_Rule_line) (Γ := G_Rule_line) (k := 1) (m := 1) (i := 64) (j := 117) (j2 := 27) (ir := i_Rule_line) (ps := ["self"]) (d := d_Seen_line) (cn := 3) c rfl rfl rfl rfl rfl rfl rfl rfl (show ("line" : Str) ∉ FL 3 by decide) rfl s_Rule_line rfl c_Rule_line (fun _ _ _ _ _ _ us hl => match us, hl with | [_], _ => rfl) (t_Rule_line c cx X N)
theorem m_Counted_line (c : He.SaysD fa fn K) (cx : xaOk xa K = true) (X : K.In h) (N : h.Ns mainGlobals mg) : MthAt P w K mg base (GK K) 2 4 "line" 0 g_Rule_line :=
  mth1 (G := GK K) (T := T_Rule_line) (Γ := G_Rule_line) (k := 1) (m := 1) (i := 65) (j := 118) (j2 := 29) (ir := i_Rule_line) (ps := ["self"]) (d := d_Counted_line) (cn := 4) c rfl rfl rfl rfl rfl rfl rfl rfl (show ("line" : Str) ∉ FL 4 by decide) rfl s_Rule_line rfl c_Rule_line (fun _ _ _ _ _ _ us hl => match us, hl with | [_], _ => rfl) (t_Rule_line c cx X N)
theorem m_Joined_line (c : He.SaysD fa fn K) (cx : xaOk xa K = true) (X : K.In h) (N : h.Ns mainGlobals mg) : MthAt P w K mg base (GK K) 2 5 "line" 0 g_Rule_line :=
  mth1 (G := GK K) (T := T_Rule_line) (Γ := G_Rule_line) (k := 1) (m := 1) (i := 66) (j := 119) (j2 := 31) (ir := i_Rule_line) (ps := ["self"]) (d := d_Joined_line) (cn := 5) c rfl rfl rfl rfl rfl rfl rfl rfl (show ("line" : Str) ∉ FL 5 by decide) rfl s_Rule_line rfl c_Rule_line (fun _ _ _ _ _ _ us hl => match us, hl with | [_], _ => rfl) (t_Rule_line c cx X N)
theorem m_NoSquare_line (c : He.SaysD fa fn K) (cx : xaOk xa K = true) (X : K.In h) (N : h.Ns mainGlobals mg) : MthAt P w K mg base (GK K) 2 6 "line" 0 g_Rule_line :=
  mth1 (G := GK K) (T := T_Rule_line) (Γ := G_Rule_line) (k := 1) (m := 1) (i := 67) (j := 120) (j2 := 33) (ir := i_Rule_line) (ps := ["self"]) (d := d_NoSquare_line) (cn := 6) c rfl rfl rfl rfl rfl rfl rfl rfl (show ("line" : Str) ∉ FL 6 by decide) rfl s_Rule_line rfl c_Rule_line (fun _ _ _ _ _ _ us hl => match us, hl with | [_], _ => rfl) (t_Rule_line c cx X N)
theorem m_Ring_line (c : He.SaysD fa fn K) (cx : xaOk xa K = true) (X : K.In h) (N : h.Ns mainGlobals mg) : MthAt P w K mg base (GK K) 2 7 "line" 0 g_Rule_line :=
  mth1 (G := GK K) (T := T_Rule_line) (Γ := G_Rule_line) (k := 1) (m := 1) (i := 68) (j := 121) (j2 := 35) (ir := i_Rule_line) (ps := ["self"]) (d := d_Ring_line) (cn := 7) c rfl rfl rfl rfl rfl rfl rfl rfl (show ("line" : Str) ∉ FL 7 by decide) rfl s_Rule_line rfl c_Rule_line (fun _ _ _ _ _ _ us hl => match us, hl with | [_], _ => rfl) (t_Rule_line c cx X N)
theorem t_Rule_reckons (c : He.SaysD fa fn K) (cx : xaOk xa K = true) (X : K.In h) (N : h.Ns mainGlobals mg) : TabOk P w K mg base T_Rule_reckons G_Rule_reckons (GK K) 0 :=
  tab1 (mts := []) (fds := []) c X N trivial trivial rfl trivial rfl trivial trivial trivial trivial
theorem m_Unlike_reckons (c : He.SaysD fa fn K) (cx : xaOk xa K = true) (X : K.In h) (N : h.Ns mainGlobals mg) : MthAt P w K mg base (GK K) 1 0 "reckons" 0 g_Rule_reckons :=
  mth1 (G := GK K) (T := T_Rule_reckons) (Γ := G_Rule_reckons) (k := 0) (m := 0) (i := 69) (j := 122) (j2 := 21) (ir := i_Rule_reckons) (ps := ["self"]) (d := d_Unlike_reckons) (cn := 0) c rfl rfl rfl rfl rfl rfl rfl rfl (show ("reckons" : Str) ∉ FL 0 by decide) rfl s_Rule_reckons rfl c_Rule_reckons (fun _ _ _ _ _ _ us hl => match us, hl with | [_], _ => rfl) (t_Rule_reckons c cx X N)
theorem m_Counted_reckons (c : He.SaysD fa fn K) (cx : xaOk xa K = true) (X : K.In h) (N : h.Ns mainGlobals mg) : MthAt P w K mg base (GK K) 1 4 "reckons" 0 g_Rule_reckons :=
  mth1 (G := GK K) (T := T_Rule_reckons) (Γ := G_Rule_reckons) (k := 0) (m := 0) (i := 73) (j := 123) (j2 := 29) (ir := i_Rule_reckons) (ps := ["self"]) (d := d_Counted_reckons) (cn := 4) c rfl rfl rfl rfl rfl rfl rfl rfl (show ("reckons" : Str) ∉ FL 4 by decide) rfl s_Rule_reckons rfl c_Rule_reckons (fun _ _ _ _ _ _ us hl => match us, hl with | [_], _ => rfl) (t_Rule_reckons c cx X N)
theorem m_Joined_reckons (c : He.SaysD fa fn K) (cx : xaOk xa K = true) (X : K.In h) (N : h.Ns mainGlobals mg) : MthAt P w K mg base (GK K) 1 5 "reckons" 0 g_Rule_reckons :=
  mth1 (G := GK K) (T := T_Rule_reckons) (Γ := G_Rule_reckons) (k := 0) (m := 0) (i := 74) (j := 124) (j2 := 31) (ir := i_Rule_reckons) (ps := ["self"]) (d := d_Joined_reckons) (cn := 5) c rfl rfl rfl rfl rfl rfl rfl rfl (show ("reckons" : Str) ∉ FL 5 by decide) rfl s_Rule_reckons rfl c_Rule_reckons (fun _ _ _ _ _ _ us hl => match us, hl with | [_], _ => rfl) (t_Rule_reckons c cx X N)
theorem m_NoSquare_reckons (c : He.SaysD fa fn K) (cx : xaOk xa K = true) (X : K.In h) (N : h.Ns mainGlobals mg) : MthAt P w K mg base (GK K) 1 6 "reckons" 0 g_Rule_reckons :=
  mth1 (G := GK K) (T := T_Rule_reckons) (Γ := G_Rule_reckons) (k := 0) (m := 0) (i := 75) (j := 125) (j2 := 33) (ir := i_Rule_reckons) (ps := ["self"]) (d := d_NoSquare_reckons) (cn := 6) c rfl rfl rfl rfl rfl rfl rfl rfl (show ("reckons" : Str) ∉ FL 6 by decide) rfl s_Rule_reckons rfl c_Rule_reckons (fun _ _ _ _ _ _ us hl => match us, hl with | [_], _ => rfl) (t_Rule_reckons c cx X N)
theorem m_Ring_reckons (c : He.SaysD fa fn K) (cx : xaOk xa K = true) (X : K.In h) (N : h.Ns mainGlobals mg) : MthAt P w K mg base (GK K) 1 7 "reckons" 0 g_Rule_reckons :=
  mth1 (G := GK K) (T := T_Rule_reckons) (Γ := G_Rule_reckons) (k := 0) (m := 0) (i := 76) (j := 126) (j2 := 35) (ir := i_Rule_reckons) (ps := ["self"]) (d := d_Ring_reckons) (cn := 7) c rfl rfl rfl rfl rfl rfl rfl rfl (show ("reckons" : Str) ∉ FL 7 by decide) rfl s_Rule_reckons rfl c_Rule_reckons (fun _ _ _ _ _ _ us hl => match us, hl with | [_], _ => rfl) (t_Rule_reckons c cx X N)
theorem t_Total_reckons (c : He.SaysD fa fn K) (cx : xaOk xa K = true) (X : K.In h) (N : h.Ns mainGlobals mg) : TabOk P w K mg base T_Total_reckons G_Total_reckons (GK K) 0 :=
  tab1 (mts := []) (fds := []) c X N trivial trivial rfl trivial rfl trivial trivial trivial trivial
theorem m_Total_reckons (c : He.SaysD fa fn K) (cx : xaOk xa K = true) (X : K.In h) (N : h.Ns mainGlobals mg) : MthAt P w K mg base (GK K) 1 1 "reckons" 0 g_Total_reckons :=
  mth1 (G := GK K) (T := T_Total_reckons) (Γ := G_Total_reckons) (k := 0) (m := 0) (i := 70) (j := 127) (j2 := 23) (ir := i_Total_reckons) (ps := ["self"]) (d := d_Total_reckons) (cn := 1) c rfl rfl rfl rfl rfl rfl rfl rfl (show ("reckons" : Str) ∉ FL 1 by decide) rfl s_Total_reckons rfl c_Total_reckons (fun _ _ _ _ _ _ us hl => match us, hl with | [_], _ => rfl) (t_Total_reckons c cx X N)
theorem t_Rising_reckons (c : He.SaysD fa fn K) (cx : xaOk xa K = true) (X : K.In h) (N : h.Ns mainGlobals mg) : TabOk P w K mg base T_Rising_reckons G_Rising_reckons (GK K) 0 :=
  tab1 (mts := []) (fds := []) c X N trivial trivial rfl trivial rfl trivial trivial trivial trivial
theorem m_Rising_reckons (c : He.SaysD fa fn K) (cx : xaOk xa K = true) (X : K.In h) (N : h.Ns mainGlobals mg) : MthAt P w K mg base (GK K) 1 2 "reckons" 0 g_Rising_reckons :=
  mth1 (G := GK K) (T := T_Rising_reckons) (Γ := G_Rising_reckons) (k := 0) (m := 0) (i := 71) (j := 128) (j2 := 25) (ir := i_Rising_reckons) (ps := ["self"]) (d := d_Rising_reckons) (cn := 2) c rfl rfl rfl rfl rfl rfl rfl rfl (show ("reckons" : Str) ∉ FL 2 by decide) rfl s_Rising_reckons rfl c_Rising_reckons (fun _ _ _ _ _ _ us hl => match us, hl with | [_], _ => rfl) (t_Rising_reckons c cx X N)
theorem t_Seen_reckons (c : He.SaysD fa fn K) (cx : xaOk xa K = true) (X : K.In h) (N : h.Ns mainGlobals mg) : TabOk P w K mg base T_Seen_reckons G_Seen_reckons (GK K) 0 :=
  tab1 (mts := []) (fds := []) c X N trivial trivial rfl trivial rfl trivial trivial trivial trivial
theorem m_Seen_reckons (c : He.SaysD fa fn K) (cx : xaOk xa K = true) (X : K.In h) (N : h.Ns mainGlobals mg) : MthAt P w K mg base (GK K) 1 3 "reckons" 0 g_Seen_reckons :=
  mth1 (G := GK K) (T := T_Seen_reckons) (Γ := G_Seen_reckons) (k := 0) (m := 0) (i := 72) (j := 129) (j2 := 27) (ir := i_Seen_reckons) (ps := ["self"]) (d := d_Seen_reckons) (cn := 3) c rfl rfl rfl rfl rfl rfl rfl rfl (show ("reckons" : Str) ∉ FL 3 by decide) rfl s_Seen_reckons rfl c_Seen_reckons (fun _ _ _ _ _ _ us hl => match us, hl with | [_], _ => rfl) (t_Seen_reckons c cx X N)
theorem t_Rule_number (c : He.SaysD fa fn K) (cx : xaOk xa K = true) (X : K.In h) (N : h.Ns mainGlobals mg) : TabOk P w K mg base T_Rule_number G_Rule_number (GK K) 0 :=
  tab1 (mts := []) (fds := [(0, 0, 2), (1, 0, 2), (2, 0, 2), (3, 0, 2), (4, 0, 2), (5, 0, 2), (6, 0, 2), (7, 0, 2)]) c X N trivial trivial rfl trivial rfl ⟨fun x e => by cases e; exact fd1 (j := 21) (j2 := 38) c rfl rfl rfl rfl (show (FL 0).Nodup by decide), fun x e => by cases e; exact fd1 (j := 23) (j2 := 39) c rfl rfl rfl rfl (show (FL 1).Nodup by decide), fun x e => by cases e; exact fd1 (j := 25) (j2 := 40) c rfl rfl rfl rfl (show (FL 2).Nodup by decide), fun x e => by cases e; exact fd1 (j := 27) (j2 := 41) c rfl rfl rfl rfl (show (FL 3).Nodup by decide), fun x e => by cases e; exact fd1 (j := 29) (j2 := 42) c rfl rfl rfl rfl (show (FL 4).Nodup by decide), fun x e => by cases e; exact fd1 (j := 31) (j2 := 43) c rfl rfl rfl rfl (show (FL 5).Nodup by decide), fun x e => by cases e; exact fd1 (j := 33) (j2 := 44) c rfl rfl rfl rfl (show (FL 6).Nodup by decide), fun x e => by cases e; exact fd1 (j := 35) (j2 := 45) c rfl rfl rfl rfl (show (FL 7).Nodup by decide), trivial⟩ trivial trivial trivial
theorem m_Unlike_number (c : He.SaysD fa fn K) (cx : xaOk xa K = true) (X : K.In h) (N : h.Ns mainGlobals mg) : MthAt P w K mg base (GK K) 1 0 "number" 0 g_Rule_number :=
  mth1 (G := GK K) (T := T_Rule_number) (Γ := G_Rule_number) (k := 0) (m := 0) (i := 77) (j := 130) (j2 := 21) (ir := i_Rule_number) (ps := ["self"]) (d := d_Unlike_number) (cn := 0) c rfl rfl rfl rfl rfl rfl rfl rfl (show ("number" : Str) ∉ FL 0 by decide) rfl s_Rule_number rfl c_Rule_number (fun _ _ _ _ _ _ us hl => match us, hl with | [_], _ => rfl) (t_Rule_number c cx X N)
theorem m_Total_number (c : He.SaysD fa fn K) (cx : xaOk xa K = true) (X : K.In h) (N : h.Ns mainGlobals mg) : MthAt P w K mg base (GK K) 1 1 "number" 0 g_Rule_number :=
  mth1 (G := GK K) (T := T_Rule_number) (Γ := G_Rule_number) (k := 0) (m := 0) (i := 78) (j := 131) (j2 := 23) (ir := i_Rule_number) (ps := ["self"]) (d := d_Total_number) (cn := 1) c rfl rfl rfl rfl rfl rfl rfl rfl (show ("number" : Str) ∉ FL 1 by decide) rfl s_Rule_number rfl c_Rule_number (fun _ _ _ _ _ _ us hl => match us, hl with | [_], _ => rfl) (t_Rule_number c cx X N)
theorem m_Rising_number (c : He.SaysD fa fn K) (cx : xaOk xa K = true) (X : K.In h) (N : h.Ns mainGlobals mg) : MthAt P w K mg base (GK K) 1 2 "number" 0 g_Rule_number :=
  mth1 (G := GK K) (T := T_Rule_number) (Γ := G_Rule_number) (k := 0) (m := 0) (i := 79) (j := 132) (j2 := 25) (ir := i_Rule_number) (ps := ["self"]) (d := d_Rising_number) (cn := 2) c rfl rfl rfl rfl rfl rfl rfl rfl (show ("number" : Str) ∉ FL 2 by decide) rfl s_Rule_number rfl c_Rule_number (fun _ _ _ _ _ _ us hl => match us, hl with | [_], _ => rfl) (t_Rule_number c cx X N)
theorem m_Seen_number (c : He.SaysD fa fn K) (cx : xaOk xa K = true) (X : K.In h) (N : h.Ns mainGlobals mg) : MthAt P w K mg base (GK K) 1 3 "number" 0 g_Rule_number :=
  mth1 (G := GK K) (T := T_Rule_number) (Γ := G_Rule_number) (k := 0) (m := 0) (i := 80) (j := 133) (j2 := 27) (ir := i_Rule_number) (ps := ["self"]) (d := d_Seen_number) (cn := 3) c rfl rfl rfl rfl rfl rfl rfl rfl (show ("number" : Str) ∉ FL 3 by decide) rfl s_Rule_number rfl c_Rule_number (fun _ _ _ _ _ _ us hl => match us, hl with | [_], _ => rfl) (t_Rule_number c cx X N)
theorem m_Counted_number (c : He.SaysD fa fn K) (cx : xaOk xa K = true) (X : K.In h) (N : h.Ns mainGlobals mg) : MthAt P w K mg base (GK K) 1 4 "number" 0 g_Rule_number :=
  mth1 (G := GK K) (T := T_Rule_number) (Γ := G_Rule_number) (k := 0) (m := 0) (i := 81) (j := 134) (j2 := 29) (ir := i_Rule_number) (ps := ["self"]) (d := d_Counted_number) (cn := 4) c rfl rfl rfl rfl rfl rfl rfl rfl (show ("number" : Str) ∉ FL 4 by decide) rfl s_Rule_number rfl c_Rule_number (fun _ _ _ _ _ _ us hl => match us, hl with | [_], _ => rfl) (t_Rule_number c cx X N)
theorem m_Joined_number (c : He.SaysD fa fn K) (cx : xaOk xa K = true) (X : K.In h) (N : h.Ns mainGlobals mg) : MthAt P w K mg base (GK K) 1 5 "number" 0 g_Rule_number :=
  mth1 (G := GK K) (T := T_Rule_number) (Γ := G_Rule_number) (k := 0) (m := 0) (i := 82) (j := 135) (j2 := 31) (ir := i_Rule_number) (ps := ["self"]) (d := d_Joined_number) (cn := 5) c rfl rfl rfl rfl rfl rfl rfl rfl (show ("number" : Str) ∉ FL 5 by decide) rfl s_Rule_number rfl c_Rule_number (fun _ _ _ _ _ _ us hl => match us, hl with | [_], _ => rfl) (t_Rule_number c cx X N)
theorem m_NoSquare_number (c : He.SaysD fa fn K) (cx : xaOk xa K = true) (X : K.In h) (N : h.Ns mainGlobals mg) : MthAt P w K mg base (GK K) 1 6 "number" 0 g_Rule_number :=
  mth1 (G := GK K) (T := T_Rule_number) (Γ := G_Rule_number) (k := 0) (m := 0) (i := 83) (j := 136) (j2 := 33) (ir := i_Rule_number) (ps := ["self"]) (d := d_NoSquare_number) (cn := 6) c rfl rfl rfl rfl rfl rfl rfl rfl (show ("number" : Str) ∉ FL 6 by decide) rfl s_Rule_number rfl c_Rule_number (fun _ _ _ _ _ _ us hl => match us, hl with | [_], _ => rfl) (t_Rule_number c cx X N)
theorem m_Ring_number (c : He.SaysD fa fn K) (cx : xaOk xa K = true) (X : K.In h) (N : h.Ns mainGlobals mg) : MthAt P w K mg base (GK K) 1 7 "number" 0 g_Rule_number :=
  mth1 (G := GK K) (T := T_Rule_number) (Γ := G_Rule_number) (k := 0) (m := 0) (i := 84) (j := 137) (j2 := 35) (ir := i_Rule_number) (ps := ["self"]) (d := d_Ring_number) (cn := 7) c rfl rfl rfl rfl rfl rfl rfl rfl (show ("number" : Str) ∉ FL 7 by decide) rfl s_Rule_number rfl c_Rule_number (fun _ _ _ _ _ _ us hl => match us, hl with | [_], _ => rfl) (t_Rule_number c cx X N)
theorem t__law_told (c : He.SaysD fa fn K) (cx : xaOk xa K = true) (X : K.In h) (N : h.Ns mainGlobals mg) : TabOk P w K mg base T__law_told G__law_told (GK K) 2 :=
  tab1 (mts := [(0, 0, g_Rule_spots), (1, 0, g_Rule_spots), (2, 0, g_Rule_spots), (3, 0, g_Rule_spots), (4, 0, g_Rule_spots), (5, 0, g_Rule_spots), (6, 0, g_Rule_spots), (7, 0, g_Rule_spots), (0, 1, g_Rule_line), (1, 1, g_Rule_line), (2, 1, g_Rule_line), (3, 1, g_Rule_line), (4, 1, g_Rule_line), (5, 1, g_Rule_line), (6, 1, g_Rule_line), (7, 1, g_Rule_line), (0, 2, g_Rule_reckons), (1, 2, g_Total_reckons), (2, 2, g_Rising_reckons), (3, 2, g_Seen_reckons), (4, 2, g_Rule_reckons), (5, 2, g_Rule_reckons), (6, 2, g_Rule_reckons), (7, 2, g_Rule_reckons), (0, 3, g_Rule_sign), (1, 3, g_Rule_sign), (2, 3, g_Rule_sign), (3, 3, g_Rule_sign), (4, 3, g_Rule_sign), (5, 3, g_Rule_sign), (6, 3, g_Rule_sign), (7, 3, g_Rule_sign), (0, 4, g_Rule_number), (1, 4, g_Rule_number), (2, 4, g_Rule_number), (3, 4, g_Rule_number), (4, 4, g_Rule_number), (5, 4, g_Rule_number), (6, 4, g_Rule_number), (7, 4, g_Rule_number), (0, 5, g_Unlike_name), (1, 5, g_Total_name), (2, 5, g_Rising_name), (3, 5, g_Seen_name), (4, 5, g_Counted_name), (5, 5, g_Joined_name), (6, 5, g_NoSquare_name), (7, 5, g_Ring_name)]) (fds := []) c X N ⟨(o__law_whole c cx X N).mono (by decide), trivial⟩ trivial rfl ⟨fun x n e => by cases e; exact (m_Unlike_spots c cx X N).mono (by decide), fun x n e => by cases e; exact (m_Total_spots c cx X N).mono (by decide), fun x n e => by cases e; exact (m_Rising_spots c cx X N).mono (by decide), fun x n e => by cases e; exact (m_Seen_spots c cx X N).mono (by decide), fun x n e => by cases e; exact (m_Counted_spots c cx X N).mono (by decide), fun x n e => by cases e; exact (m_Joined_spots c cx X N).mono (by decide), fun x n e => by cases e; exact (m_NoSquare_spots c cx X N).mono (by decide), fun x n e => by cases e; exact (m_Ring_spots c cx X N).mono (by decide), fun x n e => by cases e; exact (m_Unlike_line c cx X N).mono (by decide), fun x n e => by cases e; exact (m_Total_line c cx X N).mono (by decide), fun x n e => by cases e; exact (m_Rising_line c cx X N).mono (by decide), fun x n e => by cases e; exact (m_Seen_line c cx X N).mono (by decide), fun x n e => by cases e; exact (m_Counted_line c cx X N).mono (by decide), fun x n e => by cases e; exact (m_Joined_line c cx X N).mono (by decide), fun x n e => by cases e; exact (m_NoSquare_line c cx X N).mono (by decide), fun x n e => by cases e; exact (m_Ring_line c cx X N).mono (by decide), fun x n e => by cases e; exact (m_Unlike_reckons c cx X N).mono (by decide), fun x n e => by cases e; exact (m_Total_reckons c cx X N).mono (by decide), fun x n e => by cases e; exact (m_Rising_reckons c cx X N).mono (by decide), fun x n e => by cases e; exact (m_Seen_reckons c cx X N).mono (by decide), fun x n e => by cases e; exact (m_Counted_reckons c cx X N).mono (by decide), fun x n e => by cases e; exact (m_Joined_reckons c cx X N).mono (by decide), fun x n e => by cases e; exact (m_NoSquare_reckons c cx X N).mono (by decide), fun x n e => by cases e; exact (m_Ring_reckons c cx X N).mono (by decide), fun x n e => by cases e; exact (m_Unlike_sign c cx X N).mono (by decide), fun x n e => by cases e; exact (m_Total_sign c cx X N).mono (by decide), fun x n e => by cases e; exact (m_Rising_sign c cx X N).mono (by decide), fun x n e => by cases e; exact (m_Seen_sign c cx X N).mono (by decide), fun x n e => by cases e; exact (m_Counted_sign c cx X N).mono (by decide), fun x n e => by cases e; exact (m_Joined_sign c cx X N).mono (by decide), fun x n e => by cases e; exact (m_NoSquare_sign c cx X N).mono (by decide), fun x n e => by cases e; exact (m_Ring_sign c cx X N).mono (by decide), fun x n e => by cases e; exact (m_Unlike_number c cx X N).mono (by decide), fun x n e => by cases e; exact (m_Total_number c cx X N).mono (by decide), fun x n e => by cases e; exact (m_Rising_number c cx X N).mono (by decide), fun x n e => by cases e; exact (m_Seen_number c cx X N).mono (by decide), fun x n e => by cases e; exact (m_Counted_number c cx X N).mono (by decide), fun x n e => by cases e; exact (m_Joined_number c cx X N).mono (by decide), fun x n e => by cases e; exact (m_NoSquare_number c cx X N).mono (by decide), fun x n e => by cases e; exact (m_Ring_number c cx X N).mono (by decide), fun x n e => by cases e; exact (m_Unlike_name c cx X N).mono (by decide), fun x n e => by cases e; exact (m_Total_name c cx X N).mono (by decide), fun x n e => by cases e; exact (m_Rising_name c cx X N).mono (by decide), fun x n e => by cases e; exact (m_Seen_name c cx X N).mono (by decide), fun x n e => by cases e; exact (m_Counted_name c cx X N).mono (by decide), fun x n e => by cases e; exact (m_Joined_name c cx X N).mono (by decide), fun x n e => by cases e; exact (m_NoSquare_name c cx X N).mono (by decide), fun x n e => by cases e; exact (m_Ring_name c cx X N).mono (by decide), trivial⟩ rfl trivial trivial trivial trivial
theorem o__law_told (c : He.SaysD fa fn K) (cx : xaOk xa K = true) (X : K.In h) (N : h.Ns mainGlobals mg) : DefAt P w K mg base (GK K) 3 "_law_told" 7 g__law_told :=
  def1 (G := GK K) (T := T__law_told) (Γ := G__law_told) (k := 2) (m := 1) (i := 13) (j := 138) (ir := i__law_told) (ps := ["_law_rule", "_law_name", "_law_cells", "_law_number", "_law_sign", "_law_by_size", "_law_line"]) (d := d__law_told) c X N rfl rfl rfl rfl rfl rfl s__law_told rfl c__law_told (fun _ _ _ _ _ _ us hl => match us, hl with | [_, _, _, _, _, _, _], _ => rfl) (t__law_told c cx X N)
theorem t_cells_told (c : He.SaysD fa fn K) (cx : xaOk xa K = true) (X : K.In h) (N : h.Ns mainGlobals mg) : TabOk P w K mg base T_cells_told G_cells_told (GK K) 1 :=
  tab1 (mts := []) (fds := []) c X N ⟨(o_many_cells c cx X N).mono (by decide), trivial⟩ trivial rfl trivial rfl trivial trivial trivial ⟨rs1 (j := 139) (j2 := 140) c X N rfl rfl rfl, trivial⟩
theorem o_cells_told (c : He.SaysD fa fn K) (cx : xaOk xa K = true) (X : K.In h) (N : h.Ns mainGlobals mg) : DefAt P w K mg base (GK K) 2 "cells_told" 2 g_cells_told :=
  def1 (G := GK K) (T := T_cells_told) (Γ := G_cells_told) (k := 1) (m := 0) (i := 14) (j := 141) (ir := i_cells_told) (ps := ["floor", "numbers"]) (d := d_cells_told) c X N rfl rfl rfl rfl rfl rfl s_cells_told rfl c_cells_told (fun _ _ _ _ _ _ us hl => match us, hl with | [_, _], _ => rfl) (t_cells_told c cx X N)
theorem t_sign_told (c : He.SaysD fa fn K) (cx : xaOk xa K = true) (X : K.In h) (N : h.Ns mainGlobals mg) : TabOk P w K mg base T_sign_told G_sign_told (GK K) 0 :=
  tab1 (mts := []) (fds := []) c X N trivial trivial rfl trivial rfl trivial trivial trivial ⟨rs1 (j := 139) (j2 := 140) c X N rfl rfl rfl, trivial⟩
theorem o_sign_told (c : He.SaysD fa fn K) (cx : xaOk xa K = true) (X : K.In h) (N : h.Ns mainGlobals mg) : DefAt P w K mg base (GK K) 1 "sign_told" 3 g_sign_told :=
  def1 (G := GK K) (T := T_sign_told) (Γ := G_sign_told) (k := 0) (m := 0) (i := 15) (j := 142) (ir := i_sign_told) (ps := ["floor", "numbers", "at"]) (d := d_sign_told) c X N rfl rfl rfl rfl rfl rfl s_sign_told rfl c_sign_told (fun _ _ _ _ _ _ us hl => match us, hl with | [_, _, _], _ => rfl) (t_sign_told c cx X N)
theorem t_Rule___init__ (c : He.SaysD fa fn K) (cx : xaOk xa K = true) (X : K.In h) (N : h.Ns mainGlobals mg) : TabOk P w K mg base T_Rule___init__ G_Rule___init__ (GK K) 0 :=
  tab1 (mts := []) (fds := [(0, 0, 3), (1, 0, 3), (2, 0, 3), (3, 0, 3), (4, 0, 3), (5, 0, 3), (6, 0, 3), (7, 0, 3), (0, 1, 2), (1, 1, 2), (2, 1, 2), (3, 1, 2), (4, 1, 2), (5, 1, 2), (6, 1, 2), (7, 1, 2), (0, 2, 1), (1, 2, 1), (2, 2, 1), (3, 2, 1), (4, 2, 1), (5, 2, 1), (6, 2, 1), (7, 2, 1), (0, 3, 0), (1, 3, 0), (2, 3, 0), (3, 3, 0), (4, 3, 0), (5, 3, 0), (6, 3, 0), (7, 3, 0)]) c X N trivial trivial rfl trivial rfl ⟨fun x e => by cases e; exact fd1 (j := 21) (j2 := 49) c rfl rfl rfl rfl (show (FL 0).Nodup by decide), fun x e => by cases e; exact fd1 (j := 23) (j2 := 50) c rfl rfl rfl rfl (show (FL 1).Nodup by decide), fun x e => by cases e; exact fd1 (j := 25) (j2 := 51) c rfl rfl rfl rfl (show (FL 2).Nodup by decide), fun x e => by cases e; exact fd1 (j := 27) (j2 := 52) c rfl rfl rfl rfl (show (FL 3).Nodup by decide), fun x e => by cases e; exact fd1 (j := 29) (j2 := 53) c rfl rfl rfl rfl (show (FL 4).Nodup by decide), fun x e => by cases e; exact fd1 (j := 31) (j2 := 54) c rfl rfl rfl rfl (show (FL 5).Nodup by decide), fun x e => by cases e; exact fd1 (j := 33) (j2 := 55) c rfl rfl rfl rfl (show (FL 6).Nodup by decide), fun x e => by cases e; exact fd1 (j := 35) (j2 := 56) c rfl rfl rfl rfl (show (FL 7).Nodup by decide), fun x e => by cases e; exact fd1 (j := 21) (j2 := 38) c rfl rfl rfl rfl (show (FL 0).Nodup by decide), fun x e => by cases e; exact fd1 (j := 23) (j2 := 39) c rfl rfl rfl rfl (show (FL 1).Nodup by decide), fun x e => by cases e; exact fd1 (j := 25) (j2 := 40) c rfl rfl rfl rfl (show (FL 2).Nodup by decide), fun x e => by cases e; exact fd1 (j := 27) (j2 := 41) c rfl rfl rfl rfl (show (FL 3).Nodup by decide), fun x e => by cases e; exact fd1 (j := 29) (j2 := 42) c rfl rfl rfl rfl (show (FL 4).Nodup by decide), fun x e => by cases e; exact fd1 (j := 31) (j2 := 43) c rfl rfl rfl rfl (show (FL 5).Nodup by decide), fun x e => by cases e; exact fd1 (j := 33) (j2 := 44) c rfl rfl rfl rfl (show (FL 6).Nodup by decide), fun x e => by cases e; exact fd1 (j := 35) (j2 := 45) c rfl rfl rfl rfl (show (FL 7).Nodup by decide), fun x e => by cases e; exact fd1 (j := 21) (j2 := 22) c rfl rfl rfl rfl (show (FL 0).Nodup by decide), fun x e => by cases e; exact fd1 (j := 23) (j2 := 24) c rfl rfl rfl rfl (show (FL 1).Nodup by decide), fun x e => by cases e; exact fd1 (j := 25) (j2 := 26) c rfl rfl rfl rfl (show (FL 2).Nodup by decide), fun x e => by cases e; exact fd1 (j := 27) (j2 := 28) c rfl rfl rfl rfl (show (FL 3).Nodup by decide), fun x e => by cases e; exact fd1 (j := 29) (j2 := 30) c rfl rfl rfl rfl (show (FL 4).Nodup by decide), fun x e => by cases e; exact fd1 (j := 31) (j2 := 32) c rfl rfl rfl rfl (show (FL 5).Nodup by decide), fun x e => by cases e; exact fd1 (j := 33) (j2 := 34) c rfl rfl rfl rfl (show (FL 6).Nodup by decide), fun x e => by cases e; exact fd1 (j := 35) (j2 := 36) c rfl rfl rfl rfl (show (FL 7).Nodup by decide), fun x e => by cases e; exact fd1 (j := 21) (j2 := 79) c rfl rfl rfl rfl (show (FL 0).Nodup by decide), fun x e => by cases e; exact fd1 (j := 23) (j2 := 80) c rfl rfl rfl rfl (show (FL 1).Nodup by decide), fun x e => by cases e; exact fd1 (j := 25) (j2 := 81) c rfl rfl rfl rfl (show (FL 2).Nodup by decide), fun x e => by cases e; exact fd1 (j := 27) (j2 := 82) c rfl rfl rfl rfl (show (FL 3).Nodup by decide), fun x e => by cases e; exact fd1 (j := 29) (j2 := 83) c rfl rfl rfl rfl (show (FL 4).Nodup by decide), fun x e => by cases e; exact fd1 (j := 31) (j2 := 84) c rfl rfl rfl rfl (show (FL 5).Nodup by decide), fun x e => by cases e; exact fd1 (j := 33) (j2 := 85) c rfl rfl rfl rfl (show (FL 6).Nodup by decide), fun x e => by cases e; exact fd1 (j := 35) (j2 := 86) c rfl rfl rfl rfl (show (FL 7).Nodup by decide), trivial⟩ trivial trivial trivial
theorem n_Unlike (c : He.SaysD fa fn K) (cx : xaOk xa K = true) (X : K.In h) (N : h.Ns mainGlobals mg) : NwAt P w K mg base (GK K) 2 "Unlike" 4 0 ini_Unlike :=
  ini1 (G := GK K) (T := T_Rule___init__) (Γ := G_Rule___init__) (k := 0) (m := 0) (i := 85) (j := 143) (j2 := 144) (ir := i_Rule___init__) (ps := ["self", "ground", "cells", "wanted", "of_sign"]) (d := d_Unlike___init__) (cn := 0) c X N rfl rfl rfl rfl rfl rfl rfl rfl rfl rfl s_Rule___init__ rfl c_Rule___init__ (fun _ _ _ _ _ _ us hl => match us, hl with | [_, _, _, _, _], _ => rfl) (t_Rule___init__ c cx X N)
theorem n_Total (c : He.SaysD fa fn K) (cx : xaOk xa K = true) (X : K.In h) (N : h.Ns mainGlobals mg) : NwAt P w K mg base (GK K) 2 "Total" 4 1 ini_Total :=
  ini1 (G := GK K) (T := T_Rule___init__) (Γ := G_Rule___init__) (k := 0) (m := 0) (i := 86) (j := 145) (j2 := 146) (ir := i_Rule___init__) (ps := ["self", "ground", "cells", "wanted", "of_sign"]) (d := d_Total___init__) (cn := 1) c X N rfl rfl rfl rfl rfl rfl rfl rfl rfl rfl s_Rule___init__ rfl c_Rule___init__ (fun _ _ _ _ _ _ us hl => match us, hl with | [_, _, _, _, _], _ => rfl) (t_Rule___init__ c cx X N)
theorem n_Rising (c : He.SaysD fa fn K) (cx : xaOk xa K = true) (X : K.In h) (N : h.Ns mainGlobals mg) : NwAt P w K mg base (GK K) 2 "Rising" 4 2 ini_Rising :=
  ini1 (G := GK K) (T := T_Rule___init__) (Γ := G_Rule___init__) (k := 0) (m := 0) (i := 87) (j := 147) (j2 := 148) (ir := i_Rule___init__) (ps := ["self", "ground", "cells", "wanted", "of_sign"]) (d := d_Rising___init__) (cn := 2) c X N rfl rfl rfl rfl rfl rfl rfl rfl rfl rfl s_Rule___init__ rfl c_Rule___init__ (fun _ _ _ _ _ _ us hl => match us, hl with | [_, _, _, _, _], _ => rfl) (t_Rule___init__ c cx X N)
theorem n_Seen (c : He.SaysD fa fn K) (cx : xaOk xa K = true) (X : K.In h) (N : h.Ns mainGlobals mg) : NwAt P w K mg base (GK K) 2 "Seen" 4 3 ini_Seen :=
  ini1 (G := GK K) (T := T_Rule___init__) (Γ := G_Rule___init__) (k := 0) (m := 0) (i := 88) (j := 149) (j2 := 150) (ir := i_Rule___init__) (ps := ["self", "ground", "cells", "wanted", "of_sign"]) (d := d_Seen___init__) (cn := 3) c X N rfl rfl rfl rfl rfl rfl rfl rfl rfl rfl s_Rule___init__ rfl c_Rule___init__ (fun _ _ _ _ _ _ us hl => match us, hl with | [_, _, _, _, _], _ => rfl) (t_Rule___init__ c cx X N)
theorem n_Counted (c : He.SaysD fa fn K) (cx : xaOk xa K = true) (X : K.In h) (N : h.Ns mainGlobals mg) : NwAt P w K mg base (GK K) 2 "Counted" 4 4 ini_Counted :=
  ini1 (G := GK K) (T := T_Rule___init__) (Γ := G_Rule___init__) (k := 0) (m := 0) (i := 89) (j := 151) (j2 := 152) (ir := i_Rule___init__) (ps := ["self", "ground", "cells", "wanted", "of_sign"]) (d := d_Counted___init__) (cn := 4) c X N rfl rfl rfl rfl rfl rfl rfl rfl rfl rfl s_Rule___init__ rfl c_Rule___init__ (fun _ _ _ _ _ _ us hl => match us, hl with | [_, _, _, _, _], _ => rfl) (t_Rule___init__ c cx X N)
theorem n_Joined (c : He.SaysD fa fn K) (cx : xaOk xa K = true) (X : K.In h) (N : h.Ns mainGlobals mg) : NwAt P w K mg base (GK K) 2 "Joined" 4 5 ini_Joined :=
  ini1 (G := GK K) (T := T_Rule___init__) (Γ := G_Rule___init__) (k := 0) (m := 0) (i := 90) (j := 153) (j2 := 154) (ir := i_Rule___init__) (ps := ["self", "ground", "cells", "wanted", "of_sign"]) (d := d_Joined___init__) (cn := 5) c X N rfl rfl rfl rfl rfl rfl rfl rfl rfl rfl s_Rule___init__ rfl c_Rule___init__ (fun _ _ _ _ _ _ us hl => match us, hl with | [_, _, _, _, _], _ => rfl) (t_Rule___init__ c cx X N)
theorem n_NoSquare (c : He.SaysD fa fn K) (cx : xaOk xa K = true) (X : K.In h) (N : h.Ns mainGlobals mg) : NwAt P w K mg base (GK K) 2 "NoSquare" 4 6 ini_NoSquare :=
  ini1 (G := GK K) (T := T_Rule___init__) (Γ := G_Rule___init__) (k := 0) (m := 0) (i := 91) (j := 155) (j2 := 156) (ir := i_Rule___init__) (ps := ["self", "ground", "cells", "wanted", "of_sign"]) (d := d_NoSquare___init__) (cn := 6) c X N rfl rfl rfl rfl rfl rfl rfl rfl rfl rfl s_Rule___init__ rfl c_Rule___init__ (fun _ _ _ _ _ _ us hl => match us, hl with | [_, _, _, _, _], _ => rfl) (t_Rule___init__ c cx X N)
theorem n_Ring (c : He.SaysD fa fn K) (cx : xaOk xa K = true) (X : K.In h) (N : h.Ns mainGlobals mg) : NwAt P w K mg base (GK K) 2 "Ring" 4 7 ini_Ring :=
  ini1 (G := GK K) (T := T_Rule___init__) (Γ := G_Rule___init__) (k := 0) (m := 0) (i := 92) (j := 157) (j2 := 158) (ir := i_Rule___init__) (ps := ["self", "ground", "cells", "wanted", "of_sign"]) (d := d_Ring___init__) (cn := 7) c X N rfl rfl rfl rfl rfl rfl rfl rfl rfl rfl s_Rule___init__ rfl c_Rule___init__ (fun _ _ _ _ _ _ us hl => match us, hl with | [_, _, _, _, _], _ => rfl) (t_Rule___init__ c cx X N)
theorem t_whole_rule (c : He.SaysD fa fn K) (cx : xaOk xa K = true) (X : K.In h) (N : h.Ns mainGlobals mg) : TabOk P w K mg base T_whole_rule G_whole_rule (GK K) 2 :=
  tab1 (mts := []) (fds := []) c X N ⟨(o_many_cells c cx X N).mono (by decide), (o_sign_told c cx X N).mono (by decide), trivial⟩ trivial rfl trivial rfl trivial ⟨(n_Ring c cx X N).mono (by decide), (n_NoSquare c cx X N).mono (by decide), (n_Joined c cx X N).mono (by decide), trivial⟩ trivial ⟨rs1 (j := 139) (j2 := 140) c X N rfl rfl rfl, trivial⟩
theorem o_whole_rule (c : He.SaysD fa fn K) (cx : xaOk xa K = true) (X : K.In h) (N : h.Ns mainGlobals mg) : DefAt P w K mg base (GK K) 3 "whole_rule" 3 g_whole_rule :=
  def1 (G := GK K) (T := T_whole_rule) (Γ := G_whole_rule) (k := 2) (m := 2) (i := 16) (j := 159) (ir := i_whole_rule) (ps := ["floor", "word", "numbers"]) (d := d_whole_rule) c X N rfl rfl rfl rfl rfl rfl s_whole_rule rfl c_whole_rule (fun _ _ _ _ _ _ us hl => match us, hl with | [_, _, _], _ => rfl) (t_whole_rule c cx X N)
theorem t_number_of (c : He.SaysD fa fn K) (cx : xaOk xa K = true) (X : K.In h) (N : h.Ns mainGlobals mg) : TabOk P w K mg base T_number_of G_number_of (GK K) 0 :=
  tab1 (mts := []) (fds := []) c X N trivial ⟨gc_str (j := 160) c X N rfl, gc_int (j := 161) c X N rfl, trivial⟩ rfl trivial rfl trivial trivial trivial ⟨rs1 (j := 139) (j2 := 140) c X N rfl rfl rfl, trivial⟩
theorem o_number_of (c : He.SaysD fa fn K) (cx : xaOk xa K = true) (X : K.In h) (N : h.Ns mainGlobals mg) : DefAt P w K mg base (GK K) 1 "number_of" 1 g_number_of :=
  def1 (G := GK K) (T := T_number_of) (Γ := G_number_of) (k := 0) (m := 1) (i := 17) (j := 162) (ir := i_number_of) (ps := ["word"]) (d := d_number_of) c X N rfl rfl rfl rfl rfl rfl s_number_of rfl c_number_of (fun _ _ _ _ _ _ us hl => match us, hl with | [_], _ => rfl) (t_number_of c cx X N)
theorem t_read_rule (c : He.SaysD fa fn K) (cx : xaOk xa K = true) (X : K.In h) (N : h.Ns mainGlobals mg) : TabOk P w K mg base T_read_rule G_read_rule (GK K) 3 :=
  tab1 (mts := []) (fds := []) c X N ⟨(o_cells_told c cx X N).mono (by decide), (o_sign_told c cx X N).mono (by decide), (o_whole_rule c cx X N).mono (by decide), (o_number_of c cx X N).mono (by decide), trivial⟩ trivial rfl trivial rfl trivial ⟨(n_Seen c cx X N).mono (by decide), (n_Total c cx X N).mono (by decide), (n_Counted c cx X N).mono (by decide), (n_Rising c cx X N).mono (by decide), (n_Unlike c cx X N).mono (by decide), trivial⟩ trivial ⟨rs1 (j := 139) (j2 := 140) c X N rfl rfl rfl, trivial⟩
theorem o_read_rule (c : He.SaysD fa fn K) (cx : xaOk xa K = true) (X : K.In h) (N : h.Ns mainGlobals mg) : DefAt P w K mg base (GK K) 4 "read_rule" 2 g_read_rule :=
  def1 (G := GK K) (T := T_read_rule) (Γ := G_read_rule) (k := 3) (m := 6) (i := 18) (j := 163) (ir := i_read_rule) (ps := ["floor", "line"]) (d := d_read_rule) c X N rfl rfl rfl rfl rfl rfl s_read_rule rfl c_read_rule (fun _ _ _ _ _ _ us hl => match us, hl with | [_, _], _ => rfl) (t_read_rule c cx X N)
theorem t__law_floor (c : He.SaysD fa fn K) (cx : xaOk xa K = true) (X : K.In h) (N : h.Ns mainGlobals mg) : TabOk P w K mg base T__law_floor G__law_floor (GK K) 0 :=
  tab1 (mts := []) (fds := []) c X N trivial trivial rfl trivial rfl trivial trivial trivial trivial
theorem o__law_floor (c : He.SaysD fa fn K) (cx : xaOk xa K = true) (X : K.In h) (N : h.Ns mainGlobals mg) : DefAt P w K mg base (GK K) 1 "_law_floor" 1 g__law_floor :=
  def1 (G := GK K) (T := T__law_floor) (Γ := G__law_floor) (k := 0) (m := 3) (i := 19) (j := 164) (ir := i__law_floor) (ps := ["_law_number"]) (d := d__law_floor) c X N rfl rfl rfl rfl rfl rfl s__law_floor rfl c__law_floor (fun _ _ _ _ _ _ us hl => match us, hl with | [_], _ => rfl) (t__law_floor c cx X N)
theorem t_law (c : He.SaysD fa fn K) (cx : xaOk xa K = true) (X : K.In h) (N : h.Ns mainGlobals mg) : TabOk P w K mg base T_law G_law (GK K) 6 :=
  tab1 (mts := []) (fds := []) c X N ⟨(o__law_asked c cx X N).mono (by decide), (o__law_due c cx X N).mono (by decide), (o__law_filling c cx X N).mono (by decide), (o__law_told c cx X N).mono (by decide), (o_read_rule c cx X N).mono (by decide), (o__law_mixed c cx X N).mono (by decide), (o__law_floor c cx X N).mono (by decide), trivial⟩ trivial rfl trivial rfl trivial trivial trivial trivial
theorem o_law {fa0 : Addr} (c : He.SaysD fa fn K) (cx : xaOk xa K = true) (X : K.In h) (N : h.Ns mainGlobals mg) (e : mg "law" = some (.ref fa0)) : ∃ fd : FuncData, (∀ (s : Shared) (u : Value), BindsTo s fd ⟨[u], []⟩ [("_law_script", u)]) ∧ ∀ base : Heap, K.In base → base.Ns mainGlobals mg → FnOk P w K mg base (L2.CX P w) 7 fa0 fd ["_law_script"] (spD (GK K) 1 g_law) :=
  law1 (G := GK K) (T := T_law) (Γ := G_law) (k := 6) (m := 9) (i := 20) (j := 165) (ir := i_law) (d := d_law) c X N rfl rfl rfl rfl rfl rfl e s_law rfl c_law (fun _ _ _ _ _ _ us hl => match us, hl with | [_], _ => rfl) (fun base _ _ => t_law c cx X N)
end
abbrev R : PySem.W.OpenRow := PySem.W.OpenLaw.row PySem.Challenge.rw_cluemaker_k16_squares_of_a_sign
def as : List Addr := ([3, 31, 30, 44, 43, 159, 158, 192, 191, 237, 236, 277, 276, 324, 323, 362, 361, 414, 413, 452, 451, 490, 489, 182, 181, 213, 212, 260, 259, 300] : List Addr) ++ ([299, 345, 344, 60, 59, 67, 66, 81, 80, 376, 375, 109, 108, 130, 129, 369, 368, 397, 396, 53, 52, 74, 73, 435, 434, 473, 472, 579, 578, 572] : List Addr) ++ ([571, 532, 531, 560, 559, 565, 564, 546, 545, 177, 176, 208, 207, 253, 252, 293, 292, 340, 339, 390, 389, 430, 429, 468, 467, 149, 148, 227, 226, 314] : List Addr) ++ ([313, 352, 351, 404, 403, 442, 441, 480, 479, 142, 141, 137, 136, 220, 219, 267, 266, 307, 306, 123, 122, 553, 552, 513, 512, 506, 505, 95, 94, 520] : List Addr) ++ ([519, 499, 498, 525, 524, 539, 538, 584, 583] : List Addr)
def loose : List Str := (["_wall", "ClueError", "NoRule", "many_cells", "spot_of", "beside", "squares", "reached", "Rule", "Unlike", "Total", "Rising", "Seen", "Counted", "cells_with", "are_joined", "Joined", "NoSquare", "Ring", "FIGURES", "LONGEST", "number_of", "sign_told", "cells_told", "whole_rule", "read_rule", "_law_mixed", "_law_floor", "_law_whole", "_law_told"] : List Str) ++ (["_law_other", "_law_filling", "_law_due", "_law_asked"] : List Str)
abbrev vw : Program := PySem.W.view R.prog [39]
theorem rA (w : World) : ∀ os : OsState, (HandSHeadRun.endF (HandSHeadRun.stepQ (HandSHeadRun.denQ HandSHeadRun.tabQ) R.prog w) 4412 R.prog w os).map (fun s => HandSHeadRun.looksF R.prog (PySem.W.boot_heap w.params) s.abs) = some true := by
  intro os
  kernel_rfl
theorem rB (w : World) : ∀ os : OsState, (HandSHeadRun.endF (HandSHeadRun.stepQ (HandSHeadRun.denQ HandSHeadRun.tabQ) R.prog w) 4412 R.prog w os).map (fun s => HandSHeadRun.seenQ vw loose (PySem.importedModules R.prog.main.body) (fun s => PySem.W.xlAt vw [] s && PySem.W.recOk R.toRowW.records s) s.abs) = some (PySem.W.openGood vw loose) := by
  intro os
  kernel_rfl
theorem rC (w : World) : ∀ os : OsState, (HandSHeadRun.endF (HandSHeadRun.stepQ (HandSHeadRun.denQ HandSHeadRun.tabQ) R.prog w) 4412 R.prog w os).map (obT as fa fn xa) = some ((hookL as fa fn xa).val w) := by
  intro os
  kernel_rfl
theorem run (w : World) : HandSHeadRun.RunEq R vw (hookL as fa fn xa) (obT as fa fn xa) 4412 loose w := run3 (rA w) (rB w) (rC w)
end K16
open PySem PySem.W PySem.Calls PyProof.Rows
theorem PySem.Challenge.cw_cluemaker_k16_squares_of_a_sign_holds : PySem.Challenge.rw_cluemaker_k16_squares_of_a_sign.Holds := by
  w_on; o_law
  refine HandSHeadRun.head_any (r := K16.R) (q := K16.vw) (H := Cm.hookL K16.as K16.fa K16.fn K16.xa) (ob := Cm.obT K16.as K16.fa K16.fn K16.xa) (M := 4412) (loose := K16.loose) (d := HandSHeadRun.topDef K16.R.prog 39) (kwd := []) Cm.obT_eq
    (by kernel_rfl) (fun s => by kernel_rfl) K16.run (by kernel_rfl) (by kernel_rfl) (by kernel_rfl) (by rfl) (by first | assumption | decide +kernel) (by decide +kernel) ⟨rfl, rfl, rfl, rfl, rfl, by decide +kernel⟩ ?hw ?hc
  case hw => w_witness2
  case hc =>
    refine LamX.walk_ofTsE (l := PySem.Challenge.rw_cluemaker_k16_squares_of_a_sign) (n := 63) (k := 7) (x := "_law_script") (CX := fun w => L2.CX PySem.Challenge.rw_cluemaker_k16_squares_of_a_sign.prog w) rfl (by decide) (by kernel_rfl) ⟨rfl, by decide, by decide⟩ ?F (fun w => Cm.cx_end)
    intro w mg fa0 h Y N hmg0
    obtain ⟨K, KX, c, cx⟩ := Y
    have hmg : mg ("law" : PySem.Str) = some (.ref fa0) := by
      have e : (HandSHeadRun.topDef K16.R.prog 39).name = ("law" : PySem.Str) := by kernel_rfl
      rw [← e]
      exact hmg0
    exact ⟨K, KX, Cm.law_at (G := K16.GK K) (g := K16.g_law) rfl (K16.o_law c cx KX N hmg) K16.law_true⟩

