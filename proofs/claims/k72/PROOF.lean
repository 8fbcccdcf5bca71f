import PyProof.Rows.All
import Wide.All
import OpenK.AllK
import Wide.FinOn
import HandS.ForMost
import HandS.Flow
import HandS.TupAny
import KE.KDictKeyed
import HandS.TupMul
import HandS.Deep
import HandS.TupSets
import HandS.Conv
import HandS.IsInst
import HandS.Dict
import HandS.DictComp
import HandS.Star
import HandS.Iter
import HandS.Wide
import HandS.Zip
import HandS.Strs
import HandS.AnyAll
import KE.SortData
import KE.DataMinMax
import HandS.Small
import PySem.Challenge.RW_facechains_k72_what_a_few_wheels_see
set_option Elab.async false
set_option linter.all false
set_option maxRecDepth 100000
set_option maxHeartbeats 2000000
/-! Z1: data without addresses (D), what stands for them in the abstract heap (Rep), the state of a body (RelSt). -/
namespace Z
open PySem PySem.Spec L2
open PyProof.Rows hiding St

inductive D where
  | non
  | bl (b : Bool)
  | int (i : Int)
  | str (x : Str)
  | tup (xs : List D)
  | lst (xs : List D)
  | dct (ks vs : List D)
  | scr (ns : List Int)

namespace D
mutual
def beq : D → D → Bool
  | .non, .non => true
  | .bl a, .bl b => a == b
  | .int a, .int b => decide (a = b)
  | .str a, .str b => decide (a = b)
  | .tup a, .tup b => beqs a b
  | .lst a, .lst b => beqs a b
  | .dct a c, .dct b d => beqs a b && beqs c d
  | .scr a, .scr b => decide (a = b)
  | _, _ => false
def beqs : List D → List D → Bool
  | [], [] => true
  | a :: as, b :: bs => beq a b && beqs as bs
  | _, _ => false
end
mutual
theorem beq_self : ∀ a : D, beq a a = true
  | .non => rfl
  | .bl a => by simp [beq]
  | .int a => by simp [beq]
  | .str a => by simp [beq]
  | .tup a => by rw [beq]; exact beqs_self a
  | .lst a => by rw [beq]; exact beqs_self a
  | .dct a c => by rw [beq, beqs_self a, beqs_self c]; rfl
  | .scr a => by simp [beq]
theorem beqs_self : ∀ a : List D, beqs a a = true
  | [] => rfl
  | a :: as => by rw [beqs, beq_self a, beqs_self as]; rfl
end
mutual
theorem eq_of_beq : ∀ a b : D, beq a b = true → a = b
  | .non, b, h => by cases b <;> simp [beq] at h ⊢
  | .bl a, b, h => by cases b <;> simp [beq] at h ⊢; exact h
  | .int a, b, h => by cases b <;> simp [beq] at h ⊢; exact h
  | .str a, b, h => by cases b <;> simp [beq] at h ⊢; exact h
  | .tup a, b, h => by cases b <;> simp [beq] at h ⊢; exact eq_of_beqs a _ h
  | .lst a, b, h => by cases b <;> simp [beq] at h ⊢; exact eq_of_beqs a _ h
  | .dct a c, b, h => by cases b <;> simp [beq] at h ⊢; exact ⟨eq_of_beqs a _ h.1, eq_of_beqs c _ h.2⟩
  | .scr a, b, h => by cases b <;> simp [beq] at h ⊢; exact h
theorem eq_of_beqs : ∀ a b : List D, beqs a b = true → a = b
  | [], [], _ => rfl
  | a :: as, b :: bs, h => by
    rw [beqs, Bool.and_eq_true] at h
    rw [eq_of_beq a b h.1, eq_of_beqs as bs h.2]
  | [], _ :: _, h => by simp [beqs] at h
  | _ :: _, [], h => by simp [beqs] at h
end
instance : DecidableEq D := fun a b => if h : beq a b = true then Decidable.isTrue (eq_of_beq a b h) else Decidable.isFalse fun e => h (e ▸ beq_self a)
end D

mutual
def nkey : D → Option NestedKey
  | .int i => some (.num i)
  | .str x => some (.text x)
  | .tup xs => (nkeys xs).map .tup
  | _ => none
def nkeys : List D → Option (List NestedKey)
  | [] => some []
  | d :: ds => match nkey d, nkeys ds with
    | some k, some ks => some (k :: ks)
    | _, _ => none
end
def keyD : Key → D
  | .inl i => .int i
  | .inr x => .str x

/-- what a dict with tuple keys is at its one object -/
def RawD (P : Program) (w : World) (a : Addr) (xs : List (NestedKey × Addr × V)) (h : Heap) : Prop :=
  xs.length ≤ sizeLine ∧ (a == sysModules) = false ∧ ∃ ys : List (NestedKey × Addr × Value), Paired (fun (p : NestedKey × Addr × V) (q : NestedKey × Addr × Value) => p.1 = q.1 ∧ p.2.1 = q.2.1 ∧ RelV p.2.2 q.2.2) xs ys ∧
    ∃ o es ep, h.get? a = some o ∧ o.ExactDict ∧ o.data = .dict es ep ∧ es.toList = ys.map (entryOfKey (nestedKind P w)) ∧ (ys.map (·.1)).Nodup
def rawO (P : Program) (w : World) (a : Addr) (xs : List (NestedKey × Addr × V)) : HO := .ext (RawD P w a xs)

/-- the fixed things: program, world, written part -/
structure Cfg where
  P : Program
  w : World
  K : PySem.W.Frag

def HD (H : Hp) (a : Addr) (u : HO) : Prop := H a = some u ∨ ∃ o, H a = some (.frz o u)
/-- a list of the written part -/
def KLst (K : PySem.W.Frag) (a : Addr) (xs : List V) : Prop := ∃ (o : Obj) (its : Array Value) (n : Nat), K.lookup a = some o ∧ o.cls = .type "list" ∧ o.dict = none ∧ o.data = .seq its n ∧ its.size ≤ sizeLine ∧ Vals xs its.toList
/-- a list that is tracked -/
def HL (H : Hp) (a : Addr) (vs : List V) : Prop := H a = some (.lst vs)
theorem HD.of {H : Hp} {a : Addr} {u : HO} (h : H a = some u) : HD H a u := .inl h

section
variable (C : Cfg) (H : Hp) (S : Addr → Prop)
mutual
def Rep : D → V → Prop
  | .non, v => v = .non
  | .bl b, v => v = .bl b
  | .int i, v => v = .int i
  | .str x, v => v = .str x
  | .tup xs, v => ∃ a vs, v = .ref a ∧ SqT C.K H a vs ∧ Reps xs vs
  | .lst xs, v => ∃ a vs, v = .ref a ∧ ¬ S a ∧ HL H a vs ∧ Reps xs vs
  | .dct ks ws, v => ∃ a, v = .ref a ∧ ¬ S a ∧ ks.Nodup ∧ ((∃ kvs : List (Key × V), HD H a (.dK kvs) ∧ ks = kvs.map (fun p => keyD p.1) ∧ Reps ws (kvs.map (·.2))) ∨
      (∃ xs : List (NestedKey × Addr × V), HD H a (rawO C.P C.w a xs) ∧ Reps ks (xs.map fun x => .ref x.2.1) ∧ ks.map nkey = xs.map (fun x => some x.1) ∧ Reps ws (xs.map (·.2.2))))
  | .scr ns, v => ∃ a, v = .ref a ∧ ((¬ S a ∧ HD H a (.lst (ns.map V.int))) ∨ KLst C.K a (ns.map V.int))
def Reps : List D → List V → Prop
  | [], vs => vs = []
  | d :: ds, vs => ∃ v r, vs = v :: r ∧ Rep d v ∧ Reps ds r
end
/-- a list, a dict that may be written -/
def RepO : D → Addr → Prop
  | .lst xs, a => ∃ vs, H a = some (.lst vs) ∧ Reps C H S xs vs
  | .dct ks ws, a => ks.Nodup ∧ ((∃ kvs : List (Key × V), H a = some (.dK kvs) ∧ ks = kvs.map (fun p => keyD p.1) ∧ Reps C H S ws (kvs.map (·.2))) ∨
      (∃ xs : List (NestedKey × Addr × V), H a = some (rawO C.P C.w a xs) ∧ Reps C H S ks (xs.map fun x => .ref x.2.1) ∧ ks.map nkey = xs.map (fun x => some x.1) ∧ Reps C H S ws (xs.map (·.2.2))))
  | _, _ => False
end

/-- what may be written -/
def MutO : HO → Prop
  | .lst _ => True
  | .dK _ => True
  | .ext _ => True
  | _ => False

section
variable {C : Cfg} {H H' : Hp} {S S' : Addr → Prop}
theorem Rep.lst {xs : List D} {a : Addr} (h : RepO C H S (.lst xs) a) (n : ¬ S a) : Rep C H S (.lst xs) (.ref a) := by
  obtain ⟨vs, h1, h2⟩ := h
  rw [Rep]
  exact ⟨a, vs, rfl, n, h1, h2⟩
theorem Rep.ofO {d : D} {a : Addr} (h : RepO C H S d a) (n : ¬ S a) : Rep C H S d (.ref a) := by
  cases d with
  | lst xs => exact Rep.lst h n
  | dct ks ws =>
    obtain ⟨nd, h⟩ := h
    rw [Rep]
    refine ⟨a, rfl, n, nd, ?_⟩
    rcases h with ⟨kvs, h1, h2, h3⟩ | ⟨xs, h1, h2, h3, h4⟩
    · exact .inl ⟨kvs, .inl h1, h2, h3⟩
    · exact .inr ⟨xs, .inl h1, h2, h3, h4⟩
  | _ => exact False.elim h
theorem RepO.mut {d : D} {a : Addr} (h : RepO C H S d a) : ∃ o, H a = some o ∧ MutO o := by
  cases d with
  | lst xs => obtain ⟨vs, h1, _⟩ := h; exact ⟨_, h1, trivial⟩
  | dct ks ws =>
    obtain ⟨_, ⟨kvs, h1, _⟩ | ⟨xs, h1, _⟩⟩ := h
    · exact ⟨_, h1, trivial⟩
    · exact ⟨_, h1, trivial⟩
  | _ => exact False.elim h
def SOk (H : Hp) (S : Addr → Prop) : Prop := ∀ a, S a → ∃ o, H a = some o ∧ MutO o
theorem SOk.not {a : Addr} {o : HO} (h : SOk H S) (e : H a = some o) (n : ¬ MutO o) : ¬ S a := fun s => by
  obtain ⟨o', e', m⟩ := h a s
  rw [e] at e'
  cases e'
  exact n m
/-- what S does not hold is kept; S' holds beside S only what is new -/
structure Carry (H H' : Hp) (S S' : Addr → Prop) : Prop where
  ok : SOk H S
  keep : ∀ a o, H a = some o → ¬ S a → H' a = some o
  sub : ∀ a, S' a → S a ∨ H a = none
theorem Carry.refl (ok : SOk H S) : Carry H H S S := ⟨ok, fun _ _ e _ => e, fun _ s => .inl s⟩
theorem HD.carry {a : Addr} {u : HO} (c : Carry H H' S S') (n : ¬ S a) (h : HD H a u) : HD H' a u := by
  rcases h with h | ⟨o, h⟩
  · exact .inl (c.keep a _ h n)
  · exact .inr ⟨o, c.keep a _ h n⟩
theorem HL.carry {a : Addr} {u : List V} (c : Carry H H' S S') (n : ¬ S a) (h : HL H a u) : HL H' a u := c.keep a _ h n
theorem HL.there {a : Addr} {u : List V} (h : HL H a u) : H a ≠ none := by
  have h : H a = some (.lst u) := h
  rw [h]; exact fun e => nomatch e
theorem HD.there {a : Addr} {u : HO} (h : HD H a u) : H a ≠ none := by
  rcases h with h | ⟨o, h⟩ <;> rw [h] <;> exact fun e => nomatch e
theorem sqT_carry {K : PySem.W.Frag} {a : Addr} {vs : List V} (c : Carry H H' S S') (h : SqT K H a vs) : SqT K H' a vs := by
  rcases h with (h | ⟨o, h⟩) | h
  · exact .inl (.inl (c.keep a _ h (c.ok.not h fun z => z)))
  · exact .inl (.inr ⟨o, c.keep a _ h (c.ok.not h fun z => z)⟩)
  · exact .inr h
theorem Carry.ne {a : Addr} (c : Carry H H' S S') (n : ¬ S a) (e : H a ≠ none) : ¬ S' a := fun s => by
  rcases c.sub a s with z | z
  · exact n z
  · exact e z
/-- a list that is not known to be tracked: the script (frozen) -/
theorem sqL_carry {K : PySem.W.Frag} {a : Addr} {vs : List V} (c : Carry H H' S S') (n : ¬ S a) (h : SqL K H a vs) : SqL K H' a vs := by
  rcases h with (h | ⟨o, h⟩) | h
  · exact .inl (.inl (c.keep a _ h n))
  · exact .inl (.inr ⟨o, c.keep a _ h n⟩)
  · exact .inr h
mutual
theorem Rep.carry (c : Carry H H' S S') : ∀ (d : D) (v : V), Rep C H S d v → Rep C H' S' d v
  | .non, v, h => by rw [Rep] at h ⊢; exact h
  | .bl b, v, h => by rw [Rep] at h ⊢; exact h
  | .int b, v, h => by rw [Rep] at h ⊢; exact h
  | .str b, v, h => by rw [Rep] at h ⊢; exact h
  | .tup xs, v, h => by
    rw [Rep] at h ⊢
    obtain ⟨a, vs, e, q, r⟩ := h
    exact ⟨a, vs, e, sqT_carry c q, Reps.carry c xs vs r⟩
  | .lst xs, v, h => by
    rw [Rep] at h ⊢
    obtain ⟨a, vs, e, n, q, r⟩ := h
    exact ⟨a, vs, e, c.ne n q.there, q.carry c n, Reps.carry c xs vs r⟩
  | .dct ks ws, v, h => by
    rw [Rep] at h ⊢
    obtain ⟨a, e, n, nd, ⟨kvs, q, ek, r⟩ | ⟨xs, q, rk, ek, r⟩⟩ := h
    · exact ⟨a, e, c.ne n q.there, nd, .inl ⟨kvs, q.carry c n, ek, Reps.carry c ws _ r⟩⟩
    · exact ⟨a, e, c.ne n q.there, nd, .inr ⟨xs, q.carry c n, Reps.carry c ks _ rk, ek, Reps.carry c ws _ r⟩⟩
  | .scr ns, v, h => by
    rw [Rep] at h ⊢
    obtain ⟨a, e, ⟨n, q⟩ | q⟩ := h
    · exact ⟨a, e, .inl ⟨c.ne n q.there, q.carry c n⟩⟩
    · exact ⟨a, e, .inr q⟩
theorem Reps.carry (c : Carry H H' S S') : ∀ (ds : List D) (vs : List V), Reps C H S ds vs → Reps C H' S' ds vs
  | [], vs, h => by rw [Reps] at h ⊢; exact h
  | d :: ds, vs, h => by
    rw [Reps] at h ⊢
    obtain ⟨v, r, e, h1, h2⟩ := h
    exact ⟨v, r, e, Rep.carry c d v h1, Reps.carry c ds r h2⟩
end
theorem RepO.carry (c : Carry H H' S S') {d : D} {a : Addr} (k : ∀ o, H a = some o → H' a = some o) (h : RepO C H S d a) : RepO C H' S' d a := by
  cases d with
  | lst xs =>
    obtain ⟨vs, h1, h2⟩ := h
    exact ⟨vs, k _ h1, Reps.carry c _ _ h2⟩
  | dct ks ws =>
    obtain ⟨nd, ⟨kvs, h1, h2, h3⟩ | ⟨xs, h1, h2, h3, h4⟩⟩ := h
    · exact ⟨nd, .inl ⟨kvs, k _ h1, h2, Reps.carry c _ _ h3⟩⟩
    · exact ⟨nd, .inr ⟨xs, k _ h1, Reps.carry c _ _ h2, h3, Reps.carry c _ _ h4⟩⟩
  | _ => exact False.elim h
/-- fewer are avoided -/
theorem Rep.anti (ok : SOk H S) (sub : ∀ a, S' a → S a) {d : D} {v : V} (h : Rep C H S d v) : Rep C H S' d v := Rep.carry ⟨ok, fun _ _ e _ => e, fun a s => .inl (sub a s)⟩ d v h
theorem Reps.anti (ok : SOk H S) (sub : ∀ a, S' a → S a) {d : List D} {v : List V} (h : Reps C H S d v) : Reps C H S' d v := Reps.carry ⟨ok, fun _ _ e _ => e, fun a s => .inl (sub a s)⟩ d v h
theorem RepO.anti (ok : SOk H S) (sub : ∀ a, S' a → S a) {d : D} {a : Addr} (h : RepO C H S d a) : RepO C H S' d a := RepO.carry ⟨ok, fun _ _ e _ => e, fun a s => .inl (sub a s)⟩ (fun _ e => e) h
theorem Reps.length : ∀ {ds : List D} {vs : List V}, Reps C H S ds vs → ds.length = vs.length
  | [], vs, h => by rw [Reps] at h; subst h; rfl
  | d :: ds, vs, h => by
    rw [Reps] at h
    obtain ⟨v, r, e, _, h2⟩ := h
    subst e
    rw [List.length_cons, List.length_cons, Reps.length h2]
theorem Reps.get : ∀ {ds : List D} {vs : List V} {i : Nat} {d : D}, Reps C H S ds vs → ds[i]? = some d → ∃ v, vs[i]? = some v ∧ Rep C H S d v
  | [], vs, i, d, _, e => by simp at e
  | d :: ds, vs, 0, d', h, e => by
    rw [Reps] at h
    obtain ⟨v, r, rfl, h1, _⟩ := h
    simp at e; subst e
    exact ⟨v, rfl, h1⟩
  | d :: ds, vs, i + 1, d', h, e => by
    rw [Reps] at h
    obtain ⟨v, r, rfl, _, h2⟩ := h
    obtain ⟨u, e1, e2⟩ := Reps.get (i := i) h2 (by simpa using e)
    exact ⟨u, by simpa using e1, e2⟩
theorem Reps.getV : ∀ {ds : List D} {vs : List V} {i : Nat} {v : V}, Reps C H S ds vs → vs[i]? = some v → ∃ d, ds[i]? = some d ∧ Rep C H S d v
  | [], vs, i, v, h, e => by rw [Reps] at h; subst h; simp at e
  | d :: ds, vs, 0, v', h, e => by
    rw [Reps] at h
    obtain ⟨v, r, rfl, h1, _⟩ := h
    simp at e; subst e
    exact ⟨d, rfl, h1⟩
  | d :: ds, vs, i + 1, v', h, e => by
    rw [Reps] at h
    obtain ⟨v, r, rfl, _, h2⟩ := h
    obtain ⟨u, e1, e2⟩ := Reps.getV (i := i) h2 (by simpa using e)
    exact ⟨u, by simpa using e1, e2⟩
theorem Reps.nil : Reps C H S [] [] := by rw [Reps]
theorem Reps.cons {d : D} {v : V} {ds : List D} {vs : List V} (h : Rep C H S d v) (t : Reps C H S ds vs) : Reps C H S (d :: ds) (v :: vs) := by
  rw [Reps]; exact ⟨v, vs, rfl, h, t⟩
theorem Reps.append : ∀ {ds es : List D} {vs us : List V}, Reps C H S ds vs → Reps C H S es us → Reps C H S (ds ++ es) (vs ++ us)
  | [], es, vs, us, h, t => by rw [Reps] at h; subst h; exact t
  | d :: ds, es, vs, us, h, t => by
    rw [Reps] at h
    obtain ⟨v, r, rfl, h1, h2⟩ := h
    exact Reps.cons h1 (Reps.append h2 t)
theorem Reps.take : ∀ {ds : List D} {vs : List V} (n : Nat), Reps C H S ds vs → Reps C H S (ds.take n) (vs.take n)
  | ds, vs, 0, h => by simp only [List.take_zero]; exact Reps.nil
  | [], vs, n + 1, h => by rw [Reps] at h; subst h; exact Reps.nil
  | d :: ds, vs, n + 1, h => by
    rw [Reps] at h
    obtain ⟨v, r, rfl, h1, h2⟩ := h
    exact Reps.cons h1 (Reps.take n h2)
theorem Reps.drop : ∀ {ds : List D} {vs : List V} (n : Nat), Reps C H S ds vs → Reps C H S (ds.drop n) (vs.drop n)
  | ds, vs, 0, h => h
  | [], vs, n + 1, h => by rw [Reps] at h; subst h; exact Reps.nil
  | d :: ds, vs, n + 1, h => by
    rw [Reps] at h
    obtain ⟨v, r, rfl, h1, h2⟩ := h
    exact Reps.drop n h2
theorem Reps.reverse {ds : List D} {vs : List V} (h : Reps C H S ds vs) : Reps C H S ds.reverse vs.reverse := by
  induction ds generalizing vs with
  | nil => rw [Reps] at h; subst h; exact Reps.nil
  | cons d ds ih =>
    rw [Reps] at h
    obtain ⟨v, r, rfl, h1, h2⟩ := h
    rw [List.reverse_cons, List.reverse_cons]
    exact (ih h2).append (Reps.cons h1 Reps.nil)
theorem Reps.set : ∀ {ds : List D} {vs : List V} {d : D} {v : V} (n : Nat), Reps C H S ds vs → Rep C H S d v → Reps C H S (ds.set n d) (vs.set n v)
  | [], vs, d, v, n, h, t => by rw [Reps] at h; subst h; exact Reps.nil
  | e :: ds, vs, d, v, 0, h, t => by
    rw [Reps] at h
    obtain ⟨u, r, rfl, h1, h2⟩ := h
    exact Reps.cons t h2
  | e :: ds, vs, d, v, n + 1, h, t => by
    rw [Reps] at h
    obtain ⟨u, r, rfl, h1, h2⟩ := h
    exact Reps.cons h1 (Reps.set n h2 t)
theorem Reps.eraseIdx : ∀ {ds : List D} {vs : List V} (n : Nat), Reps C H S ds vs → Reps C H S (ds.eraseIdx n) (vs.eraseIdx n)
  | [], vs, n, h => by rw [Reps] at h; subst h; exact Reps.nil
  | e :: ds, vs, 0, h => by
    rw [Reps] at h
    obtain ⟨u, r, rfl, h1, h2⟩ := h
    exact h2
  | e :: ds, vs, n + 1, h => by
    rw [Reps] at h
    obtain ⟨u, r, rfl, h1, h2⟩ := h
    exact Reps.cons h1 (Reps.eraseIdx n h2)
theorem Reps.rep {ds : List D} {vs : List V} (h : Reps C H S ds vs) : ∀ k : Nat, Reps C H S (List.replicate k ds).flatten (List.replicate k vs).flatten
  | 0 => Reps.nil
  | k + 1 => by
    rw [List.replicate_succ, List.replicate_succ, List.flatten_cons, List.flatten_cons]
    exact h.append (Reps.rep h k)
end
/-! ### the state of a body -/
/-- what a name holds: nothing; data that nobody changes; a list or dict of this name's own; one that was handed in to be changed -/
inductive SV where
  | un
  | val (d : D)
  | own (d : D)
  | io (d : D)
  deriving DecidableEq
abbrev SS := List SV
def SV.isOwn : SV → Bool
  | .own _ => true
  | .io _ => true
  | _ => false
/-- fixed through a body: the heap at its entry, the slots and objects handed in to be changed -/
structure Gh extends Cfg where
  H0 : Hp
  io : List (Nat × Addr)

def OwnAt (A : SS) (σ : St) (i : Nat) (a : Addr) : Prop := (∃ s, A[i]? = some s ∧ s.isOwn = true) ∧ σ[i]? = some (some (.ref a))
def Busy (Fb : Addr → Prop) (A : SS) (σ : St) (a : Addr) : Prop := Fb a ∨ ∃ i, OwnAt A σ i a

structure RelSt (G : Gh) (Fb : Addr → Prop) (A : SS) (σ : St) (H : Hp) : Prop where
  len : A.length = σ.length
  fb : SOk H Fb
  val : ∀ (i : Nat) (d : D), A[i]? = some (.val d) → ∃ v, σ[i]? = some (some v) ∧ Rep G.toCfg H (Busy Fb A σ) d v
  own : ∀ (i : Nat) (d : D), A[i]? = some (.own d) → ∃ a, σ[i]? = some (some (.ref a)) ∧ RepO G.toCfg H (Busy Fb A σ) d a ∧ ¬ Fb a ∧ G.H0 a = none
  ioo : ∀ (i : Nat) (d : D), A[i]? = some (.io d) → ∃ a, σ[i]? = some (some (.ref a)) ∧ RepO G.toCfg H (Busy Fb A σ) d a ∧ ¬ Fb a ∧ (i, a) ∈ G.io
  inj : ∀ (i j : Nat) (a : Addr), OwnAt A σ i a → OwnAt A σ j a → i = j
  ent : ∀ a o, G.H0 a = some o → (∀ i : Nat, (i, a) ∉ G.io) → H a = some o
  ios : ∀ (i : Nat) (a : Addr), (i, a) ∈ G.io → (∃ d, A[i]? = some (.io d)) ∧ σ[i]? = some (some (.ref a)) ∧ G.H0 a ≠ none

section
variable {G : Gh} {Fb Fb' : Addr → Prop} {A A' : SS} {σ σ' : St} {H H' : Hp}
theorem RelSt.ownO (r : RelSt G Fb A σ H) {i : Nat} {a : Addr} (h : OwnAt A σ i a) : ∃ d, (A[i]? = some (.own d) ∨ A[i]? = some (.io d)) ∧ RepO G.toCfg H (Busy Fb A σ) d a ∧ ¬ Fb a := by
  obtain ⟨⟨s, e, z⟩, e2⟩ := h
  cases s with
  | own d =>
    obtain ⟨b, e3, q, n, _⟩ := r.own i d e
    rw [e2] at e3; cases e3
    exact ⟨d, .inl e, q, n⟩
  | io d =>
    obtain ⟨b, e3, q, n, _⟩ := r.ioo i d e
    rw [e2] at e3; cases e3
    exact ⟨d, .inr e, q, n⟩
  | un => cases z
  | val d => cases z
theorem RelSt.busy (r : RelSt G Fb A σ H) : SOk H (Busy Fb A σ) := fun a s => by
  rcases s with s | ⟨i, s⟩
  · exact r.fb a s
  · obtain ⟨d, _, q, _⟩ := r.ownO s
    exact q.mut
/-- fewer are forbidden -/
theorem RelSt.anti (r : RelSt G Fb A σ H) (sub : ∀ a, Fb' a → Fb a) : RelSt G Fb' A σ H := by
  have sb : ∀ a, Busy Fb' A σ a → Busy Fb A σ a := fun a s => s.imp (sub a) id
  refine ⟨r.len, fun a s => r.fb a (sub a s), fun i d e => ?_, fun i d e => ?_, fun i d e => ?_, r.inj, r.ent, r.ios⟩
  · obtain ⟨v, e1, q⟩ := r.val i d e
    exact ⟨v, e1, q.anti r.busy sb⟩
  · obtain ⟨v, e1, q, n, z⟩ := r.own i d e
    exact ⟨v, e1, q.anti r.busy sb, fun s => n (sub _ s), z⟩
  · obtain ⟨v, e1, q, n, z⟩ := r.ioo i d e
    exact ⟨v, e1, q.anti r.busy sb, fun s => n (sub _ s), z⟩
/-- the heap grows, what is not written stays -/
theorem RelSt.grow (r : RelSt G Fb A σ H) (k : ∀ a o, H a = some o → H' a = some o) (fb : SOk H' Fb') (sub : ∀ a, Fb a → Fb' a) (new : ∀ a, Fb' a → Fb a ∨ H a = none) : RelSt G Fb' A σ H' := by
  have nw : ∀ a, Busy Fb' A σ a → Busy Fb A σ a ∨ H a = none := fun a s => by
    rcases s with s | s
    · rcases new a s with z | z
      · exact .inl (.inl z)
      · exact .inr z
    · exact .inl (.inr s)
  have c : Carry H H' (Busy Fb A σ) (Busy Fb' A σ) := ⟨r.busy, fun a o e _ => k a o e, nw⟩
  have nf : ∀ {a : Addr} {d : D}, RepO G.toCfg H (Busy Fb A σ) d a → ¬ Fb a → ¬ Fb' a := fun {a d} q n s => by
    rcases new a s with z | z
    · exact n z
    · obtain ⟨o, e, _⟩ := q.mut
      rw [e] at z; cases z
  refine ⟨r.len, fb, fun i d e => ?_, fun i d e => ?_, fun i d e => ?_, r.inj, fun a o e n => k a o (r.ent a o e n), r.ios⟩
  · obtain ⟨v, e1, q⟩ := r.val i d e
    exact ⟨v, e1, q.carry c⟩
  · obtain ⟨v, e1, q, n, z⟩ := r.own i d e
    exact ⟨v, e1, q.carry c (k v), nf q n, z⟩
  · obtain ⟨v, e1, q, n, z⟩ := r.ioo i d e
    exact ⟨v, e1, q.carry c (k v), nf q n, z⟩
/-- a new object that is not forbidden -/
theorem RelSt.laid (r : RelSt G Fb A σ H) {p : Addr} (o : HO) (n : H p = none) : RelSt G Fb A σ (upd H p o) :=
  r.grow (fun a u e => by rw [upd_ne (ne_of_none e n)]; exact e) (fun a s => by
    obtain ⟨u, e, m⟩ := r.fb a s
    exact ⟨u, by rw [upd_ne (ne_of_none e n)]; exact e, m⟩) (fun _ s => s) fun _ s => .inl s
/-- a new object that is forbidden from now on -/
def Also (Fb : Addr → Prop) (p a : Addr) : Prop := Fb a ∨ a = p
theorem RelSt.laidF (r : RelSt G Fb A σ H) {p : Addr} (o : HO) (n : H p = none) (m : MutO o) : RelSt G (Also Fb p) A σ (upd H p o) :=
  r.grow (fun a u e => by rw [upd_ne (ne_of_none e n)]; exact e) (fun a s => by
    rcases s with s | s
    · obtain ⟨u, e, m⟩ := r.fb a s
      exact ⟨u, by rw [upd_ne (ne_of_none e n)]; exact e, m⟩
    · subst s
      exact ⟨o, upd_same, m⟩) (fun _ s => .inl s) fun a s => by
    rcases s with s | s
    · exact .inl s
    · subst s; exact .inr n
theorem RelSt.entNone (r : RelSt G Fb A σ H) {p : Addr} (n : H p = none) : G.H0 p = none := by
  cases e : G.H0 p with
  | none => rfl
  | some o =>
    by_cases hi : ∃ i, (i, p) ∈ G.io
    · obtain ⟨i, hi⟩ := hi
      obtain ⟨⟨d, e1⟩, e2, _⟩ := r.ios i p hi
      obtain ⟨b, e3, q, _⟩ := r.ioo i d e1
      rw [e2] at e3; cases e3
      obtain ⟨u, e4, _⟩ := q.mut
      rw [e4] at n; cases n
    · have := r.ent p o e fun i z => hi ⟨i, z⟩
      rw [this] at n; cases n
end
end Z
/-! Z2: handles, what an expression evaluates to, argument lists. -/
namespace Z
open PySem PySem.Spec L2
open PyProof.Rows hiding St

/-- what an expression gives: a name's own thing, data, a list or dict that nobody else holds -/
inductive R where
  | sl (i : Nat)
  | d (x : D)
  | fr (x : D)

def Ext (H H' : Hp) : Prop := ∀ a o, H a = some o → H' a = some o
theorem Ext.refl (H : Hp) : Ext H H := fun _ _ e => e
theorem Ext.new {H : Hp} {p : Addr} {o : HO} (n : H p = none) : Ext H (upd H p o) := fun a u e => by rw [upd_ne (ne_of_none e n)]; exact e
theorem Ext.trans {H H1 H2 : Hp} (a : Ext H H1) (b : Ext H1 H2) : Ext H H2 := fun x o e => b x o (a x o e)

/-- v is the data d just now; what is within is avoided as S says -/
def PRep (C : Cfg) (H : Hp) (S : Addr → Prop) : D → V → Prop
  | .lst xs, v => ∃ a vs, v = .ref a ∧ HL H a vs ∧ Reps C H S xs vs
  | .dct ks ws, v => ∃ a, v = .ref a ∧ ks.Nodup ∧ ((∃ kvs : List (Key × V), HD H a (.dK kvs) ∧ ks = kvs.map (fun p => keyD p.1) ∧ Reps C H S ws (kvs.map (·.2))) ∨
      (∃ xs : List (NestedKey × Addr × V), HD H a (rawO C.P C.w a xs) ∧ Reps C H S ks (xs.map fun x => .ref x.2.1) ∧ ks.map nkey = xs.map (fun x => some x.1) ∧ Reps C H S ws (xs.map (·.2.2))))
  | d, v => Rep C H S d v
section
variable {C : Cfg} {H H' : Hp} {S S' : Addr → Prop}
theorem PRep.of {d : D} {v : V} (h : Rep C H S d v) : PRep C H S d v := by
  cases d with
  | lst xs =>
    rw [Rep] at h
    obtain ⟨a, vs, e, _, q, r⟩ := h
    exact ⟨a, vs, e, q, r⟩
  | dct ks ws =>
    rw [Rep] at h
    obtain ⟨a, e, _, nd, q⟩ := h
    exact ⟨a, e, nd, q⟩
  | _ => exact h
theorem PRep.ofO {d : D} {a : Addr} (h : RepO C H S d a) : PRep C H S d (.ref a) := by
  cases d with
  | lst xs =>
    obtain ⟨vs, e, r⟩ := h
    exact ⟨a, vs, rfl, e, r⟩
  | dct ks ws =>
    obtain ⟨nd, ⟨kvs, q, z⟩ | ⟨xs, q, z⟩⟩ := h
    · exact ⟨a, rfl, nd, .inl ⟨kvs, .inl q, z⟩⟩
    · exact ⟨a, rfl, nd, .inr ⟨xs, .inl q, z⟩⟩
  | _ => exact False.elim h
end

def peek (A : SS) : R → Option D
  | .sl i => match A[i]? with
    | some (.val d) => some d
    | some (.own d) => some d
    | some (.io d) => some d
    | _ => none
  | .d x => some x
  | .fr x => some x
/-- the handle is kept by another one from now on -/
def mv (A : SS) : R → Option (D × SS)
  | .sl i => match A[i]? with
    | some (.val d) => some (d, A)
    | some (.own d) => some (d, A.set i (.val d))
    | _ => none
  | .d x => some (x, A)
  | .fr x => some (x, A)

def HV (G : Gh) (Fb : Addr → Prop) (A : SS) (σ : St) (H : Hp) : R → V → Prop
  | .sl i, v => (∃ s, A[i]? = some s ∧ s ≠ .un) ∧ σ[i]? = some (some v)
  | .d x, v => Rep G.toCfg H (Busy Fb A σ) x v
  | .fr x, v => ∃ a, v = .ref a ∧ Fb a ∧ RepO G.toCfg H (Busy Fb A σ) x a
/-- new to what was forbidden -/
def FrOk (G : Gh) (Fb : Addr → Prop) : R → V → Prop
  | .fr _, v => ∀ a, v = .ref a → ¬ Fb a ∧ G.H0 a = none
  | _, _ => True

def SStep : Option SV → Option SV → Prop
  | none, none => True
  | some .un, some .un => True
  | some (.val d), some (.val e) => d = e
  | some (.own _), some (.own _) => True
  | some (.own _), some (.val _) => True
  | some (.io _), some (.io _) => True
  | _, _ => False
theorem SStep.refl : ∀ s, SStep s s
  | none => trivial
  | some .un => trivial
  | some (.val _) => rfl
  | some (.own _) => trivial
  | some (.io _) => trivial
theorem SStep.trans : ∀ {a b c : Option SV}, SStep a b → SStep b c → SStep a c
  | none, none, none, _, _ => trivial
  | none, some _, _, h, _ => h.elim
  | none, none, some _, _, h => h.elim
  | some .un, some .un, some .un, _, _ => trivial
  | some (.val _), some (.val _), some (.val _), h, k => Eq.trans h k
  | some (.own _), some (.own _), some (.own _), _, _ => trivial
  | some (.own _), some (.own _), some (.val _), _, _ => trivial
  | some (.own _), some (.val _), some (.val _), _, _ => trivial
  | some (.io _), some (.io _), some (.io _), _, _ => trivial
  | some .un, none, _, h, _ => h.elim
  | some .un, some (.val _), _, h, _ => h.elim
  | some .un, some (.own _), _, h, _ => h.elim
  | some .un, some (.io _), _, h, _ => h.elim
  | some .un, some .un, none, _, h => h.elim
  | some .un, some .un, some (.val _), _, h => h.elim
  | some .un, some .un, some (.own _), _, h => h.elim
  | some .un, some .un, some (.io _), _, h => h.elim
  | some (.val _), none, _, h, _ => h.elim
  | some (.val _), some .un, _, h, _ => h.elim
  | some (.val _), some (.own _), _, h, _ => h.elim
  | some (.val _), some (.io _), _, h, _ => h.elim
  | some (.val _), some (.val _), none, _, h => h.elim
  | some (.val _), some (.val _), some .un, _, h => h.elim
  | some (.val _), some (.val _), some (.own _), _, h => h.elim
  | some (.val _), some (.val _), some (.io _), _, h => h.elim
  | some (.own _), none, _, h, _ => h.elim
  | some (.own _), some .un, _, h, _ => h.elim
  | some (.own _), some (.io _), _, h, _ => h.elim
  | some (.own _), some (.own _), none, _, h => h.elim
  | some (.own _), some (.own _), some .un, _, h => h.elim
  | some (.own _), some (.own _), some (.io _), _, h => h.elim
  | some (.own _), some (.val _), none, _, h => h.elim
  | some (.own _), some (.val _), some .un, _, h => h.elim
  | some (.own _), some (.val _), some (.own _), _, h => h.elim
  | some (.own _), some (.val _), some (.io _), _, h => h.elim
  | some (.io _), none, _, h, _ => h.elim
  | some (.io _), some .un, _, h, _ => h.elim
  | some (.io _), some (.val _), _, h, _ => h.elim
  | some (.io _), some (.own _), _, h, _ => h.elim
  | some (.io _), some (.io _), none, _, h => h.elim
  | some (.io _), some (.io _), some .un, _, h => h.elim
  | some (.io _), some (.io _), some (.val _), _, h => h.elim
  | some (.io _), some (.io _), some (.own _), _, h => h.elim
theorem SStep.own {a b : Option SV} {s : SV} (h : SStep a b) (e : b = some s) (z : s.isOwn = true) : ∃ t, a = some t ∧ t.isOwn = true := by
  subst e
  cases a with
  | none => exact h.elim
  | some a => cases a <;> cases s <;> first | exact h.elim | exact ⟨_, rfl, rfl⟩ | cases z
theorem SStep.def {a b : Option SV} {s : SV} (h : SStep a b) (e : a = some s) (z : s ≠ .un) : ∃ t, b = some t ∧ t ≠ .un := by
  subst e
  cases b with
  | none => cases s <;> exact h.elim
  | some b => cases s <;> cases b <;> first | exact h.elim | exact absurd rfl z | exact ⟨_, rfl, fun e => nomatch e⟩

structure Step (A A' : SS) (σ : St) (H H' : Hp) : Prop where
  keep : ∀ a o, H a = some o → (∀ i, ¬ OwnAt A σ i a) → H' a = some o
  mono : ∀ i : Nat, SStep A[i]? A'[i]?
  dom : ∀ a, H a ≠ none → H' a ≠ none
theorem Step.refl (A : SS) (σ : St) (H : Hp) : Step A A σ H H := ⟨fun _ _ e _ => e, fun i => SStep.refl _, fun _ e => e⟩
theorem Step.own {A A' : SS} {σ : St} {H H' : Hp} (s : Step A A' σ H H') {i : Nat} {a : Addr} (o : OwnAt A' σ i a) : OwnAt A σ i a := by
  obtain ⟨⟨t, e, z⟩, e2⟩ := o
  obtain ⟨u, e3, z3⟩ := (s.mono i).own e z
  exact ⟨⟨u, e3, z3⟩, e2⟩
theorem Step.trans {A A1 A2 : SS} {σ : St} {H H1 H2 : Hp} (s : Step A A1 σ H H1) (t : Step A1 A2 σ H1 H2) : Step A A2 σ H H2 :=
  ⟨fun a o e n => t.keep a o (s.keep a o e n) fun i q => n i (s.own q), fun i => (s.mono i).trans (t.mono i), fun a e => t.dom a (s.dom a e)⟩
theorem Ext.dom {H H' : Hp} (e : Ext H H') (a : Addr) (h : H a ≠ none) : H' a ≠ none := by
  cases q : H a with
  | none => exact absurd q h
  | some o => rw [e a o q]; exact fun z => nomatch z
theorem Step.ext {A : SS} {σ : St} {H H' : Hp} (e : Ext H H') : Step A A σ H H' := ⟨fun a o h _ => e a o h, fun i => SStep.refl _, e.dom⟩
theorem Step.len {A A' : SS} {σ : St} {H H' : Hp} (s : Step A A' σ H H') : A.length = A'.length := by
  have h1 : ∀ i, A.length ≤ i ↔ A'.length ≤ i := fun i => by
    have m := s.mono i
    constructor
    · intro h
      rw [List.getElem?_eq_none h] at m
      cases q : A'[i]? with
      | none => exact List.getElem?_eq_none_iff.mp q
      | some x => rw [q] at m; exact m.elim
    · intro h
      rw [List.getElem?_eq_none h] at m
      cases q : A[i]? with
      | none => exact List.getElem?_eq_none_iff.mp q
      | some x => rw [q] at m; cases x <;> exact m.elim
  have a := (h1 A.length).mp (Nat.le_refl _)
  have b := (h1 A'.length).mpr (Nat.le_refl _)
  omega

/-- behind an expression: what is forbidden has grown by new things alone -/
structure Post (G : Gh) (Fb Fb' : Addr → Prop) (A A' : SS) (σ : St) (H H' : Hp) : Prop where
  sub : ∀ a, Fb a → Fb' a
  new : ∀ a, Fb' a → Fb a ∨ H a = none
  rel : RelSt G Fb' A' σ H'
  step : Step A A' σ H H'
section
variable {G : Gh} {Fb Fb' Fb1 Fb2 : Addr → Prop} {A A' A1 A2 : SS} {σ : St} {H H' H1 H2 : Hp} {r : R} {v : V}
theorem Post.refl (rel : RelSt G Fb A σ H) : Post G Fb Fb A A σ H H := ⟨fun _ s => s, fun _ s => .inl s, rel, .refl A σ H⟩
theorem Post.carry (rel : RelSt G Fb A σ H) (p : Post G Fb Fb' A A' σ H H') : Carry H H' (Busy Fb A σ) (Busy Fb' A' σ) :=
  ⟨rel.busy, fun a o e n => p.step.keep a o e fun i q => n (.inr ⟨i, q⟩), fun a s => by
    rcases s with s | ⟨i, s⟩
    · exact (p.new a s).imp .inl id
    · exact .inl (.inr ⟨i, p.step.own s⟩)⟩
theorem Post.trans (p : Post G Fb Fb1 A A1 σ H H1) (q : Post G Fb1 Fb2 A1 A2 σ H1 H2) : Post G Fb Fb2 A A2 σ H H2 where
  sub := fun a s => q.sub a (p.sub a s)
  new := fun a s => by
    rcases q.new a s with z | z
    · exact p.new a z
    · cases e : H a with
      | none => exact .inr rfl
      | some o => exact absurd z (p.step.dom a (by rw [e]; exact fun y => nomatch y))
  rel := q.rel
  step := p.step.trans q.step
/-- only new things -/
theorem Post.ext (rel : RelSt G Fb A σ H) (e : Ext H H') : Post G Fb Fb A A σ H H' :=
  ⟨fun _ s => s, fun _ s => .inl s, rel.grow e (fun a s => let ⟨o, h, m⟩ := rel.fb a s; ⟨o, e a o h, m⟩) (fun _ s => s) (fun _ s => .inl s), .ext e⟩
theorem Post.extF (rel : RelSt G Fb A σ H) (e : Ext H H') {p : Addr} (n : H p = none) {o : HO} (h : H' p = some o) (m : MutO o) : Post G Fb (Also Fb p) A A σ H H' :=
  ⟨fun _ s => .inl s, fun a s => s.imp id fun z => by rw [z]; exact n, rel.grow e (fun a s => by
    rcases s with s | s
    · obtain ⟨o, h, m⟩ := rel.fb a s
      exact ⟨o, e a o h, m⟩
    · rw [s]; exact ⟨o, h, m⟩) (fun _ s => .inl s) (fun a s => s.imp id fun z => by rw [z]; exact n), .ext e⟩

/-! ### handles -/
theorem HV.carry (rel : RelSt G Fb A σ H) (p : Post G Fb Fb' A A' σ H H') (h : HV G Fb A σ H r v) : HV G Fb' A' σ H' r v := by
  have c := p.carry rel
  cases r with
  | sl i =>
    obtain ⟨⟨s, e, z⟩, e2⟩ := h
    obtain ⟨t, e3, z3⟩ := (p.step.mono i).def e z
    exact ⟨⟨t, e3, z3⟩, e2⟩
  | d x => exact Rep.carry c x v h
  | fr x =>
    obtain ⟨a, e, f, q⟩ := h
    refine ⟨a, e, p.sub a f, q.carry c fun o eo => p.step.keep a o eo fun i ow => ?_⟩
    obtain ⟨d, _, _, n⟩ := rel.ownO ow
    exact n f
theorem HV.peek (rel : RelSt G Fb A σ H) (h : HV G Fb A σ H r v) {x : D} (e : peek A r = some x) : PRep G.toCfg H (Busy Fb A σ) x v := by
  cases r with
  | sl i =>
    obtain ⟨⟨s, e1, z⟩, e2⟩ := h
    simp only [Z.peek, e1] at e
    cases s with
    | un => exact absurd rfl z
    | val d =>
      cases e
      obtain ⟨w, e3, q⟩ := rel.val i _ e1
      rw [e2] at e3; cases e3
      exact .of q
    | own d =>
      cases e
      obtain ⟨w, e3, q, _⟩ := rel.own i _ e1
      rw [e2] at e3; cases e3
      exact .ofO q
    | io d =>
      cases e
      obtain ⟨w, e3, q, _⟩ := rel.ioo i _ e1
      rw [e2] at e3; cases e3
      exact .ofO q
  | d y => cases e; exact .of h
  | fr y => cases e; obtain ⟨a, rfl, _, q⟩ := h; exact .ofO q
/-- a name's list or dict is nobody's own any more -/
theorem RelSt.freeze (rel : RelSt G Fb A σ H) {i : Nat} {d : D} (e : A[i]? = some (.own d)) : RelSt G Fb (A.set i (.val d)) σ H ∧ ∃ a, σ[i]? = some (some (.ref a)) ∧ ¬ Busy Fb (A.set i (.val d)) σ a ∧ Rep G.toCfg H (Busy Fb (A.set i (.val d)) σ) d (.ref a) := by
  have hi : i < A.length := by
    obtain ⟨h, _⟩ := List.getElem?_eq_some_iff.mp e
    exact h
  have get : ∀ j : Nat, (A.set i (.val d))[j]? = if j = i then some (.val d) else A[j]? := fun j => by
    by_cases z : j = i
    · subst z; rw [if_pos rfl, List.getElem?_set_self hi]
    · rw [if_neg z, List.getElem?_set_ne (Ne.symm z)]
  have ow : ∀ j a, OwnAt (A.set i (.val d)) σ j a → OwnAt A σ j a ∧ j ≠ i := fun j a ⟨⟨s, es, z⟩, e2⟩ => by
    rw [get] at es
    by_cases q : j = i
    · rw [if_pos q] at es; cases es; cases z
    · rw [if_neg q] at es; exact ⟨⟨⟨s, es, z⟩, e2⟩, q⟩
  have sub : ∀ a, Busy Fb (A.set i (.val d)) σ a → Busy Fb A σ a := fun a s => s.imp id fun ⟨j, q⟩ => ⟨j, (ow j a q).1⟩
  obtain ⟨a, ea, ra, na, za⟩ := rel.own i d e
  have oi : OwnAt A σ i a := ⟨⟨_, e, rfl⟩, ea⟩
  have nb : ¬ Busy Fb (A.set i (.val d)) σ a := fun s => by
    rcases s with s | ⟨j, s⟩
    · exact na s
    · obtain ⟨s, q⟩ := ow j a s
      exact q (rel.inj j i a s oi)
  have rv : Rep G.toCfg H (Busy Fb (A.set i (.val d)) σ) d (.ref a) := .ofO (ra.anti rel.busy sub) nb
  refine ⟨⟨by rw [List.length_set]; exact rel.len, rel.fb, fun j x q => ?_, fun j x q => ?_, fun j x q => ?_, fun j k b o1 o2 => rel.inj j k b (ow j b o1).1 (ow k b o2).1, rel.ent, fun j b q => ?_⟩, a, ea, nb, rv⟩
  · rw [get] at q
    by_cases z : j = i
    · subst z; rw [if_pos rfl] at q; cases q; exact ⟨_, ea, rv⟩
    · rw [if_neg z] at q
      obtain ⟨v, e1, r1⟩ := rel.val j x q
      exact ⟨v, e1, r1.anti rel.busy sub⟩
  · rw [get] at q
    by_cases z : j = i
    · rw [if_pos z] at q; cases q
    · rw [if_neg z] at q
      obtain ⟨v, e1, r1, r2⟩ := rel.own j x q
      exact ⟨v, e1, r1.anti rel.busy sub, r2⟩
  · rw [get] at q
    by_cases z : j = i
    · rw [if_pos z] at q; cases q
    · rw [if_neg z] at q
      obtain ⟨v, e1, r1, r2⟩ := rel.ioo j x q
      exact ⟨v, e1, r1.anti rel.busy sub, r2⟩
  · obtain ⟨⟨x, e1⟩, e2⟩ := rel.ios j b q
    refine ⟨⟨x, ?_⟩, e2⟩
    rw [get]
    by_cases z : j = i
    · subst z; rw [e] at e1; cases e1
    · rw [if_neg z]; exact e1
theorem Step.freeze {i : Nat} {d : D} (e : A[i]? = some (.own d)) : Step A (A.set i (.val d)) σ H H := by
  refine ⟨fun _ _ h _ => h, fun j => ?_, fun _ h => h⟩
  have hi : i < A.length := (List.getElem?_eq_some_iff.mp e).1
  by_cases z : j = i
  · subst z; rw [e, List.getElem?_set_self hi]; trivial
  · rw [List.getElem?_set_ne (Ne.symm z)]; exact SStep.refl _
/-- a handle handed on: its data stand for ever. Fb: what was forbidden ahead of it -/
theorem HV.mv (rel : RelSt G Fb' A σ H) (sub : ∀ a, Fb a → Fb' a) (h : HV G Fb' A σ H r v) (f : FrOk G Fb r v) {x : D} (e : mv A r = some (x, A')) :
    RelSt G Fb' A' σ H ∧ Rep G.toCfg H (Busy Fb A' σ) x v ∧ Step A A' σ H H := by
  have sb : ∀ (A : SS) (a : Addr), Busy Fb A σ a → Busy Fb' A σ a := fun A a s => s.imp (sub a) id
  cases r with
  | sl i =>
    obtain ⟨⟨s, e1, z⟩, e2⟩ := h
    simp only [Z.mv, e1] at e
    cases s with
    | un => exact absurd rfl z
    | val d =>
      cases e
      obtain ⟨w, e3, q⟩ := rel.val i _ e1
      rw [e2] at e3; cases e3
      exact ⟨rel, q.anti rel.busy (sb _), .refl _ _ _⟩
    | own d =>
      cases e
      obtain ⟨r1, a, e3, _, q⟩ := rel.freeze e1
      rw [e2] at e3; cases e3
      exact ⟨r1, q.anti r1.busy (sb _), .freeze e1⟩
    | io d => cases e
  | d y => cases e; exact ⟨rel, Rep.anti rel.busy (sb _) h, .refl _ _ _⟩
  | fr y =>
    cases e
    obtain ⟨a, rfl, fa, q⟩ := h
    refine ⟨rel, .ofO (q.anti rel.busy (sb _)) fun s => ?_, .refl _ _ _⟩
    rcases s with s | ⟨i, s⟩
    · exact (f a rfl).1 s
    · obtain ⟨d, _, _, n⟩ := rel.ownO s
      exact n fa
end

/-! ### what an expression evaluates to -/
abbrev EV := SS → Option (R × SS)
def tS (C : Cfg) (ev : EV) : TE := fun σ H Q => ∃ G Fb A r A', G.toCfg = C ∧ RelSt G Fb A σ H ∧ ev A = some (r, A') ∧
  ∀ v H' Fb', Post G Fb Fb' A A' σ H H' → HV G Fb' A' σ H' r v → FrOk G Fb r v → Q v H'
abbrev SimE (X : Cx) (e : Expr) (ev : EV) : Prop := PE X e (tS ⟨X.prog, X.w, X.K⟩ ev)
theorem _root_.L2.PE.weak {X : Cx} {e : Expr} {t u : TE} (h : PE X e t) (w : ∀ σ H Q, u σ H Q → t σ H Q) : PE X e u := ⟨fun pins s σ H Q I q => h.run pins s σ H Q I (w σ H Q q)⟩
theorem _root_.L2.PT.weak {X : Cx} {e : Expr} {t u : TT} (h : PT X e t) (w : ∀ σ H Q, u σ H Q → t σ H Q) : PT X e u := ⟨fun pins s σ H Q I q => h.run pins s σ H Q I (w σ H Q q)⟩
theorem _root_.L2.PS.weak {X : Cx} {e : Stmt} {t u : TS} (h : PS X e t) (w : ∀ D σ H, u D σ H → t D σ H) : PS X e u := ⟨fun pins s σ H D I q => h.run pins s σ H D I (w D σ H q)⟩
theorem _root_.L2.PSs.weak {X : Cx} {e : List Stmt} {t u : TS} (h : PSs X e t) (w : ∀ D σ H, u D σ H → t D σ H) : PSs X e u := ⟨fun pins s σ H D I q => h.run pins s σ H D I (w D σ H q)⟩
theorem _root_.L2.PA.weak {X : Cx} {e : List Expr} {t u : TA} (h : PA X e t) (w : ∀ σ H Q, u σ H Q → t σ H Q) : PA X e u := ⟨fun pos pins s σ H Q I q => h.run pos pins s σ H Q I (w σ H Q q)⟩

def evVar (i : Nat) : EV := fun A => match A[i]? with
  | some .un => none
  | some _ => some (.sl i, A)
  | none => none
def evC (x : D) : EV := fun A => some (.d x, A)
section
variable {X : Cx} {e a b : Expr} {ev ea eb : EV}
theorem sim_var (i : Nat) {x : Str} {pos : Pos} (hN : X.N[i]? = some x := by rfl) (hv : Vis X.env.scope x := by first | exact Or.inl rfl | exact Or.inr (Or.inl rfl) | exact Or.inr (Or.inr rfl)) (hd : (x == ("__debug__" : Str)) = false := by decide)
    (hcd : (x == ("__classdict__" : Str)) = false := by decide) : SimE X (.Name x pos) (evVar i) := (pe_var hN hv hd hcd).weak fun σ H Q h => by
  obtain ⟨G, Fb, A, r, A', _, rel, he, q⟩ := h
  unfold evVar at he
  split at he
  · cases he
  · rename_i s hs hne
    cases he
    have : ∃ v, σ[i]? = some (some v) := by
      cases s with
      | un => exact absurd rfl hs
      | val d => obtain ⟨v, e, _⟩ := rel.val i d hne; exact ⟨v, e⟩
      | own d => obtain ⟨v, e, _⟩ := rel.own i d hne; exact ⟨_, e⟩
      | io d => obtain ⟨v, e, _⟩ := rel.ioo i d hne; exact ⟨_, e⟩
    obtain ⟨v, hv⟩ := this
    exact ⟨v, hv, q v H Fb (.refl rel) ⟨⟨s, hne, hs⟩, hv⟩ trivial⟩
  · cases he
theorem sim_c {v : V} {x : D} (h : PE X e (tC v)) (r : ∀ C H S, Rep C H S x v) : SimE X e (evC x) := h.weak fun σ H Q q => by
  obtain ⟨G, Fb, A, r', A', _, rel, he, q⟩ := q
  cases he
  exact q v H Fb (.refl rel) (r _ _ _) trivial
theorem sim_int {i : Int} {j pos} : SimE X (.Constant (.int i) j pos) (evC (.int i)) := sim_c pe_int fun _ _ _ => by rw [Rep]
theorem sim_bl {i : Bool} {j pos} : SimE X (.Constant (.bool i) j pos) (evC (.bl i)) := sim_c pe_bl fun _ _ _ => by rw [Rep]
theorem sim_non {j pos} : SimE X (.Constant .none j pos) (evC .non) := sim_c pe_non fun _ _ _ => by rw [Rep]
theorem sim_str {x : Str} {j pos} : SimE X (.Constant (.str x) j pos) (evC (.str x)) := sim_c pe_str fun _ _ _ => by rw [Rep]
end
end Z
/-! Z3: argument lists, displays, operators, tests. -/
namespace Z
open PySem PySem.Spec L2
open PyProof.Rows hiding St

/-! ### argument lists -/
def HVs (G : Gh) (Fb : Addr → Prop) (A : SS) (σ : St) (H : Hp) : List R → List V → Prop
  | [], vs => vs = []
  | r :: rs, vs => ∃ v us, vs = v :: us ∧ HV G Fb A σ H r v ∧ HVs G Fb A σ H rs us
def AlsoR (Fb : Addr → Prop) (r : R) (v : V) : Addr → Prop := fun a => Fb a ∨ ((∃ x, r = .fr x) ∧ v = .ref a)
def FrOks (G : Gh) : (Addr → Prop) → List R → List V → Prop
  | _, [], _ => True
  | Fb, r :: rs, vs => ∃ v us, vs = v :: us ∧ FrOk G Fb r v ∧ FrOks G (AlsoR Fb r v) rs us
theorem FrOk.anti {G : Gh} {Fb Fb' : Addr → Prop} {r : R} {v : V} (h : FrOk G Fb' r v) (sub : ∀ a, Fb a → Fb' a) : FrOk G Fb r v := by
  cases r with
  | fr x => exact fun a e => ⟨fun s => (h a e).1 (sub a s), (h a e).2⟩
  | _ => trivial
theorem FrOks.anti {G : Gh} : ∀ {rs : List R} {vs : List V} {Fb Fb' : Addr → Prop}, FrOks G Fb' rs vs → (∀ a, Fb a → Fb' a) → FrOks G Fb rs vs
  | [], _, _, _, _, _ => trivial
  | r :: rs, vs, Fb, Fb', h, sub => by
    obtain ⟨v, us, e, h1, h2⟩ := h
    exact ⟨v, us, e, h1.anti sub, h2.anti fun a s => s.imp (sub a) id⟩
abbrev EVs := SS → Option (List R × SS)
def tSA (C : Cfg) (ev : EVs) : TA := fun σ H Q => ∃ G Fb A rs A', G.toCfg = C ∧ RelSt G Fb A σ H ∧ ev A = some (rs, A') ∧
  ∀ vs H' Fb', Post G Fb Fb' A A' σ H H' → HVs G Fb' A' σ H' rs vs → FrOks G Fb rs vs → Q vs H'
abbrev SimA (X : Cx) (es : List Expr) (ev : EVs) : Prop := PA X es (tSA ⟨X.prog, X.w, X.K⟩ ev)
def evNil : EVs := fun A => some ([], A)
def evCons (e : EV) (es : EVs) : EVs := fun A => match e A with
  | some (r, A1) => match es A1 with
    | some (rs, A2) => some (r :: rs, A2)
    | none => none
  | none => none
theorem HV.frIn {G : Gh} {Fb Fb' : Addr → Prop} {A : SS} {σ : St} {H : Hp} {r : R} {v : V} (h : HV G Fb' A σ H r v) (sub : ∀ a, Fb a → Fb' a) : ∀ a, AlsoR Fb r v a → Fb' a := fun a s => by
  rcases s with s | ⟨⟨x, e⟩, s⟩
  · exact sub a s
  · subst e
    obtain ⟨b, eb, f, _⟩ := h
    rw [s] at eb; cases eb
    exact f
section
variable {X : Cx} {e a b : Expr} {es : List Expr} {ev ea eb : EV} {evs : EVs} {pos : Pos}
theorem simA_nil : SimA X [] evNil := pa_nil.weak fun σ H Q h => by
  obtain ⟨G, Fb, A, r, A', _, rel, he, q⟩ := h
  cases he
  exact q [] H Fb (.refl rel) rfl trivial
theorem simA_cons (h : SimE X e ev) (hs : SimA X es evs) (st : starEach (e :: es) X.env = (false, eval e X.env) :: starEach es X.env := by rfl) : SimA X (e :: es) (evCons ev evs) := (pa_cons h hs st).weak fun σ H Q h => by
  obtain ⟨G, Fb, A, r, A', hG, rel, he, q⟩ := h
  unfold evCons at he
  split at he
  · rename_i r1 A1 e1
    split at he
    · rename_i rs A2 e2
      cases he
      refine ⟨G, Fb, A, r1, A1, hG, rel, e1, fun v H1 Fb1 p1 h1 f1 => ⟨G, Fb1, A1, rs, _, hG, p1.rel, e2, fun vs H2 Fb2 p2 h2 f2 => ?_⟩⟩
      exact q _ _ _ (p1.trans p2) ⟨v, vs, rfl, h1.carry p1.rel p2, h2⟩ ⟨v, vs, rfl, f1, f2.anti (h1.frIn p1.sub)⟩
    · cases he
  · cases he
end
def mvs : SS → List R → Option (List D × SS)
  | A, [] => some ([], A)
  | A, r :: rs => match mv A r with
    | some (x, A1) => match mvs A1 rs with
      | some (xs, A2) => some (x :: xs, A2)
      | none => none
    | none => none
theorem Post.still {G : Gh} {Fb : Addr → Prop} {A A' : SS} {σ : St} {H : Hp} (rel : RelSt G Fb A' σ H) (s : Step A A' σ H H) : Post G Fb Fb A A' σ H H := ⟨fun _ s => s, fun _ s => .inl s, rel, s⟩
theorem HVs.mv {G : Gh} {Fb Fb' : Addr → Prop} {σ : St} {H : Hp} (sub : ∀ a, Fb a → Fb' a) : ∀ {rs : List R} {vs : List V} {A A' : SS} {xs : List D}, RelSt G Fb' A σ H → HVs G Fb' A σ H rs vs → FrOks G Fb rs vs → mvs A rs = some (xs, A') →
    RelSt G Fb' A' σ H ∧ Reps G.toCfg H (Busy Fb A' σ) xs vs ∧ Step A A' σ H H
  | [], vs, A, A', xs, rel, h, _, e => by
    rw [HVs] at h
    subst h
    cases e
    exact ⟨rel, .nil, .refl _ _ _⟩
  | r :: rs, vs, A, A', xs, rel, h, f, e => by
    obtain ⟨v, us, e1, h1, h2⟩ := h
    subst e1
    obtain ⟨v', us', e1, f1, f2⟩ := f
    cases e1
    simp only [mvs] at e
    split at e
    · rename_i x A1 e1
      split at e
      · rename_i xs' A2 e2
        cases e
        obtain ⟨r1, q1, s1⟩ := h1.mv rel sub f1 e1
        have c : ∀ {rs : List R} {us : List V}, HVs G Fb' A σ H rs us → HVs G Fb' A1 σ H rs us := fun {rs} => by
          induction rs with
          | nil => exact fun z => z
          | cons r rs ih => exact fun ⟨v, us, e, z1, z2⟩ => ⟨v, us, e, z1.carry rel (.still r1 s1), ih z2⟩
        obtain ⟨r2, q2, s2⟩ := HVs.mv sub r1 (c h2) (f2.anti fun a s => .inl s) e2
        refine ⟨r2, .cons (q1.anti (r1.anti sub).busy fun a s => s.imp id fun ⟨i, o⟩ => ⟨i, s2.own o⟩) q2, s1.trans s2⟩
      · cases e
    · cases e
theorem HVs.length {G : Gh} {Fb : Addr → Prop} {A : SS} {σ : St} {H : Hp} : ∀ {rs : List R} {vs : List V}, HVs G Fb A σ H rs vs → rs.length = vs.length
  | [], vs, h => by rw [HVs] at h; subst h; rfl
  | r :: rs, vs, h => by obtain ⟨v, us, e, _, h2⟩ := h; subst e; simp [h2.length]

/-! ### displays -/
def LIM : Nat := 16777216
theorem lim_line : LIM = sizeLine := by rw [sizeLine_eq] <;> rfl
def evTup (evs : EVs) : EV := fun A => match evs A with
  | some (rs, A1) => match mvs A1 rs with
    | some (xs, A2) => if xs.length ≤ LIM then some (.d (.tup xs), A2) else none
    | none => none
  | none => none
def evLst (evs : EVs) : EV := fun A => match evs A with
  | some (rs, A1) => match mvs A1 rs with
    | some (xs, A2) => if xs.length ≤ LIM then some (.fr (.lst xs), A2) else none
    | none => none
  | none => none
theorem Busy.mono {Fb Fb' : Addr → Prop} {A : SS} {σ : St} (sub : ∀ a, Fb a → Fb' a) : ∀ a, Busy Fb A σ a → Busy Fb' A σ a := fun a s => s.imp (sub a) id
/-- behind the items: what follows on new objects alone -/
theorem Post.then {G : Gh} {Fb Fb1 : Addr → Prop} {A A1 A2 : SS} {σ : St} {H H1 : Hp} (p : Post G Fb Fb1 A A1 σ H H1) (r : RelSt G Fb1 A2 σ H1) (s : Step A1 A2 σ H1 H1) : Post G Fb Fb A A2 σ H H1 :=
  ⟨fun _ z => z, fun _ z => .inl z, r.anti p.sub, p.step.trans s⟩
section
variable {X : Cx} {e a b : Expr} {es : List Expr} {ev ea eb : EV} {evs : EVs} {pos : Pos}
theorem sim_tup {k} (h : SimA X es evs) : SimE X (.Tuple es k pos) (evTup evs) := (pe_tup h).weak fun σ H Q h => by
  obtain ⟨G, Fb, A, r, A', hG, rel, he, q⟩ := h
  unfold evTup at he
  split at he
  · rename_i rs A1 e1
    split at he
    · rename_i xs A2 e2
      split at he
      · rename_i hz
        cases he
        refine ⟨G, Fb, A, rs, A1, hG, rel, e1, fun vs H1 Fb1 p1 h1 f1 => ?_⟩
        obtain ⟨r2, q2, s2⟩ := h1.mv p1.sub p1.rel f1 e2
        refine ⟨by rw [← q2.length, ← lim_line]; exact hz, fun p n => ?_⟩
        have p2 := p1.then r2 s2
        have pe := Post.ext (H' := upd H1 p (.tup vs)) p2.rel (Ext.new n)
        refine q _ _ Fb (p2.trans pe) ?_ trivial
        show Rep _ _ _ _ _
        rw [Rep]
        exact ⟨p, vs, rfl, .of upd_same, Reps.carry (pe.carry p2.rel) _ _ q2⟩
      · cases he
    · cases he
  · cases he
theorem sim_lst (h : SimA X es evs) : SimE X (.List es pos) (evLst evs) := (pe_lst h).weak fun σ H Q h => by
  obtain ⟨G, Fb, A, r, A', hG, rel, he, q⟩ := h
  unfold evLst at he
  split at he
  · rename_i rs A1 e1
    split at he
    · rename_i xs A2 e2
      split at he
      · rename_i hz
        cases he
        refine ⟨G, Fb, A, rs, A1, hG, rel, e1, fun vs H1 Fb1 p1 h1 f1 => ?_⟩
        obtain ⟨r2, q2, s2⟩ := h1.mv p1.sub p1.rel f1 e2
        refine ⟨by rw [← q2.length, ← lim_line]; exact hz, fun p n => ?_⟩
        have p2 := p1.then r2 s2
        have pe := Post.extF (H' := upd H1 p (.lst vs)) p2.rel (Ext.new n) n upd_same trivial
        refine q _ _ (Also Fb p) (p2.trans pe) ⟨p, rfl, .inr rfl, vs, upd_same, Reps.carry (pe.carry p2.rel) _ _ q2⟩ fun a ea => ?_
        cases ea
        refine ⟨fun s => ?_, p2.rel.entNone n⟩
        obtain ⟨o, e, _⟩ := p2.rel.fb p s
        rw [n] at e; cases e
      · cases he
    · cases he
  · cases he
end

/-! ### operators on data -/
/-- an answer: data, or a new list or dict -/
def ResK (C : Cfg) (H : Hp) (S : Addr → Prop) (r : R) (Q : VK) : Prop := match r with
  | .d z => ∀ v H', Ext H H' → Rep C H' S z v → Q v H'
  | .fr z => ∀ p H', Ext H H' → H p = none → RepO C H' (Also S p) z p → Q (.ref p) H'
  | .sl _ => False
def rG2 (C : Cfg) (g : D → D → Option R) : R2 := fun x y H Q => ∃ S dx dy r, SOk H S ∧ PRep C H S dx x ∧ PRep C H S dy y ∧ g dx dy = some r ∧ ResK C H S r Q
def rG1 (C : Cfg) (g : D → Option R) : V → Hp → VK → Prop := fun x H Q => ∃ S dx r, SOk H S ∧ PRep C H S dx x ∧ g dx = some r ∧ ResK C H S r Q
def ev2 (g : D → D → Option R) (ea eb : EV) : EV := fun A => match ea A with
  | some (r1, A1) => match eb A1 with
    | some (r2, A2) => match peek A2 r1, peek A2 r2 with
      | some x, some y => match g x y with
        | some (.d z) => some (.d z, A2)
        | some (.fr z) => some (.fr z, A2)
        | _ => none
      | _, _ => none
    | none => none
  | none => none
def ev1 (g : D → Option R) (ea : EV) : EV := fun A => match ea A with
  | some (r1, A1) => match peek A1 r1 with
      | some x => match g x with
        | some (.d z) => some (.d z, A1)
        | some (.fr z) => some (.fr z, A1)
        | _ => none
      | _ => none
  | none => none
/-- what follows an answer -/
theorem resK_of {G : Gh} {Fb Fb1 : Addr → Prop} {A A1 : SS} {σ : St} {H H1 : Hp} {r : R} {Q : VK} (p : Post G Fb Fb1 A A1 σ H H1) (hr : ∀ i, r ≠ .sl i)
    (q : ∀ v H' Fb', Post G Fb Fb' A A1 σ H H' → HV G Fb' A1 σ H' r v → FrOk G Fb r v → Q v H') : ResK G.toCfg H1 (Busy Fb1 A1 σ) r Q := by
  have p2 : Post G Fb Fb A A1 σ H H1 := p.then p.rel (.refl _ _ _)
  cases r with
  | sl i => exact absurd rfl (hr i)
  | d z =>
    intro v H' e rz
    have pe := Post.ext p.rel e
    exact q v H' Fb (p2.trans (Post.ext p2.rel e)) (Rep.anti pe.rel.busy (Busy.mono p.sub) rz) trivial
  | fr z =>
    intro a H' e n rz
    obtain ⟨o, eo, m⟩ := rz.mut
    have pe := Post.ext p.rel e
    have pf := Post.extF p2.rel e n eo m
    refine q _ H' (Also Fb a) (p2.trans pf) ⟨a, rfl, .inr rfl, ?_⟩ fun b eb => ?_
    · refine rz.anti (fun b s => ?_) fun b s => ?_
      · rcases s with s | s
        · exact pe.rel.busy b s
        · subst s; exact ⟨o, eo, m⟩
      · rcases s with (s | s) | s
        · exact .inl (.inl (p.sub b s))
        · exact .inr s
        · exact .inl (.inr s)
    · cases eb
      refine ⟨fun s => ?_, p2.rel.entNone n⟩
      obtain ⟨o, e, _⟩ := p2.rel.fb a s
      rw [n] at e; cases e
end Z
namespace Z
open PySem PySem.Spec L2
open PyProof.Rows hiding St
section
variable {X : Cx} {e a b c : Expr} {es : List Expr} {ev ea eb ec : EV} {evs : EVs} {pos : Pos} {g g' : D → D → Option R} {g1 : D → Option R}
abbrev cfg (X : Cx) : Cfg := ⟨X.prog, X.w, X.K⟩
theorem weak2 {σ : St} {H : Hp} {Q : VK} (h : tS (cfg X) (ev2 g ea eb) σ H Q) : tOp (rG2 (cfg X) g) (tS (cfg X) ea) (tS (cfg X) eb) σ H Q := by
  obtain ⟨G, Fb, A, r, A', hG, rel, he, q⟩ := h
  unfold ev2 at he
  split at he
  · rename_i r1 A1 e1
    split at he
    · rename_i r2 A2 e2
      split at he
      · rename_i x y hx hy
        refine ⟨G, Fb, A, r1, A1, hG, rel, e1, fun v H1 Fb1 p1 h1 f1 => ⟨G, Fb1, A1, r2, A2, hG, p1.rel, e2, fun u H2 Fb2 p2 h2 f2 => ?_⟩⟩
        have P := p1.trans p2
        have k1 := (h1.carry p1.rel p2).peek p2.rel hx
        have k2 := h2.peek p2.rel hy
        rw [hG] at k1 k2
        split at he
        · rename_i z hz
          cases he
          have := resK_of (r := .d z) P (fun i e => nomatch e) q
          rw [hG] at this
          exact ⟨_, x, y, _, p2.rel.busy, k1, k2, hz, this⟩
        · rename_i z hz
          cases he
          have := resK_of (r := .fr z) P (fun i e => nomatch e) q
          rw [hG] at this
          exact ⟨_, x, y, _, p2.rel.busy, k1, k2, hz, this⟩
        · cases he
      · cases he
    · cases he
  · cases he
theorem weak1 {σ : St} {H : Hp} {Q : VK} (h : tS (cfg X) (ev1 g1 ea) σ H Q) : tS (cfg X) ea σ H (fun x H1 => rG1 (cfg X) g1 x H1 Q) := by
  obtain ⟨G, Fb, A, r, A', hG, rel, he, q⟩ := h
  unfold ev1 at he
  split at he
  · rename_i r1 A1 e1
    split at he
    · rename_i x hx
      refine ⟨G, Fb, A, r1, A1, hG, rel, e1, fun v H1 Fb1 p1 h1 f1 => ?_⟩
      have k1 := h1.peek p1.rel hx
      rw [hG] at k1
      split at he
      · rename_i z hz
        cases he
        have := resK_of (r := .d z) p1 (fun i e => nomatch e) q
        rw [hG] at this
        exact ⟨_, x, _, p1.rel.busy, k1, hz, this⟩
      · rename_i z hz
        cases he
        have := resK_of (r := .fr z) p1 (fun i e => nomatch e) q
        rw [hG] at this
        exact ⟨_, x, _, p1.rel.busy, k1, hz, this⟩
      · cases he
    · cases he
  · cases he
theorem sim_op {op : Operator} (ho : OpR X (binaryOp op) (rG2 (cfg X) g)) (ha : SimE X a ea) (hb : SimE X b eb) : SimE X (.BinOp a op b pos) (ev2 g ea eb) := (pe_op ho ha hb).weak fun _ _ _ h => weak2 h
theorem sim_un {op : UnaryOp} (ho : UnR X (unaryOp op) (rG1 (cfg X) g1)) (ha : SimE X a ea) : SimE X (.UnaryOp op a pos) (ev1 g1 ea) := (pe_un ho ha).weak fun _ _ _ h => weak1 h
theorem sim_cmp {op : CmpOp} (ho : OpR X (compareOp op) (rG2 (cfg X) g)) (ha : SimE X a ea) (hb : SimE X b eb) (hm : behindInMarks op b = false) : SimE X (.Compare a [op] [b] pos) (ev2 g ea eb) := (pe_cmpR ho ha hb hm).weak fun _ _ _ h => weak2 h
theorem sim_ix {r : R2} (hr : IxR X (rG2 (cfg X) g)) (ha : SimE X a ea) (hb : SimE X b eb) (hs : PlainIx b) : SimE X (.Subscript a b pos) (ev2 g ea eb) := (pe_ix hr ha hb hs).weak fun _ _ _ h => weak2 h

/-! ### tests -/
abbrev ET := SS → Option (Bool × SS)
def tST (C : Cfg) (ev : ET) : TT := fun σ H Q => ∃ G Fb A b A', G.toCfg = C ∧ RelSt G Fb A σ H ∧ ev A = some (b, A') ∧ ∀ H', Post G Fb Fb A A' σ H H' → Q b H'
abbrev SimT (X : Cx) (e : Expr) (ev : ET) : Prop := PT X e (tST (cfg X) ev)
def evB (ev : EV) : ET := fun A => match ev A with
  | some (r, A') => match peek A' r with
    | some (.bl b) => some (b, A')
    | _ => none
  | none => none
theorem tB_of {σ : St} {H : Hp} {Q : Bool → Hp → Prop} {C : Cfg} (h : tST C (evB ev) σ H Q) : tS C ev σ H (fun x H1 => ∃ k, x = .bl k ∧ Q k H1) := by
  obtain ⟨G, Fb, A, b, A', hG, rel, he, q⟩ := h
  unfold evB at he
  split at he
  · rename_i r A1 e1
    split at he
    · rename_i k hk
      cases he
      refine ⟨G, Fb, A, r, _, hG, rel, e1, fun v H1 Fb1 p1 h1 f1 => ?_⟩
      have := h1.peek p1.rel hk
      refine ⟨b, ?_, q H1 (p1.then p1.rel (.refl _ _ _))⟩
      have z : Rep G.toCfg H1 (Busy Fb1 A' σ) (.bl b) v := this
      rw [Rep] at z
      exact z
    · cases he
  · cases he
/-- a bool, as a test -/
theorem simT_val (h : SimE X e ev) (he : ∀ whole, isTrue e X.env whole = (do let v ← whole; standAt e.pos; holding [v] (truthy v)) := by intro _; rfl) : SimT X e (evB ev) := (pt_val h he).weak fun _ _ _ q => tB_of q
theorem simT_cmp {op : CmpOp} (ho : OpR X (compareOp op) (rG2 (cfg X) g)) (ha : SimE X a ea) (hb : SimE X b eb) (hm : behindInMarks op b = false) : SimT X (.Compare a [op] [b] pos) (evB (ev2 g ea eb)) := (pt_cmpR ho ha hb hm).weak fun _ _ _ q => weak2 (tB_of q)
/-- by its truth -/
def truD : D → Option Bool
  | .non => some false
  | .bl b => some b
  | .int i => some (i != 0)
  | .tup xs => some (!xs.isEmpty)
  | .lst xs => some (!xs.isEmpty)
  | _ => none
def evTru (ev : EV) : ET := fun A => match ev A with
  | some (r, A') => match peek A' r with
    | some x => match truD x with
      | some b => some (b, A')
      | none => none
    | none => none
  | none => none
theorem Reps.emp {C : Cfg} {H : Hp} {S : Addr → Prop} {xs : List D} {vs : List V} (h : Reps C H S xs vs) : (!xs.isEmpty) = !vs.isEmpty := by
  have := h.length
  cases xs <;> cases vs <;> simp at this ⊢
theorem HL.sql {K : PySem.W.Frag} {H : Hp} {a : Addr} {vs : List V} (h : HL H a vs) : SqL K H a vs := .inl (.inl h)
theorem tru_of {C : Cfg} {H : Hp} {S : Addr → Prop} {x : D} {v : V} {b : Bool} (h : PRep C H S x v) (e : truD x = some b) : TruV C.K v H b := by
  cases x with
  | non => have h : Rep C H S .non v := h; rw [Rep] at h; subst h; cases e; rfl
  | bl c => have h : Rep C H S (.bl c) v := h; rw [Rep] at h; subst h; cases e; rfl
  | int c => have h : Rep C H S (.int c) v := h; rw [Rep] at h; subst h; cases e; rfl
  | tup xs =>
    have h : Rep C H S (.tup xs) v := h
    rw [Rep] at h
    obtain ⟨a, vs, rfl, q, r⟩ := h
    cases e
    exact .inr (.inl ⟨vs, q, r.emp⟩)
  | lst xs =>
    obtain ⟨a, vs, rfl, q, r⟩ := h
    cases e
    exact .inl ⟨vs, q.sql, r.emp⟩
  | _ => cases e
theorem simT_tru (h : SimE X e ev) (he : ∀ whole, isTrue e X.env whole = (do let v ← whole; standAt e.pos; holding [v] (truthy v)) := by intro _; rfl) : SimT X e (evTru ev) := (pt_truth h he).weak fun σ H Q h => by
  obtain ⟨G, Fb, A, b, A', hG, rel, he, q⟩ := h
  unfold evTru at he
  split at he
  · rename_i r A1 e1
    split at he
    · rename_i x hx
      split at he
      · rename_i k hk
        cases he
        refine ⟨G, Fb, A, r, _, hG, rel, e1, fun v H1 Fb1 p1 h1 f1 => ⟨b, ?_, q H1 (p1.then p1.rel (.refl _ _ _))⟩⟩
        have := tru_of (h1.peek p1.rel hx) hk
        rw [hG] at this
        exact this
      · cases he
    · cases he
  · cases he
def evNotT (t : ET) : ET := fun A => match t A with
  | some (b, A') => some (!b, A')
  | none => none
def evAndT (t u : ET) : ET := fun A => match t A with
  | some (true, A') => u A'
  | some (false, A') => some (false, A')
  | none => none
def evOrT (t u : ET) : ET := fun A => match t A with
  | some (true, A') => some (true, A')
  | some (false, A') => u A'
  | none => none
variable {ta tb : ET} {rest : List Expr}
theorem simT_not (h : SimT X a ta) : SimT X (.UnaryOp .Not a pos) (evNotT ta) := (pt_not h).weak fun σ H Q h => by
  obtain ⟨G, Fb, A, b, A', hG, rel, he, q⟩ := h
  unfold evNotT at he
  split at he
  · rename_i b1 A1 e1
    cases he
    exact ⟨G, Fb, A, _, _, hG, rel, e1, fun H' p => q H' p⟩
  · cases he
abbrev SimW (X : Cx) (e : Expr) (ev : ET) : Prop := PW X e (tST (cfg X) ev)
theorem _root_.L2.PW.weak {X : Cx} {e : Expr} {t u : TT} (h : PW X e t) (w : ∀ σ H Q, u σ H Q → t σ H Q) : PW X e u := ⟨fun wh pins s σ H Q I q => h.run wh pins s σ H Q I (w σ H Q q)⟩
theorem and_weak {σ : St} {H : Hp} {Q : Bool → Hp → Prop} {C : Cfg} (h : tST C (evAndT ta tb) σ H Q) : tAnd (tST C ta) (tST C tb) σ H Q := by
  obtain ⟨G, Fb, A, b, A', hG, rel, he, q⟩ := h
  unfold evAndT at he
  split at he
  · rename_i A1 e1
    refine ⟨G, Fb, A, _, _, hG, rel, e1, fun H' p => ?_⟩
    refine iteT ?_
    exact ⟨G, Fb, A1, _, _, hG, p.rel, he, fun H'' p' => q H'' (p.trans p')⟩
  · rename_i A1 e1
    cases he
    refine ⟨G, Fb, A, _, _, hG, rel, e1, fun H' p => ?_⟩
    refine iteF ?_
    exact q H' p
  · cases he
theorem or_weak {σ : St} {H : Hp} {Q : Bool → Hp → Prop} {C : Cfg} (h : tST C (evOrT ta tb) σ H Q) : tOr (tST C ta) (tST C tb) σ H Q := by
  obtain ⟨G, Fb, A, b, A', hG, rel, he, q⟩ := h
  unfold evOrT at he
  split at he
  · rename_i A1 e1
    cases he
    refine ⟨G, Fb, A, _, _, hG, rel, e1, fun H' p => ?_⟩
    refine iteT ?_
    exact q H' p
  · rename_i A1 e1
    refine ⟨G, Fb, A, _, _, hG, rel, e1, fun H' p => ?_⟩
    refine iteF ?_
    exact ⟨G, Fb, A1, _, _, hG, p.rel, he, fun H'' p' => q H'' (p.trans p')⟩
  · cases he
theorem simW_and1 (h : SimT X a ta) : SimW X (.BoolOp .And [a] pos) ta := pw_and1 h
theorem simW_or1 (h : SimT X a ta) : SimW X (.BoolOp .Or [a] pos) ta := pw_or1 h
theorem simW_and (ha : SimT X a ta) (hb : SimW X (.BoolOp .And (b :: rest) pos) tb) : SimW X (.BoolOp .And (a :: b :: rest) pos) (evAndT ta tb) := (pw_and ha hb).weak fun _ _ _ h => and_weak h
theorem simW_or (ha : SimT X a ta) (hb : SimW X (.BoolOp .Or (b :: rest) pos) tb) : SimW X (.BoolOp .Or (a :: b :: rest) pos) (evOrT ta tb) := (pw_or ha hb).weak fun _ _ _ h => or_weak h
/-- as values -/
def evAnd (ea eb : EV) : EV := fun A => match evB ea A with
  | some (true, A') => eb A'
  | some (false, A') => some (.d (.bl false), A')
  | none => none
def evOr (ea eb : EV) : EV := fun A => match evB ea A with
  | some (true, A') => some (.d (.bl true), A')
  | some (false, A') => eb A'
  | none => none
def evNot (ea : EV) : EV := fun A => match evB ea A with
  | some (b, A') => some (.d (.bl !b), A')
  | none => none
theorem FrOk.post {G : Gh} {Fb Fb1 : Addr → Prop} {r : R} {v : V} (h : FrOk G Fb1 r v) (s : ∀ a, Fb a → Fb1 a) : FrOk G Fb r v := h.anti s
theorem sim_and (ha : SimE X a ea) (hb : SimE X (.BoolOp .And (b :: rest) pos) eb) : SimE X (.BoolOp .And (a :: b :: rest) pos) (evAnd ea eb) := (pe_and ha hb).weak fun σ H Q h => by
  obtain ⟨G, Fb, A, r, A', hG, rel, he, q⟩ := h
  unfold evAnd at he
  split at he
  · rename_i A1 e1
    refine tB_of ⟨G, Fb, A, _, _, hG, rel, e1, fun H1 p => ?_⟩
    refine iteT ?_
    exact ⟨G, Fb, A1, _, _, hG, p.rel, he, fun v H' Fb' p' h' f' => q v H' Fb' (p.trans p') h' f'⟩
  · rename_i A1 e1
    cases he
    refine tB_of ⟨G, Fb, A, _, _, hG, rel, e1, fun H1 p => ?_⟩
    refine iteF ?_
    exact q _ _ Fb p (by show Rep _ _ _ _ _; rw [Rep]) trivial
  · cases he
theorem sim_or (ha : SimE X a ea) (hb : SimE X (.BoolOp .Or (b :: rest) pos) eb) : SimE X (.BoolOp .Or (a :: b :: rest) pos) (evOr ea eb) := (pe_or ha hb).weak fun σ H Q h => by
  obtain ⟨G, Fb, A, r, A', hG, rel, he, q⟩ := h
  unfold evOr at he
  split at he
  · rename_i A1 e1
    cases he
    refine tB_of ⟨G, Fb, A, _, _, hG, rel, e1, fun H1 p => ?_⟩
    refine iteT ?_
    exact q _ _ Fb p (by show Rep _ _ _ _ _; rw [Rep]) trivial
  · rename_i A1 e1
    refine tB_of ⟨G, Fb, A, _, _, hG, rel, e1, fun H1 p => ?_⟩
    refine iteF ?_
    exact ⟨G, Fb, A1, _, _, hG, p.rel, he, fun v H' Fb' p' h' f' => q v H' Fb' (p.trans p') h' f'⟩
  · cases he
theorem sim_one {op} (h : SimE X a ea) : SimE X (.BoolOp op [a] pos) ea := pe_one h
theorem sim_not (ha : SimE X a ea) : SimE X (.UnaryOp .Not a pos) (evNot ea) := (pe_not ha).weak fun σ H Q h => by
  obtain ⟨G, Fb, A, r, A', hG, rel, he, q⟩ := h
  unfold evNot at he
  split at he
  · rename_i b A1 e1
    cases he
    exact tB_of ⟨G, Fb, A, _, _, hG, rel, e1, fun H1 p => q _ _ Fb p (by show Rep _ _ _ _ _; rw [Rep]) trivial⟩
  · cases he
/-- a if t else b -/
def evIf (t : ET) (ea eb : EV) : EV := fun A => match t A with
  | some (true, A') => ea A'
  | some (false, A') => eb A'
  | none => none
theorem sim_if (ht : SimT X c ta) (ha : SimE X a ea) (hb : SimE X b eb) : SimE X (.IfExp c a b pos) (evIf ta ea eb) := (pe_ifExp ht ha hb).weak fun σ H Q h => by
  obtain ⟨G, Fb, A, r, A', hG, rel, he, q⟩ := h
  unfold evIf at he
  split at he
  · rename_i A1 e1
    refine ⟨G, Fb, A, _, _, hG, rel, e1, fun H1 p => ?_⟩
    refine iteT ?_
    exact ⟨G, Fb, A1, _, _, hG, p.rel, he, fun v H' Fb' p' h' f' => q v H' Fb' (p.trans p') h' f'⟩
  · rename_i A1 e1
    refine ⟨G, Fb, A, _, _, hG, rel, e1, fun H1 p => ?_⟩
    refine iteF ?_
    exact ⟨G, Fb, A1, _, _, hG, p.rel, he, fun v H' Fb' p' h' f' => q v H' Fb' (p.trans p') h' f'⟩
  · cases he
end
end Z
/-! Z4: statements. -/
namespace Z
open PySem PySem.Spec L2
open PyProof.Rows hiding St

/-- how a statement ends -/
inductive Fl where
  | nx | bk | ct
  | rt (r : R)
abbrev BV := SS → Option (Fl × SS)
structure SPost (G : Gh) (Fb Fb' : Addr → Prop) (A A' : SS) (σ σ' : St) (H H' : Hp) : Prop where
  sub : ∀ a, Fb a → Fb' a
  new : ∀ a, Fb' a → Fb a ∨ (∃ j, OwnAt A σ j a) ∨ H a = none
  rel : RelSt G Fb' A' σ' H'
  keep : ∀ a o, H a = some o → (∀ i, ¬ OwnAt A σ i a) → H' a = some o
  dom : ∀ a, H a ≠ none → H' a ≠ none
  own : ∀ i a, OwnAt A' σ' i a → (∃ j, OwnAt A σ j a) ∨ H a = none
section
variable {G : Gh} {Fb Fb' Fb1 Fb2 : Addr → Prop} {A A' A1 A2 : SS} {σ σ' σ1 σ2 : St} {H H' H1 H2 : Hp} {r : R} {v : V}
theorem SPost.refl (rel : RelSt G Fb A σ H) : SPost G Fb Fb A A σ σ H H := ⟨fun _ s => s, fun _ s => .inl s, rel, fun _ _ e _ => e, fun _ e => e, fun i _ o => .inl ⟨i, o⟩⟩
theorem Post.s (p : Post G Fb Fb' A A' σ H H') : SPost G Fb Fb' A A' σ σ H H' := ⟨p.sub, fun a s => (p.new a s).imp id .inr, p.rel, p.step.keep, p.step.dom, fun i a o => .inl ⟨i, p.step.own o⟩⟩
theorem SPost.trans (p : SPost G Fb Fb1 A A1 σ σ1 H H1) (q : SPost G Fb1 Fb2 A1 A2 σ1 σ2 H1 H2) : SPost G Fb Fb2 A A2 σ σ2 H H2 where
  sub := fun a s => q.sub a (p.sub a s)
  new := fun a s => by
    rcases q.new a s with z | ⟨j, z⟩ | z
    · exact p.new a z
    · exact .inr (p.own j a z)
    · cases e : H a with
      | none => exact .inr (.inr rfl)
      | some o => exact absurd z (p.dom a (by rw [e]; exact fun y => nomatch y))
  rel := q.rel
  keep := fun a o e n => q.keep a o (p.keep a o e n) fun i w => by
    rcases p.own i a w with ⟨j, z⟩ | z
    · exact n j z
    · rw [e] at z; cases z
  dom := fun a e => q.dom a (p.dom a e)
  own := fun i a w => by
    rcases q.own i a w with ⟨j, z⟩ | z
    · exact p.own j a z
    · cases e : H a with
      | none => exact .inr rfl
      | some o => exact absurd z (p.dom a (by rw [e]; exact fun y => nomatch y))
theorem SPost.anti (p : SPost G Fb Fb' A A' σ σ' H H') : SPost G Fb Fb A A' σ σ' H H' := ⟨fun _ s => s, fun _ s => .inl s, p.rel.anti p.sub, p.keep, p.dom, p.own⟩
theorem SPost.carry (rel : RelSt G Fb A σ H) (p : SPost G Fb Fb' A A' σ σ' H H') : Carry H H' (Busy Fb A σ) (Busy Fb' A' σ') :=
  ⟨rel.busy, fun a o e n => p.keep a o e fun i q => n (.inr ⟨i, q⟩), fun a s => by
    rcases s with s | ⟨i, s⟩
    · rcases p.new a s with z | z | z
      · exact .inl (.inl z)
      · exact .inl (.inr z)
      · exact .inr z
    · exact (p.own i a s).imp .inr id⟩

def SEnd (G : Gh) (Fb : Addr → Prop) (A A' : SS) (σ : St) (H : Hp) (D : Ends) : Fl → Prop
  | .nx => ∀ σ' H', SPost G Fb Fb A A' σ σ' H H' → D.nx σ' H'
  | .bk => ∀ σ' H', SPost G Fb Fb A A' σ σ' H H' → D.bk σ' H'
  | .ct => ∀ σ' H', SPost G Fb Fb A A' σ σ' H H' → D.ct σ' H'
  | .rt r => ∀ v σ' H' Fb', SPost G Fb Fb' A A' σ σ' H H' → HV G Fb' A' σ' H' r v → FrOk G Fb r v → D.rt v H'
end
def tSS (C : Cfg) (ev : BV) : TS := fun D σ H => ∃ G Fb A f A', G.toCfg = C ∧ RelSt G Fb A σ H ∧ ev A = some (f, A') ∧ SEnd G Fb A A' σ H D f
abbrev SimS (X : Cx) (st : Stmt) (ev : BV) : Prop := PS X st (tSS (cfg X) ev)
abbrev SimB (X : Cx) (sts : List Stmt) (ev : BV) : Prop := PSs X sts (tSS (cfg X) ev)
/-- what came ahead -/
theorem SEnd.pre {G : Gh} {Fb : Addr → Prop} {A A1 A' : SS} {σ σ1 : St} {H H1 : Hp} {D : Ends} {f : Fl} (p : SPost G Fb Fb A A1 σ σ1 H H1) (h : SEnd G Fb A A' σ H D f) : SEnd G Fb A1 A' σ1 H1 D f := by
  cases f with
  | nx => exact fun σ' H' q => h σ' H' (p.trans q)
  | bk => exact fun σ' H' q => h σ' H' (p.trans q)
  | ct => exact fun σ' H' q => h σ' H' (p.trans q)
  | rt r => exact fun v σ' H' Fb' q => h v σ' H' Fb' (p.trans q)

def bNil : BV := fun A => some (.nx, A)
def bSeq (a b : BV) : BV := fun A => match a A with
  | some (.nx, A1) => b A1
  | some (.bk, A1) => some (.bk, A1)
  | some (.ct, A1) => some (.ct, A1)
  | some (.rt r, A1) => some (.rt r, A1)
  | none => none
def bBrk : BV := fun A => some (.bk, A)
def bCnt : BV := fun A => some (.ct, A)
def bExp (e : EV) : BV := fun A => match e A with
  | some (_, A1) => some (.nx, A1)
  | none => none
def bRet (e : EV) : BV := fun A => match e A with
  | some (.sl i, A1) => match A1[i]? with
    | some (.val d) => some (.rt (.d d), A1)
    | some (.own d) => some (.rt (.fr d), A1.set i .un)
    | _ => none
  | some (.d x, A1) => some (.rt (.d x), A1)
  | some (.fr x, A1) => some (.rt (.fr x), A1)
  | none => none
def bRetN : BV := fun A => some (.rt (.d .non), A)
def bIf (t : ET) (a b : BV) : BV := fun A => match t A with
  | some (true, A1) => a A1
  | some (false, A1) => b A1
  | none => none
def bNever : BV := fun _ => none

/-- a list or dict leaves its name -/
theorem RelSt.leave {G : Gh} {Fb : Addr → Prop} {A : SS} {σ : St} {H : Hp} (rel : RelSt G Fb A σ H) {i : Nat} {d : D} (e : A[i]? = some (.own d)) :
    ∃ a, σ[i]? = some (some (.ref a)) ∧ ¬ Fb a ∧ G.H0 a = none ∧ OwnAt A σ i a ∧ RelSt G (Also Fb a) (A.set i .un) σ H ∧ RepO G.toCfg H (Busy (Also Fb a) (A.set i .un) σ) d a := by
  have hi : i < A.length := (List.getElem?_eq_some_iff.mp e).1
  have get : ∀ j : Nat, (A.set i .un)[j]? = if j = i then some .un else A[j]? := fun j => by
    by_cases z : j = i
    · subst z; rw [if_pos rfl, List.getElem?_set_self hi]
    · rw [if_neg z, List.getElem?_set_ne (Ne.symm z)]
  obtain ⟨a, ea, ra, na, za⟩ := rel.own i d e
  have oi : OwnAt A σ i a := ⟨⟨_, e, rfl⟩, ea⟩
  have ow : ∀ j b, OwnAt (A.set i .un) σ j b → OwnAt A σ j b ∧ j ≠ i := fun j b ⟨⟨s, es, z⟩, e2⟩ => by
    rw [get] at es
    by_cases q : j = i
    · rw [if_pos q] at es; cases es; cases z
    · rw [if_neg q] at es; exact ⟨⟨⟨s, es, z⟩, e2⟩, q⟩
  have sub : ∀ b, Busy (Also Fb a) (A.set i .un) σ b → Busy Fb A σ b := fun b s => by
    rcases s with (s | s) | ⟨j, s⟩
    · exact .inl s
    · subst s; exact .inr ⟨i, oi⟩
    · exact .inr ⟨j, (ow j b s).1⟩
  have ne : ∀ {j : Nat} {b : Addr}, j ≠ i → OwnAt A σ j b → b ≠ a := fun {j b} hj o z => by
    subst z
    exact hj (rel.inj j i b o oi)
  refine ⟨a, ea, na, za, oi, ⟨by rw [List.length_set]; exact rel.len, fun b s => ?_, fun j x q => ?_, fun j x q => ?_, fun j x q => ?_, fun j k b o1 o2 => rel.inj j k b (ow j b o1).1 (ow k b o2).1, rel.ent, fun j b q => ?_⟩, ra.anti rel.busy sub⟩
  · rcases s with s | s
    · exact rel.fb b s
    · subst s; exact ra.mut
  · rw [get] at q
    by_cases z : j = i
    · rw [if_pos z] at q; cases q
    · rw [if_neg z] at q
      obtain ⟨v, e1, r1⟩ := rel.val j x q
      exact ⟨v, e1, r1.anti rel.busy sub⟩
  · rw [get] at q
    by_cases z : j = i
    · rw [if_pos z] at q; cases q
    · rw [if_neg z] at q
      obtain ⟨b, e1, r1, r2, r3⟩ := rel.own j x q
      exact ⟨b, e1, r1.anti rel.busy sub, fun s => s.elim r2 (ne z ⟨⟨_, q, rfl⟩, e1⟩), r3⟩
  · rw [get] at q
    by_cases z : j = i
    · rw [if_pos z] at q; cases q
    · rw [if_neg z] at q
      obtain ⟨b, e1, r1, r2, r3⟩ := rel.ioo j x q
      exact ⟨b, e1, r1.anti rel.busy sub, fun s => s.elim r2 (ne z ⟨⟨_, q, rfl⟩, e1⟩), r3⟩
  · obtain ⟨⟨x, e1⟩, e2⟩ := rel.ios j b q
    refine ⟨⟨x, ?_⟩, e2⟩
    rw [get]
    by_cases z : j = i
    · subst z; rw [e] at e1; cases e1
    · rw [if_neg z]; exact e1

section
variable {X : Cx} {st : Stmt} {rest : List Stmt} {a b : BV} {e : Expr} {ev : EV} {pos : Pos} {ta : ET} {c : Expr} {as bs : List Stmt}
theorem simB_nil : SimB X [] bNil := pss_nil.weak fun D σ H h => by
  obtain ⟨G, Fb, A, f, A', hG, rel, he, q⟩ := h
  cases he
  exact q σ H (.refl rel)
theorem simB_cons (h1 : SimS X st a) (h2 : SimB X rest b) : SimB X (st :: rest) (bSeq a b) := (pss_cons h1 h2).weak fun D σ H h => by
  obtain ⟨G, Fb, A, f, A', hG, rel, he, q⟩ := h
  unfold bSeq at he
  show tSS (cfg X) a { D with nx := tSS (cfg X) b D } σ H
  split at he
  · rename_i A1 e1
    exact ⟨G, Fb, A, .nx, A1, hG, rel, e1, fun σ1 H1 p => ⟨G, Fb, A1, f, A', hG, p.rel, he, q.pre p⟩⟩
  · rename_i A1 e1
    cases he
    exact ⟨G, Fb, A, .bk, _, hG, rel, e1, q⟩
  · rename_i A1 e1
    cases he
    exact ⟨G, Fb, A, .ct, _, hG, rel, e1, q⟩
  · rename_i r A1 e1
    cases he
    exact ⟨G, Fb, A, .rt r, _, hG, rel, e1, q⟩
  · cases he
theorem simB_one (h1 : SimS X st a) : SimB X [st] a := pss_one h1
theorem simS_pass : SimS X (.Pass pos) bNil := ps_pass.weak fun D σ H h => by
  obtain ⟨G, Fb, A, f, A', hG, rel, he, q⟩ := h
  cases he
  exact q σ H (.refl rel)
theorem simS_doc {x : Str} {j : Nat} {pos' : Pos} : SimS X (.Expr (.Constant (.str x) j pos) pos') bNil := ps_doc.weak fun D σ H h => by
  obtain ⟨G, Fb, A, f, A', hG, rel, he, q⟩ := h
  cases he
  exact q σ H (.refl rel)
theorem simS_brk : SimS X (.Break pos) bBrk := ps_break.weak fun D σ H h => by
  obtain ⟨G, Fb, A, f, A', hG, rel, he, q⟩ := h
  cases he
  exact q σ H (.refl rel)
theorem simS_cnt : SimS X (.Continue pos) bCnt := ps_continue.weak fun D σ H h => by
  obtain ⟨G, Fb, A, f, A', hG, rel, he, q⟩ := h
  cases he
  exact q σ H (.refl rel)
theorem simS_exp (h : SimE X e ev) (hs : swapsWith e none pos.line X.env = pure false := by rfl) : SimS X (.Expr e pos) (bExp ev) := (ps_expr h hs).weak fun D σ H h => by
  obtain ⟨G, Fb, A, f, A', hG, rel, he, q⟩ := h
  unfold bExp at he
  split at he
  · rename_i r A1 e1
    cases he
    exact ⟨G, Fb, A, r, _, hG, rel, e1, fun v H1 Fb1 p _ _ => q σ H1 p.s.anti⟩
  · cases he
theorem simS_retN : SimS X (.Return none pos) bRetN := ps_retN.weak fun D σ H h => by
  obtain ⟨G, Fb, A, f, A', hG, rel, he, q⟩ := h
  cases he
  exact q .non σ H Fb (.refl rel) (by show Rep _ _ _ _ _; rw [Rep]) trivial
theorem simS_ret (h : SimE X e ev) : SimS X (.Return (some e) pos) (bRet ev) := (ps_ret h).weak fun D σ H h => by
  obtain ⟨G, Fb, A, f, A', hG, rel, he, q⟩ := h
  unfold bRet at he
  split at he
  · rename_i i A1 e1
    split at he
    · rename_i d hd
      cases he
      refine ⟨G, Fb, A, _, _, hG, rel, e1, fun v H1 Fb1 p h1 _ => q v σ H1 Fb p.s.anti ?_ trivial⟩
      obtain ⟨⟨s, es, _⟩, e2⟩ := h1
      obtain ⟨w, e3, rw'⟩ := (p.rel.anti p.sub).val i d hd
      rw [e2] at e3; cases e3
      exact rw'
    · rename_i d hd
      cases he
      refine ⟨G, Fb, A, _, _, hG, rel, e1, fun v H1 Fb1 p h1 _ => ?_⟩
      obtain ⟨⟨s, es, _⟩, e2⟩ := h1
      obtain ⟨b, e3, nb, zb, oi, r2, ro⟩ := (p.rel.anti p.sub).leave hd
      rw [e2] at e3; cases e3
      refine q _ σ H1 (Also Fb b) ⟨fun _ s => .inl s, fun x s => ?_, r2, p.step.keep, p.step.dom, fun j x o => .inl ⟨j, p.step.own ?_⟩⟩ ⟨b, rfl, .inr rfl, ro⟩ fun x ex => ?_
      · rcases s with s | s
        · exact .inl s
        · subst s
          exact .inr (.inl ⟨_, p.step.own oi⟩)
      · obtain ⟨⟨t, et, zt⟩, e4⟩ := o
        refine ⟨⟨t, ?_, zt⟩, e4⟩
        have hi := (List.getElem?_eq_some_iff.mp hd).1
        by_cases z : j = i
        · subst z; rw [List.getElem?_set_self hi] at et; cases et; cases zt
        · rw [List.getElem?_set_ne (Ne.symm z)] at et; exact et
      · cases ex; exact ⟨nb, zb⟩
    · cases he
  · rename_i x A1 e1
    cases he
    exact ⟨G, Fb, A, _, _, hG, rel, e1, fun v H1 Fb1 p h1 f1 => q v σ H1 Fb1 p.s h1 f1⟩
  · rename_i x A1 e1
    cases he
    exact ⟨G, Fb, A, _, _, hG, rel, e1, fun v H1 Fb1 p h1 f1 => q v σ H1 Fb1 p.s h1 f1⟩
  · cases he
end
end Z
/-! Z5: names stored, targets, loops. -/
namespace Z
open PySem PySem.Spec L2
open PyProof.Rows hiding St

section
variable {G : Gh} {Fb Fb' Fb1 Fb2 : Addr → Prop} {A A' A1 A2 : SS} {σ σ' σ1 σ2 : St} {H H' H1 H2 : Hp} {r : R} {v : V}
theorem get_set {α : Type} {l : List α} {i : Nat} (hi : i < l.length) (x : α) (j : Nat) : (l.set i x)[j]? = if j = i then some x else l[j]? := by
  by_cases z : j = i
  · subst z; rw [if_pos rfl, List.getElem?_set_self hi]
  · rw [if_neg z, List.getElem?_set_ne (Ne.symm z)]
/-- a name takes data -/
theorem RelSt.setVal (rel : RelSt G Fb A σ H) {i : Nat} {s : SV} (hi : A[i]? = some s) (nio : ∀ d, s ≠ .io d) {x : D} {v : V} (rx : Rep G.toCfg H (Busy Fb A σ) x v) :
    RelSt G Fb (A.set i (.val x)) (σ.set i (some v)) H ∧ ∀ j a, OwnAt (A.set i (.val x)) (σ.set i (some v)) j a → OwnAt A σ j a := by
  have hA : i < A.length := (List.getElem?_eq_some_iff.mp hi).1
  have hσ : i < σ.length := by rw [← rel.len]; exact hA
  have ow : ∀ j a, OwnAt (A.set i (.val x)) (σ.set i (some v)) j a → OwnAt A σ j a := fun j a ⟨⟨t, e, z⟩, e2⟩ => by
    rw [get_set hA] at e
    rw [get_set hσ] at e2
    by_cases q : j = i
    · rw [if_pos q] at e; cases e; cases z
    · rw [if_neg q] at e e2; exact ⟨⟨t, e, z⟩, e2⟩
  have sub : ∀ a, Busy Fb (A.set i (.val x)) (σ.set i (some v)) a → Busy Fb A σ a := fun a s => s.imp id fun ⟨j, q⟩ => ⟨j, ow j a q⟩
  refine ⟨⟨by rw [List.length_set, List.length_set]; exact rel.len, rel.fb, fun j y q => ?_, fun j y q => ?_, fun j y q => ?_, fun j k b o1 o2 => rel.inj j k b (ow j b o1) (ow k b o2), rel.ent, fun j b q => ?_⟩, ow⟩
  · rw [get_set hA] at q
    rw [get_set hσ]
    by_cases z : j = i
    · rw [if_pos z] at q ⊢; cases q; exact ⟨v, rfl, rx.anti rel.busy sub⟩
    · rw [if_neg z] at q ⊢
      obtain ⟨u, e1, r1⟩ := rel.val j y q
      exact ⟨u, e1, r1.anti rel.busy sub⟩
  · rw [get_set hA] at q
    rw [get_set hσ]
    by_cases z : j = i
    · rw [if_pos z] at q; cases q
    · rw [if_neg z] at q ⊢
      obtain ⟨u, e1, r1, r2⟩ := rel.own j y q
      exact ⟨u, e1, r1.anti rel.busy sub, r2⟩
  · rw [get_set hA] at q
    rw [get_set hσ]
    by_cases z : j = i
    · rw [if_pos z] at q; cases q
    · rw [if_neg z] at q ⊢
      obtain ⟨u, e1, r1, r2⟩ := rel.ioo j y q
      exact ⟨u, e1, r1.anti rel.busy sub, r2⟩
  · obtain ⟨⟨y, e1⟩, e2, e3⟩ := rel.ios j b q
    have z : j ≠ i := fun z => by
      subst z
      rw [hi] at e1
      exact nio y (Option.some.inj e1)
    rw [get_set hA, get_set hσ, if_neg z, if_neg z]
    exact ⟨⟨y, e1⟩, e2, e3⟩
/-- a name takes a list or dict of its own -/
theorem RelSt.setOwn {a : Addr} (rel : RelSt G (Also Fb a) A σ H) {i : Nat} {s : SV} (hi : A[i]? = some s) (nio : ∀ d, s ≠ .io d) {x : D} (rx : RepO G.toCfg H (Busy (Also Fb a) A σ) x a) (nf : ¬ Fb a) (h0 : G.H0 a = none) :
    RelSt G Fb (A.set i (.own x)) (σ.set i (some (.ref a))) H ∧ ∀ j b, OwnAt (A.set i (.own x)) (σ.set i (some (.ref a))) j b → OwnAt A σ j b ∨ b = a := by
  have hA : i < A.length := (List.getElem?_eq_some_iff.mp hi).1
  have hσ : i < σ.length := by rw [← rel.len]; exact hA
  have ow : ∀ j b, OwnAt (A.set i (.own x)) (σ.set i (some (.ref a))) j b → (j ≠ i ∧ OwnAt A σ j b) ∨ (j = i ∧ b = a) := fun j b ⟨⟨t, e, z⟩, e2⟩ => by
    rw [get_set hA] at e
    rw [get_set hσ] at e2
    by_cases q : j = i
    · rw [if_pos q] at e e2; cases e; cases e2; exact .inr ⟨q, rfl⟩
    · rw [if_neg q] at e e2; exact .inl ⟨q, ⟨t, e, z⟩, e2⟩
  have sub : ∀ b, Busy Fb (A.set i (.own x)) (σ.set i (some (.ref a))) b → Busy (Also Fb a) A σ b := fun b s => by
    rcases s with s | ⟨j, q⟩
    · exact .inl (.inl s)
    · rcases ow j b q with ⟨_, z⟩ | ⟨_, z⟩
      · exact .inr ⟨j, z⟩
      · exact .inl (.inr z)
  have na : ∀ {j : Nat} {b : Addr}, OwnAt A σ j b → b ≠ a := fun {j b} o z => by
    obtain ⟨d, _, _, n⟩ := rel.ownO o
    exact n (.inr z)
  refine ⟨⟨by rw [List.length_set, List.length_set]; exact rel.len, fun b s => rel.fb b (.inl s), fun j y q => ?_, fun j y q => ?_, fun j y q => ?_, fun j k b o1 o2 => ?_, rel.ent, fun j b q => ?_⟩, fun j b o => (ow j b o).imp (·.2) (·.2)⟩
  · rw [get_set hA] at q
    rw [get_set hσ]
    by_cases z : j = i
    · rw [if_pos z] at q; cases q
    · rw [if_neg z] at q ⊢
      obtain ⟨u, e1, r1⟩ := rel.val j y q
      exact ⟨u, e1, r1.anti rel.busy sub⟩
  · rw [get_set hA] at q
    rw [get_set hσ]
    by_cases z : j = i
    · rw [if_pos z] at q ⊢; cases q; exact ⟨a, rfl, rx.anti rel.busy sub, nf, h0⟩
    · rw [if_neg z] at q ⊢
      obtain ⟨u, e1, r1, r2, r3⟩ := rel.own j y q
      exact ⟨u, e1, r1.anti rel.busy sub, fun s => r2 (.inl s), r3⟩
  · rw [get_set hA] at q
    rw [get_set hσ]
    by_cases z : j = i
    · rw [if_pos z] at q; cases q
    · rw [if_neg z] at q ⊢
      obtain ⟨u, e1, r1, r2, r3⟩ := rel.ioo j y q
      exact ⟨u, e1, r1.anti rel.busy sub, fun s => r2 (.inl s), r3⟩
  · rcases ow j b o1 with ⟨_, z1⟩ | ⟨z1, y1⟩
    · rcases ow k b o2 with ⟨_, z2⟩ | ⟨z2, y2⟩
      · exact rel.inj j k b z1 z2
      · exact absurd y2 (na z1)
    · rcases ow k b o2 with ⟨_, z2⟩ | ⟨z2, y2⟩
      · exact absurd y1 (na z2)
      · rw [z1, z2]
  · obtain ⟨⟨y, e1⟩, e2, e3⟩ := rel.ios j b q
    have z : j ≠ i := fun z => by
      subst z
      rw [hi] at e1
      exact nio y (Option.some.inj e1)
    rw [get_set hA, get_set hσ, if_neg z, if_neg z]
    exact ⟨⟨y, e1⟩, e2, e3⟩
end

/-- a handle without its name -/
def res (A : SS) : R → Option (R × SS)
  | .sl i => match mv A (.sl i) with
    | some (x, A1) => some (.d x, A1)
    | none => none
  | .d x => some (.d x, A)
  | .fr x => some (.fr x, A)
/-- stored in a name -/
def putR (i : Nat) (r : R) (A : SS) : Option SS := match A[i]? with
  | none => none
  | some (.io _) => none
  | some _ => match r with
    | .fr x => some (A.set i (.own x))
    | .d x => some (A.set i (.val x))
    | .sl _ => none
theorem res_ok {G : Gh} {Fb Fb1 : Addr → Prop} {A A1 A2 : SS} {σ : St} {H H1 : Hp} {r r' : R} {v : V} (p : Post G Fb Fb1 A A1 σ H H1) (h : HV G Fb1 A1 σ H1 r v) (f : FrOk G Fb r v) (e : res A1 r = some (r', A2)) :
    Post G Fb Fb1 A A2 σ H H1 ∧ HV G Fb1 A2 σ H1 r' v ∧ FrOk G Fb r' v ∧ Step A1 A2 σ H1 H1 := by
  cases r with
  | sl i =>
    simp only [res] at e
    split at e
    · rename_i x A3 e3
      cases e
      obtain ⟨r3, rx, st⟩ := h.mv p.rel (fun _ s => s) trivial e3
      exact ⟨⟨p.sub, p.new, r3, p.step.trans st⟩, rx, trivial, st⟩
    · cases e
  | d x => cases e; exact ⟨p, h, f, .refl _ _ _⟩
  | fr x => cases e; exact ⟨p, h, f, .refl _ _ _⟩
theorem res_fr {A A' : SS} {r : R} {x : D} (e : res A r = some (.fr x, A')) : r = .fr x := by
  cases r with
  | sl i =>
    simp only [res] at e
    split at e <;> cases e
  | d z => cases e
  | fr z => cases e; rfl
theorem putR_rel {G : Gh} {Fb Fb1 : Addr → Prop} {A1 A2 : SS} {σ : St} {H1 : Hp} {r : R} {v : V} {i : Nat} (rel : RelSt G Fb1 A1 σ H1) (sub : ∀ a, Fb a → Fb1 a) (h : HV G Fb1 A1 σ H1 r v) (f : FrOk G Fb r v) (e : putR i r A1 = some A2) :
    RelSt G Fb A2 (σ.set i (some v)) H1 ∧ ∀ j b, OwnAt A2 (σ.set i (some v)) j b → OwnAt A1 σ j b ∨ ((∃ x, r = .fr x) ∧ v = .ref b) := by
  unfold putR at e
  split at e
  · cases e
  · cases e
  · rename_i s hs hn
    have nio : ∀ d, s ≠ .io d := fun d z => by subst z; exact hs d rfl
    cases r with
    | fr x =>
      cases e
      obtain ⟨a, rfl, fa, ro⟩ := h
      obtain ⟨nf, h0⟩ := f a rfl
      have sb0 : ∀ b, Also Fb a b → Fb1 b := fun b z => by
        rcases z with z | z
        · exact sub b z
        · subst z; exact fa
      obtain ⟨r2, ow⟩ := (rel.anti sb0).setOwn hn nio (ro.anti rel.busy (Busy.mono sb0)) nf h0
      exact ⟨r2, fun j b o => (ow j b o).imp id fun z => by subst z; exact ⟨⟨x, rfl⟩, rfl⟩⟩
    | d x =>
      cases e
      obtain ⟨r4, ow⟩ := (rel.anti sub).setVal hn nio (Rep.anti rel.busy (Busy.mono sub) h)
      exact ⟨r4, fun j b o => .inl (ow j b o)⟩
    | sl j => cases e
theorem putR_ok {G : Gh} {Fb Fb1 : Addr → Prop} {A A1 A2 : SS} {σ : St} {H H1 : Hp} {r : R} {v : V} {i : Nat} (p : Post G Fb Fb1 A A1 σ H H1) (h : HV G Fb1 A1 σ H1 r v) (f : FrOk G Fb r v) (e : putR i r A1 = some A2) :
    SPost G Fb Fb A A2 σ (σ.set i (some v)) H H1 := by
  obtain ⟨r2, ow⟩ := putR_rel p.rel p.sub h f e
  refine ⟨fun _ s => s, fun _ s => .inl s, r2, p.step.keep, p.step.dom, fun j b o => ?_⟩
  rcases ow j b o with z | ⟨⟨x, e⟩, z⟩
  · exact .inl ⟨j, p.step.own z⟩
  · subst e
    obtain ⟨a, e2, fa, _⟩ := h
    rw [z] at e2; cases e2
    rcases p.new b fa with y | y
    · exact absurd y (f b z).1
    · exact .inr y

def bSet (i : Nat) (ev : EV) : BV := fun A => match ev A with
  | some (r, A1) => match res A1 r with
    | some (r', A2) => match putR i r' A2 with
      | some A3 => some (.nx, A3)
      | none => none
    | none => none
  | none => none
section
variable {X : Cx} {e : Expr} {ev : EV} {pos : Pos}
theorem set_weak {C : Cfg} {i : Nat} {D : Ends} {σ : St} {H : Hp} (h : tSS C (bSet i ev) D σ H) : tAsg (tS C ev) (gName i) D σ H := by
  obtain ⟨G, Fb, A, f, A', hG, rel, he, q⟩ := h
  unfold bSet at he
  split at he
  · rename_i r A1 e1
    split at he
    · rename_i r' A2 e2
      split at he
      · rename_i A3 e3
        cases he
        refine ⟨G, Fb, A, r, A1, hG, rel, e1, fun v H1 Fb1 p1 h1 f1 => ?_⟩
        obtain ⟨p2, h2, f2, _⟩ := res_ok p1 h1 f1 e2
        exact q _ _ (putR_ok p2 h2 f2 e3)
      · cases he
    · cases he
  · cases he
theorem simS_set {i : Nat} {x : Str} {pos' : Pos} (hN : X.N.Nodup) (h : SimE X e ev) (hi : X.N[i]? = some x := by rfl) (hx : Loc X.env.scope x := by first | exact Or.inl rfl | exact Or.inr rfl) (hs : swapsWith e (some (.Name x pos')) pos.line X.env = pure false := by rfl)
    (hf : X.fn x = true ∨ X.env.scope.names.lookup x = some .local := by first | exact .inl rfl | exact .inr rfl | assumption) : SimS X (.Assign [.Name x pos'] e pos) (bSet i ev) := (ps_set hN hi hx h hs hf).weak fun _ _ _ h => set_weak h
end

/-! ### targets -/
abbrev GV := D → SS → Option SS
/-- nothing but these slots -/
structure Only (vs : List Nat) (A A' : SS) (σ σ' : St) : Prop where
  len : σ'.length = σ.length
  out : ∀ i : Nat, i ∉ vs → σ'[i]? = σ[i]? ∧ A'[i]? = A[i]?
def tSG (C : Cfg) (vs : List Nat) (g : GV) : TG := fun v σ H Q => ∃ G Fb A x A', G.toCfg = C ∧ RelSt G Fb A σ H ∧ Rep C H (Busy Fb A σ) x v ∧ g x A = some A' ∧ ∀ σ' H', SPost G Fb Fb A A' σ σ' H H' → Only vs A A' σ σ' → Q σ' H'
def tSGs (C : Cfg) (vs : List Nat) (g : List D → SS → Option SS) : TGs := fun us σ H Q => ∃ G Fb A xs A', G.toCfg = C ∧ RelSt G Fb A σ H ∧ Reps C H (Busy Fb A σ) xs us ∧ g xs A = some A' ∧ ∀ σ' H', SPost G Fb Fb A A' σ σ' H H' → Only vs A A' σ σ' → Q σ' H'
abbrev SimG (X : Cx) (e : Expr) (vs : List Nat) (g : GV) : Prop := PG X e (tSG (cfg X) vs g)
abbrev SimGs (X : Cx) (es : List Expr) (vs : List Nat) (g : List D → SS → Option SS) : Prop := PGs X es (tSGs (cfg X) vs g)
theorem _root_.L2.PG.weak {X : Cx} {e : Expr} {t u : TG} (h : PG X e t) (w : ∀ v σ H Q, u v σ H Q → t v σ H Q) : PG X e u := ⟨fun pins s σ H v x Q I r q => h.run pins s σ H v x Q I r (w v σ H Q q)⟩
theorem _root_.L2.PGs.weak {X : Cx} {e : List Expr} {t u : TGs} (h : PGs X e t) (w : ∀ v σ H Q, u v σ H Q → t v σ H Q) : PGs X e u := ⟨fun pins s σ H v x Q I r q => h.run pins s σ H v x Q I r (w v σ H Q q)⟩
def gvN (i : Nat) : GV := fun x A => putR i (.d x) A
def gvNil : List D → SS → Option SS := fun xs A => match xs with
  | [] => some A
  | _ :: _ => none
def gvCons (g : GV) (gs : List D → SS → Option SS) : List D → SS → Option SS := fun xs A => match xs with
  | [] => none
  | x :: xs => match g x A with
    | some A1 => gs xs A1
    | none => none
def gvT (n : Nat) (gs : List D → SS → Option SS) : GV := fun x A => match x with
  | .tup xs => if xs.length = n then gs xs A else none
  | _ => none
theorem putR_only {i : Nat} {r : R} {A A' : SS} (e : putR i r A = some A') : ∀ j, j ≠ i → A'[j]? = A[j]? := by
  unfold putR at e
  split at e
  · cases e
  · cases e
  · split at e
    · cases e; exact fun j h => List.getElem?_set_ne (Ne.symm h)
    · cases e; exact fun j h => List.getElem?_set_ne (Ne.symm h)
    · cases e
section
variable {X : Cx} {e : Expr} {es : List Expr} {g : GV} {gs : List D → SS → Option SS} {pos : Pos} {vs ws : List Nat}
theorem simG_name {i : Nat} {x : Str} (hN : X.N.Nodup) (hi : X.N[i]? = some x := by rfl) (hx : Loc X.env.scope x := by first | exact Or.inl rfl | exact Or.inr rfl) (hf : X.fn x = true ∨ X.env.scope.names.lookup x = some .local := by first | exact .inl rfl | exact .inr rfl | assumption) :
    SimG X (.Name x pos) [i] (gvN i) := (pg_name hN hi hx hf).weak fun v σ H Q h => by
  obtain ⟨G, Fb, A, y, A', hG, rel, ry, he, q⟩ := h
  rw [← hG] at ry
  refine q _ _ (putR_ok (r := .d y) (.refl rel) ry trivial he) ⟨List.length_set, fun j hj => ?_⟩
  have hj : j ≠ i := fun z => hj (by rw [z]; exact List.mem_singleton.mpr rfl)
  exact ⟨List.getElem?_set_ne (Ne.symm hj), putR_only he j hj⟩
theorem simG_nil : SimGs X [] [] gvNil := pgs_nil.weak fun v σ H Q h => by
  obtain ⟨G, Fb, A, y, A', hG, rel, ry, he, q⟩ := h
  unfold gvNil at he
  split at he
  · cases he
    rw [Reps] at ry
    exact ⟨ry, q σ H (.refl rel) ⟨rfl, fun _ _ => ⟨rfl, rfl⟩⟩⟩
  · cases he
theorem simG_cons (h1 : SimG X e vs g) (h2 : SimGs X es ws gs) (hs : (assignEach (e :: es) X.env).map (·.2) = assign e X.env :: (assignEach es X.env).map (·.2) := by rfl) : SimGs X (e :: es) (vs ++ ws) (gvCons g gs) := (pgs_cons h1 h2 hs).weak fun v σ H Q h => by
  obtain ⟨G, Fb, A, y, A', hG, rel, ry, he, q⟩ := h
  unfold gvCons at he
  split at he
  · cases he
  · rename_i x xs
    split at he
    · rename_i A1 e1
      rw [Reps] at ry
      obtain ⟨v, r, rfl, r1, r2⟩ := ry
      refine ⟨v, r, rfl, G, Fb, A, x, A1, hG, rel, r1, e1, fun σ1 H1 p1 o1 => ⟨G, Fb, A1, xs, A', hG, p1.rel, ?_, he, fun σ2 H2 p2 o2 => q σ2 H2 (p1.trans p2) ⟨o2.len.trans o1.len, fun i hi => ?_⟩⟩⟩
      · have rr := Reps.carry (p1.carry rel) _ _ (hG ▸ r2)
        exact hG ▸ rr
      · have z1 := o1.out i fun z => hi (List.mem_append_left _ z)
        have z2 := o2.out i fun z => hi (List.mem_append_right _ z)
        exact ⟨z2.1.trans z1.1, z2.2.trans z1.2⟩
    · cases he
theorem simG_tup {k n : Nat} (hc : X.calm = true) (h : SimGs X es vs gs) (hn : (assignEach es X.env).length = n := by rfl) (hst : (assignEach es X.env).findIdx? (·.1) = none := by rfl) : SimG X (.Tuple es k pos) vs (gvT n gs) := (pg_tup hc h hn hst).weak fun v σ H Q h => by
  obtain ⟨G, Fb, A, y, A', hG, rel, ry, he, q⟩ := h
  unfold gvT at he
  split at he
  · rename_i xs
    split at he
    · rename_i hl
      rw [Rep] at ry
      obtain ⟨a, vs, rfl, sq, r⟩ := ry
      refine ⟨a, vs, rfl, sq, by rw [← r.length]; exact hl, G, Fb, A, xs, A', hG, rel, r, he, q⟩
    · cases he
  · cases he
/-- target = e by its data -/
def bAsg (g : GV) (ev : EV) : BV := fun A => match ev A with
  | some (r, A1) => match mv A1 r with
    | some (x, A2) => match g x A2 with
      | some A3 => some (.nx, A3)
      | none => none
    | none => none
  | none => none
theorem simS_asg {tg : Expr} {ev : EV} (he : SimE X e ev) (hg : SimG X tg vs g) (hs : swapsWithSole [tg] e pos.line X.env = pure false := by rfl) (hw : swappedStores [tg] e X.env = pure none := by rfl)
    (h1 : (assignEach [tg] X.env).map (·.2) = [assign tg X.env] := by rfl) : SimS X (.Assign [tg] e pos) (bAsg g ev) := (ps_asg he hg hs hw h1).weak fun D σ H h => by
  obtain ⟨G, Fb, A, f, A', hG, rel, he, q⟩ := h
  unfold bAsg at he
  split at he
  · rename_i r A1 e1
    split at he
    · rename_i x A2 e2
      split at he
      · rename_i A3 e3
        cases he
        refine ⟨G, Fb, A, r, A1, hG, rel, e1, fun v H1 Fb1 p1 h1 f1 => ?_⟩
        obtain ⟨r2, rx, st⟩ := h1.mv p1.rel p1.sub f1 e2
        rw [hG] at rx
        exact ⟨G, Fb, A2, x, _, hG, r2.anti p1.sub, rx, e3, fun σ' H' p _ => q σ' H' ((p1.then r2 st).s.trans p)⟩
      · cases he
    · cases he
  · cases he
/-- a, b = x, y: two local names -/
def bPar (i j : Nat) (ea eb : EV) : BV := fun A => match ea A with
  | some (r1, A1) => match eb A1 with
    | some (r2, A2) => match res A2 r1 with
      | some (q1, A3) => match res A3 r2 with
        | some (q2, A4) => match putR i q1 A4 with
          | some A5 => match putR j q2 A5 with
            | some A6 => some (.nx, A6)
            | none => none
          | none => none
        | none => none
      | none => none
    | none => none
  | none => none
theorem simS_par {i j : Nat} {x y : Str} {a b : Expr} {ea eb : EV} {px py pt : Pos} {kt k2 pt2} (hc : X.calm = true) (hN : X.N.Nodup) (ha : SimE X a ea) (hb : SimE X b eb) (hi : X.N[i]? = some x := by rfl) (hj : X.N[j]? = some y := by rfl) (hij : i ≠ j := by decide)
    (hx : X.env.scope.names.lookup x = some .local := by rfl) (hy : X.env.scope.names.lookup y = some .local := by rfl) 
    (hw : swappedStores [.Tuple [.Name x px, .Name y py] kt pt] (.Tuple [a, b] k2 pt2) X.env = pure (some [x, y]) := by rfl)
    (hs : swapsWithSole [.Tuple [.Name x px, .Name y py] kt pt] (.Tuple [a, b] k2 pt2) pos.line X.env = pure false := by rfl)
    (s1 : starEach [a, b] X.env = (false, eval a X.env) :: starEach [b] X.env := by rfl) (s2 : starEach [b] X.env = (false, eval b X.env) :: starEach [] X.env := by rfl) :
    SimS X (.Assign [.Tuple [.Name x px, .Name y py] kt pt] (.Tuple [a, b] k2 pt2) pos) (bPar i j ea eb) := (ps_par hc hN hi hj hij hx hy (simA_cons ha (simA_cons hb simA_nil s2) s1) hw hs).weak fun D σ H h => by
  obtain ⟨G, Fb, A, f, A', hG, rel, he, q⟩ := h
  unfold bPar at he
  split at he
  · rename_i r1 A1 e1
    split at he
    · rename_i r2 A2 e2
      split at he
      · rename_i q1 A3 e3
        split at he
        · rename_i q2 A4 e4
          split at he
          · rename_i A5 e5
            split at he
            · rename_i A6 e6
              cases he
              refine ⟨G, Fb, A, [r1, r2], A2, hG, rel, by simp only [evCons, e1, e2, evNil], fun vs H1 Fb1 p h f => ?_⟩
              obtain ⟨v, us, rfl, h1, h2⟩ := h
              obtain ⟨w, us', rfl, h2, h3⟩ := h2
              rw [HVs] at h3
              subst h3
              obtain ⟨v', us2, e', f1, f2⟩ := f
              cases e'
              obtain ⟨w', us3, e', f2, _⟩ := f2
              cases e'
              refine ⟨v, w, rfl, ?_⟩
              obtain ⟨p3, h1', f1', st3⟩ := res_ok p h1 f1 e3
              have h2' := h2.carry p.rel (Post.still p3.rel st3)
              obtain ⟨p4, h2'', f2', st4⟩ := res_ok p3 h2' (f2.anti fun a s => .inl s) e4
              have h1'' := h1'.carry p3.rel (Post.still p4.rel st4)
              have f2w : FrOk G (AlsoR Fb q1 v) q2 w := by
                cases q2 with
                | fr x =>
                  have er2 := res_fr e4
                  subst er2
                  cases q1 with
                  | fr y1 =>
                    have er1 := res_fr e3
                    subst er1
                    exact f2
                  | d z => exact fun a ea => ⟨fun s => s.elim (fun s => (f2' a ea).1 s) (fun ⟨⟨x, e⟩, _⟩ => nomatch e), (f2' a ea).2⟩
                  | sl z => exact fun a ea => ⟨fun s => s.elim (fun s => (f2' a ea).1 s) (fun ⟨⟨x, e⟩, _⟩ => nomatch e), (f2' a ea).2⟩
                | d x => trivial
                | sl x => trivial
              have f1w : FrOk G (AlsoR Fb q2 w) q1 v := by
                cases q1 with
                | fr x =>
                  intro a ea
                  refine ⟨fun s => ?_, (f1' a ea).2⟩
                  rcases s with s | ⟨⟨y, ey⟩, s⟩
                  · exact (f1' a ea).1 s
                  · subst ey
                    exact (f2w a s).1 (.inr ⟨⟨x, rfl⟩, ea⟩)
                | _ => trivial
              obtain ⟨r5, o5⟩ := putR_rel p4.rel (h2''.frIn p4.sub) h1'' f1w e5
              have h2w : HV G (AlsoR Fb q2 w) A5 (σ.set i (some v)) H1 q2 w := by
                have sb : ∀ b, Busy (AlsoR Fb q2 w) A5 (σ.set i (some v)) b → Busy Fb1 A4 σ b := fun b s => by
                  rcases s with s | ⟨k, s⟩
                  · exact .inl (h2''.frIn p4.sub b s)
                  · rcases o5 k b s with z | z
                    · exact .inr ⟨k, z⟩
                    · exact .inl (h1''.frIn p4.sub b (.inr z))
                cases q2 with
                | fr x =>
                  obtain ⟨a, rfl, fa, ro⟩ := h2''
                  exact ⟨a, rfl, .inr ⟨⟨x, rfl⟩, rfl⟩, ro.anti p4.rel.busy sb⟩
                | d x => exact Rep.anti p4.rel.busy sb h2''
                | sl x =>
                  unfold putR at e6
                  split at e6 <;> cases e6
              obtain ⟨r6, o6⟩ := putR_rel r5 (fun _ s => .inl s) h2w f2' e6
              refine q _ _ ⟨fun _ s => s, fun _ s => .inl s, r6, p4.step.keep, p4.step.dom, fun k b o => ?_⟩
              have fin : ∀ {r : R} {u : V}, HV G Fb1 A4 σ H1 r u → FrOk G Fb r u → ((∃ x, r = .fr x) ∧ u = .ref b) → (∃ j, OwnAt A σ j b) ∨ H b = none := fun {r u} hv fo ⟨⟨x, er⟩, eu⟩ => by
                subst er
                obtain ⟨a, e2, fa, _⟩ := hv
                rw [eu] at e2; cases e2
                rcases p4.new b fa with y | y
                · exact absurd y (fo b eu).1
                · exact .inr y
              rcases o6 k b o with z | z
              · rcases o5 k b z with z | z
                · exact .inl ⟨k, p4.step.own z⟩
                · exact fin h1'' f1' z
              · exact fin h2'' f2' z
            · cases he
          · cases he
        · cases he
      · cases he
    · cases he
  · cases he
end
end Z
/-! Z6: if, loops, comprehensions. -/
namespace Z
open PySem PySem.Spec L2
open PyProof.Rows hiding St
section
variable {X : Cx} {c : Expr} {as bs : List Stmt} {ta : ET} {a b : BV} {pos : Pos} {st : Stmt}
theorem simS_if (hc : SimT X c ta) (ha : SimB X as a) (hb : SimB X bs b) : SimS X (.If c as bs pos) (bIf ta a b) := (ps_if hc ha hb).weak fun D σ H h => by
  obtain ⟨G, Fb, A, f, A', hG, rel, he, q⟩ := h
  unfold bIf at he
  split at he
  · rename_i A1 e1
    refine ⟨G, Fb, A, _, _, hG, rel, e1, fun H1 p => ?_⟩
    refine iteT ?_
    exact ⟨G, Fb, A1, f, A', hG, p.rel, he, q.pre p.s⟩
  · rename_i A1 e1
    refine ⟨G, Fb, A, _, _, hG, rel, e1, fun H1 p => ?_⟩
    refine iteF ?_
    exact ⟨G, Fb, A1, f, A', hG, p.rel, he, q.pre p.s⟩
  · cases he
theorem simS_never : SimS X st bNever := ps_never.weak fun D σ H h => by
  obtain ⟨G, Fb, A, f, A', hG, rel, he, q⟩ := h
  cases he
theorem simB_never {sts : List Stmt} : SimB X sts bNever := pss_never.weak fun D σ H h => by
  obtain ⟨G, Fb, A, f, A', hG, rel, he, q⟩ := h
  cases he
end

/-! ### what is walked -/
abbrev IV := SS → Option (List D × SS)
/-- an iterator gives these data while T stands -/
structure ItOk (C : Cfg) (J : It) (xs : List D) (T : Hp → (Addr → Prop) → Prop) : Prop where
  carry : ∀ {H H' S S'}, Carry H H' S S' → T H S → T H' S'
  go : ∀ {i x H S}, SOk H S → T H S → xs[i]? = some x → J.go i H ∧ ∀ v H', J.yld i H v H' → Ext H H' ∧ Rep C H' S x v
  stop : ∀ {i H S}, SOk H S → T H S → xs.length ≤ i → J.stop i H
def tIS (C : Cfg) (iv : IV) : TI := fun σ H R => ∃ G Fb A xs A', G.toCfg = C ∧ RelSt G Fb A σ H ∧ iv A = some (xs, A') ∧
  ∀ J T H', Post G Fb Fb A A' σ H H' → ItOk C J xs T → T H' (Busy Fb A' σ) → R J H'
abbrev SimI (X : Cx) (tg iter : Expr) (iv : IV) : Prop := PI X tg iter (tIS (cfg X) iv)
theorem _root_.L2.PI.weak {X : Cx} {tg e : Expr} {t u : TI} (h : PI X tg e t) (w : ∀ σ H Q, u σ H Q → t σ H Q) : PI X tg e u := ⟨fun pins s σ H Q I q => h.run pins s σ H Q I (w σ H Q q)⟩

def forL (g : GV) (body : BV) : List D → BV
  | [], A => some (.nx, A)
  | x :: xs, A => match g x A with
    | some A1 => match body A1 with
      | some (.nx, A2) => forL g body xs A2
      | some (.ct, A2) => forL g body xs A2
      | some (.bk, A2) => some (.nx, A2)
      | some (.rt r, A2) => some (.rt r, A2)
      | none => none
    | none => none
def bFor (iv : IV) (g : GV) (body : BV) : BV := fun A => match iv A with
  | some (xs, A1) => forL g body xs A1
  | none => none
def whileL (c : ET) (body : BV) : Nat → BV
  | 0, _ => none
  | n + 1, A => match c A with
    | some (false, A1) => some (.nx, A1)
    | some (true, A1) => match body A1 with
      | some (.nx, A2) => whileL c body n A2
      | some (.ct, A2) => whileL c body n A2
      | some (.bk, A2) => some (.nx, A2)
      | some (.rt r, A2) => some (.rt r, A2)
      | none => none
    | none => none
section
variable {X : Cx} {c tg iter : Expr} {body : List Stmt} {tc : ET} {bv : BV} {iv : IV} {g : GV} {pos : Pos} {vs : List Nat}
theorem simS_while (n : Nat) (hp : PassesOwn (model X.prog X.w) X.A X.env X.xe) (hc : SimT X c tc) (hb : SimB X body bv) : SimS X (.While c body [] pos) (whileL tc bv n) := (ps_while hp hc hb).weak fun D σ H h => by
  obtain ⟨G, Fb, A, f, A', hG, rel, he, q⟩ := h
  refine ⟨fun m σ' H' => ∃ A1, SPost G Fb Fb A A1 σ σ' H H' ∧ whileL tc bv m A1 = some (f, A'), ⟨n, A, .refl rel, he⟩, fun m σ1 H1 hw => ?_⟩
  obtain ⟨A1, p, e⟩ := hw
  cases m with
  | zero => cases e
  | succ m =>
    simp only [whileL] at e
    split at e
    · rename_i A2 e2
      cases e
      refine ⟨G, Fb, A1, _, _, hG, p.rel, e2, fun H2 p2 => ?_⟩
      refine iteF ?_
      exact q _ _ (p.trans p2.s)
    · rename_i A2 e2
      refine ⟨G, Fb, A1, _, _, hG, p.rel, e2, fun H2 p2 => ?_⟩
      refine iteT ?_
      refine ⟨fun σ' H' => ∃ A3, SPost G Fb Fb A A3 σ σ' H H' ∧ whileL tc bv m A3 = some (f, A'), fun σ' H' h => ⟨m, Nat.lt_succ_self m, h⟩, ?_⟩
      split at e
      · rename_i A3 e3
        exact ⟨G, Fb, A2, .nx, A3, hG, p2.rel, e3, fun σ3 H3 p3 => ⟨A3, (p.trans p2.s).trans p3, e⟩⟩
      · rename_i A3 e3
        exact ⟨G, Fb, A2, .ct, A3, hG, p2.rel, e3, fun σ3 H3 p3 => ⟨A3, (p.trans p2.s).trans p3, e⟩⟩
      · rename_i A3 e3
        cases e
        exact ⟨G, Fb, A2, .bk, _, hG, p2.rel, e3, fun σ3 H3 p3 => q _ _ ((p.trans p2.s).trans p3)⟩
      · rename_i r A3 e3
        cases e
        exact ⟨G, Fb, A2, .rt r, _, hG, p2.rel, e3, fun v σ3 H3 Fb3 p3 => q v _ _ _ ((p.trans p2.s).trans p3)⟩
      · cases e
    · cases e
theorem simS_for (hp : PassesOwn (model X.prog X.w) X.A X.env X.xe) (hc : X.calm = true) (hi : SimI X tg iter iv) (hg : SimG X tg vs g) (hb : SimB X body bv) (hs : ∀ x, foldedSetIterable iter X.env x = pure x := by intro _; rfl) :
    SimS X (.For tg iter body [] pos) (bFor iv g bv) := (ps_for hp hc hi hg hb hs).weak fun D σ H h => by
  obtain ⟨G, Fb, A, f, A', hG, rel, he, q⟩ := h
  unfold bFor at he
  split at he
  · rename_i xs A1 e1
    refine ⟨G, Fb, A, xs, A1, hG, rel, e1, fun J T H1 p1 ok t1 => ?_⟩
    refine ⟨fun i m σ' H' => m = xs.length - i ∧ i ≤ xs.length ∧ ∃ A2, SPost G Fb Fb A A2 σ σ' H H' ∧ T H' (Busy Fb A2 σ') ∧ forL g bv (xs.drop i) A2 = some (f, A'),
      ⟨xs.length, by simp, Nat.zero_le _, A1, p1.s, t1, he⟩, fun i m σ2 H2 hw => ?_⟩
    obtain ⟨rfl, hi, A2, p2, t2, e2⟩ := hw
    by_cases hl : i < xs.length
    · have gx : xs[i]? = some xs[i] := List.getElem?_eq_getElem hl
      obtain ⟨hgo, hy⟩ := ok.go p2.rel.busy t2 gx
      rw [List.drop_eq_getElem_cons hl] at e2
      simp only [forL] at e2
      refine .inr ⟨hgo, fun σ' H' => i + 1 ≤ xs.length ∧ ∃ A3, SPost G Fb Fb A A3 σ σ' H H' ∧ T H' (Busy Fb A3 σ') ∧ forL g bv (xs.drop (i + 1)) A3 = some (f, A'), fun σ' H' h => ⟨xs.length - (i + 1), by omega, rfl, h⟩, fun v H3 hv => ?_⟩
      obtain ⟨ext, rv⟩ := hy v H3 hv
      have p3 := Post.ext p2.rel ext
      have t3 := ok.carry (p3.carry p2.rel) t2
      split at e2
      · rename_i A3 e3
        refine ⟨G, Fb, A2, xs[i], A3, hG, p3.rel, rv, e3, fun σ4 H4 p4 _ => ?_⟩
        have t4 := ok.carry (p4.carry p3.rel) t3
        have p24 := (p2.trans p3.s).trans p4
        split at e2
        · rename_i A5 e5
          exact ⟨G, Fb, A3, .nx, A5, hG, p4.rel, e5, fun σ5 H5 p5 => ⟨hl, A5, p24.trans p5, ok.carry (p5.carry p4.rel) t4, e2⟩⟩
        · rename_i A5 e5
          exact ⟨G, Fb, A3, .ct, A5, hG, p4.rel, e5, fun σ5 H5 p5 => ⟨hl, A5, p24.trans p5, ok.carry (p5.carry p4.rel) t4, e2⟩⟩
        · rename_i A5 e5
          cases e2
          exact ⟨G, Fb, A3, .bk, _, hG, p4.rel, e5, fun σ5 H5 p5 => q _ _ (p24.trans p5)⟩
        · rename_i r A5 e5
          cases e2
          exact ⟨G, Fb, A3, .rt r, _, hG, p4.rel, e5, fun v5 σ5 H5 Fb5 p5 => q _ _ _ _ (p24.trans p5)⟩
        · cases e2
      · cases e2
    · have e0 : xs.drop i = [] := List.drop_eq_nil_iff.mpr (by omega)
      rw [e0] at e2
      simp only [forL] at e2
      cases e2
      exact .inl ⟨ok.stop p2.rel.busy t2 (by omega), q _ _ p2⟩
  · cases he
end

/-! ### what may be walked: lists, tuples, ranges -/
def seqD : D → Option (List D)
  | .lst xs => some xs
  | .tup xs => some xs
  | _ => none
/-- a list or tuple, kept by the walk -/
def ivList (ev : EV) : IV := fun A => match ev A with
  | some (r, A1) => match mv A1 r with
    | some (.lst xs, A2) => some (xs, A2)
    | _ => none
  | none => none
def ivTup (ev : EV) : IV := fun A => match ev A with
  | some (r, A1) => match mv A1 r with
    | some (.tup xs, A2) => some (xs, A2)
    | _ => none
  | none => none
theorem itOk_list {C : Cfg} {a : Addr} {xs : List D} : ItOk C (Itl C.K a) xs (fun H S => ∃ vs, ¬ S a ∧ HL H a vs ∧ Reps C H S xs vs) where
  carry := fun c ⟨vs, n, h, r⟩ => ⟨vs, c.ne n h.there, h.carry c n, Reps.carry c _ _ r⟩
  go := fun {i x H S} ok ⟨vs, n, h, r⟩ e => by
    obtain ⟨v, ev, rv⟩ := r.get e
    refine ⟨⟨vs, v, h.sql, ev⟩, fun u H' hy => ?_⟩
    obtain ⟨rfl, hu⟩ := hy
    have := hu vs h.sql
    rw [ev] at this; cases this
    exact ⟨.refl _, rv⟩
  stop := fun ok ⟨vs, n, h, r⟩ l => ⟨vs, h.sql, by rw [← r.length]; exact l⟩
theorem itOk_tup {C : Cfg} {a : Addr} {xs : List D} : ItOk C (Itt C.K a) xs (fun H S => ∃ vs, SqT C.K H a vs ∧ Reps C H S xs vs) where
  carry := fun c ⟨vs, h, r⟩ => ⟨vs, sqT_carry c h, Reps.carry c _ _ r⟩
  go := fun {i x H S} ok ⟨vs, h, r⟩ e => by
    obtain ⟨v, ev, rv⟩ := r.get e
    refine ⟨⟨vs, v, h, ev⟩, fun u H' hy => ?_⟩
    obtain ⟨rfl, hu⟩ := hy
    have := hu vs h
    rw [ev] at this; cases this
    exact ⟨.refl _, rv⟩
  stop := fun ok ⟨vs, h, r⟩ l => ⟨vs, h, by rw [← r.length]; exact l⟩
theorem itOk_range {C : Cfg} {lo : Int} {n : Nat} : ItOk C (Itr lo n) ((List.range n).map fun k => .int (lo + (k : Nat))) (fun _ _ => True) where
  carry := fun _ _ => trivial
  go := fun {i x H S} ok _ e => by
    rw [List.getElem?_map] at e
    cases q : (List.range n)[i]? with
    | none => rw [q] at e; cases e
    | some k =>
      rw [q] at e
      have hi : i < n := by
        have := (List.getElem?_eq_some_iff.mp q).1
        simpa using this
      have hk : k = i := by
        have := (List.getElem?_eq_some_iff.mp q).2
        simpa using this.symm
      subst hk
      cases e
      refine ⟨hi, fun u H' hy => ?_⟩
      obtain ⟨rfl, rfl⟩ := hy
      refine ⟨.refl _, ?_⟩
      rw [Rep]
  stop := fun _ _ l => by
    rw [List.length_map, List.length_range] at l
    exact l
section
variable {X : Cx} {tg e a b : Expr} {ev ea eb : EV} {pos p : Pos}
theorem simI_list (h : SimE X e ev) : SimI X tg e (ivList ev) := (pi_list h).weak fun σ H Q h => by
  obtain ⟨G, Fb, A, xs, A', hG, rel, he, q⟩ := h
  unfold ivList at he
  split at he
  · rename_i r A1 e1
    split at he
    · rename_i ys A2 e2
      cases he
      refine ⟨G, Fb, A, r, A1, hG, rel, e1, fun v H1 Fb1 p1 h1 f1 => ?_⟩
      obtain ⟨r2, rx, st⟩ := h1.mv p1.rel p1.sub f1 e2
      rw [hG] at rx
      rw [Rep] at rx
      obtain ⟨a, vs, rfl, n, hd, rs⟩ := rx
      refine ⟨a, rfl, ⟨vs, hd.sql⟩, q _ _ _ (p1.then r2 st) itOk_list ⟨vs, n, hd, rs⟩⟩
    · cases he
  · cases he
theorem simI_tup (h : SimE X e ev) : SimI X tg e (ivTup ev) := (pi_tup h).weak fun σ H Q h => by
  obtain ⟨G, Fb, A, xs, A', hG, rel, he, q⟩ := h
  unfold ivTup at he
  split at he
  · rename_i r A1 e1
    split at he
    · rename_i ys A2 e2
      cases he
      refine ⟨G, Fb, A, r, A1, hG, rel, e1, fun v H1 Fb1 p1 h1 f1 => ?_⟩
      obtain ⟨r2, rx, st⟩ := h1.mv p1.rel p1.sub f1 e2
      rw [hG] at rx
      rw [Rep] at rx
      obtain ⟨a, vs, rfl, hd, rs⟩ := rx
      refine ⟨a, rfl, ⟨vs, hd⟩, q _ _ _ (p1.then r2 st) itOk_tup ⟨vs, hd, rs⟩⟩
    · cases he
  · cases he
def rngD (lo hi : Int) : List D := (List.range (hi - lo).toNat).map fun k => .int (lo + (k : Nat))
def ivRng1 (ev : EV) : IV := fun A => match ev A with
  | some (r, A1) => match peek A1 r with
    | some (.int j) => if -(2 ^ 62) ≤ j ∧ j < 2 ^ 62 then some (rngD 0 j, A1) else none
    | _ => none
  | none => none
def ivRng2 (ea eb : EV) : IV := fun A => match ea A with
  | some (r1, A1) => match eb A1 with
    | some (r2, A2) => match peek A2 r1, peek A2 r2 with
      | some (.int i), some (.int j) => if -(2 ^ 62) ≤ i ∧ i < 2 ^ 62 ∧ -(2 ^ 62) ≤ j ∧ j < 2 ^ 62 then some (rngD i j, A2) else none
      | _, _ => none
    | none => none
  | none => none
theorem PRep.int {C : Cfg} {H : Hp} {S : Addr → Prop} {i : Int} {v : V} (h : PRep C H S (.int i) v) : v = .int i := by
  have h : Rep C H S (.int i) v := h
  rw [Rep] at h
  exact h
theorem simI_range1 (hg : Gl X "range") (hm : X.mg "range" = none) (ha : SimE X a ea) (hs : starEach [a] X.env = (false, eval a X.env) :: starEach [] X.env := by rfl) : SimI X tg (.Call (.Name "range" p) [a] [] pos) (ivRng1 ea) := (pi_range1 hg hm (simA_cons ha simA_nil hs) hs).weak fun σ H Q h => by
  obtain ⟨G, Fb, A, xs, A', hG, rel, he, q⟩ := h
  unfold ivRng1 at he
  split at he
  · rename_i r A1 e1
    split at he
    · rename_i j hj
      split at he
      · rename_i hb
        cases he
        refine ⟨G, Fb, A, [r], A', hG, rel, by simp only [evCons, e1, evNil], fun vs H1 Fb1 p1 h1 f1 => ?_⟩
        obtain ⟨v, us, rfl, h1, h2⟩ := h1
        rw [HVs] at h2; subst h2
        have hv := (h1.peek p1.rel hj).int
        subst hv
        have it := itOk_range (C := cfg X) (lo := 0) (n := j.toNat)
        have e0 : rngD 0 j = (List.range j.toNat).map fun k => .int (0 + (k : Nat)) := by unfold rngD; rw [Int.sub_zero]
        rw [e0] at q
        exact ⟨j, rfl, hb.1, hb.2, q _ _ _ (p1.then p1.rel (.refl _ _ _)) it trivial⟩
      · cases he
    · cases he
  · cases he
theorem simI_range2 (hg : Gl X "range") (hm : X.mg "range" = none) (ha : SimE X a ea) (hb : SimE X b eb) (hs : starEach [a, b] X.env = (false, eval a X.env) :: starEach [b] X.env := by rfl) (hs2 : starEach [b] X.env = (false, eval b X.env) :: starEach [] X.env := by rfl) :
    SimI X tg (.Call (.Name "range" p) [a, b] [] pos) (ivRng2 ea eb) := (pi_range2 hg hm (simA_cons ha (simA_cons hb simA_nil hs2) hs) (by rw [hs, hs2] <;> rfl) hs2).weak fun σ H Q h => by
  obtain ⟨G, Fb, A, xs, A', hG, rel, he, q⟩ := h
  unfold ivRng2 at he
  split at he
  · rename_i r1 A1 e1
    split at he
    · rename_i r2 A2 e2
      split at he
      · rename_i i j hi hj
        split at he
        · rename_i hb
          cases he
          refine ⟨G, Fb, A, [r1, r2], A', hG, rel, by simp only [evCons, e1, e2, evNil], fun vs H1 Fb1 p1 h f1 => ?_⟩
          obtain ⟨v, us, rfl, h1, h2⟩ := h
          obtain ⟨w, us2, rfl, h2, h3⟩ := h2
          rw [HVs] at h3; subst h3
          have hv := (h1.peek p1.rel hi).int
          have hw := (h2.peek p1.rel hj).int
          subst hv; subst hw
          exact ⟨i, j, rfl, hb, q _ _ _ (p1.then p1.rel (.refl _ _ _)) itOk_range trivial⟩
        · cases he
      · cases he
    · cases he
  · cases he
end
end Z
/-! Z7: list comprehensions. -/
namespace Z
open PySem PySem.Spec L2
open PyProof.Rows hiding St

def wipeA (A : SS) : List Nat → SS
  | [] => A
  | v :: vs => (wipeA A vs).set v .un
/-- the slots vs as they were in A0 -/
def backA (A0 A : SS) : List Nat → SS
  | [] => A
  | v :: vs => match A0[v]? with
    | some s => (backA A0 A vs).set v s
    | none => backA A0 A vs
theorem wipeA_len (A : SS) : ∀ vs, (wipeA A vs).length = A.length
  | [] => rfl
  | v :: vs => by rw [wipeA, List.length_set, wipeA_len A vs]
theorem wipeA_get (A : SS) : ∀ (vs : List Nat) (i : Nat), (wipeA A vs)[i]? = if i ∈ vs ∧ i < A.length then some .un else A[i]?
  | [], i => by simp [wipeA]
  | v :: vs, i => by
    rw [wipeA]
    by_cases hv : v < A.length
    · rw [get_set (by rw [wipeA_len]; exact hv)]
      by_cases z : i = v
      · subst z; rw [if_pos rfl, if_pos ⟨List.mem_cons_self, hv⟩]
      · rw [if_neg z, wipeA_get A vs i]
        have : (i ∈ v :: vs ∧ i < A.length) ↔ (i ∈ vs ∧ i < A.length) := by simp [z]
        simp only [this]
    · have e : (wipeA A vs).set v .un = wipeA A vs := by
        apply List.ext_getElem?
        intro j
        rw [List.getElem?_set]
        split
        · rename_i hj
          subst hj
          rw [wipeA_len] 
          rw [if_neg hv, List.getElem?_eq_none (by rw [wipeA_len]; omega)]
        · rfl
      rw [e, wipeA_get A vs i]
      by_cases z : i = v
      · subst z
        rw [if_neg (fun q => hv q.2), if_neg (fun q => hv q.2)]
      · have : (i ∈ v :: vs ∧ i < A.length) ↔ (i ∈ vs ∧ i < A.length) := by simp [z]
        simp only [this]
theorem backA_len (A0 A : SS) : ∀ vs, (backA A0 A vs).length = A.length
  | [] => rfl
  | v :: vs => by
    rw [backA]
    split
    · rw [List.length_set, backA_len A0 A vs]
    · exact backA_len A0 A vs
theorem backA_get {A0 A : SS} (hl : A0.length = A.length) : ∀ (vs : List Nat) (i : Nat), (backA A0 A vs)[i]? = if i ∈ vs then A0[i]? else A[i]?
  | [], i => by simp [backA]
  | v :: vs, i => by
    rw [backA]
    split
    · rename_i s hs
      have hv : v < A.length := by rw [← hl]; exact (List.getElem?_eq_some_iff.mp hs).1
      rw [get_set (by rw [backA_len]; exact hv)]
      by_cases z : i = v
      · subst z; rw [if_pos rfl, if_pos List.mem_cons_self, hs]
      · rw [if_neg z, backA_get hl vs i]
        have : (i ∈ v :: vs) ↔ (i ∈ vs) := by simp [z]
        simp only [this]
    · rename_i hs
      rw [backA_get hl vs i]
      by_cases z : i = v
      · subst z
        rw [if_pos List.mem_cons_self, hs]
        have : A[i]? = none := List.getElem?_eq_none (by rw [← hl]; exact List.getElem?_eq_none_iff.mp hs)
        rw [this]
        split <;> rfl
      · have : (i ∈ v :: vs) ↔ (i ∈ vs) := by simp [z]
        simp only [this]
theorem wipe_get (σ : St) : ∀ (vs : List Nat) (i : Nat), (wipe σ vs)[i]? = if i ∈ vs ∧ i < σ.length then some none else σ[i]?
  | [], i => by simp [wipe]
  | v :: vs, i => by
    rw [wipe]
    by_cases hv : v < σ.length
    · rw [get_set (by rw [wipe_length]; exact hv)]
      by_cases z : i = v
      · subst z; rw [if_pos rfl, if_pos ⟨List.mem_cons_self, hv⟩]
      · rw [if_neg z, wipe_get σ vs i]
        have : (i ∈ v :: vs ∧ i < σ.length) ↔ (i ∈ vs ∧ i < σ.length) := by simp [z]
        simp only [this]
    · have e : (wipe σ vs).set v none = wipe σ vs := by
        apply List.ext_getElem?
        intro j
        rw [List.getElem?_set]
        split
        · rename_i hj
          subst hj
          rw [wipe_length]
          rw [if_neg hv, List.getElem?_eq_none (by rw [wipe_length]; omega)]
        · rfl
      rw [e, wipe_get σ vs i]
      by_cases z : i = v
      · subst z
        rw [if_neg (fun q => hv q.2), if_neg (fun q => hv q.2)]
      · have : (i ∈ v :: vs ∧ i < σ.length) ↔ (i ∈ vs ∧ i < σ.length) := by simp [z]
        simp only [this]
/-- a block's slots: nothing that was handed in to be changed -/
def noIo (A : SS) (vs : List Nat) : Bool := vs.all fun v => match A[v]? with
  | some (.io _) => false
  | _ => true
theorem noIo_of {A : SS} {vs : List Nat} (h : noIo A vs = true) {v : Nat} {d : D} (hv : v ∈ vs) : A[v]? ≠ some (.io d) := fun e => by
  have := List.all_eq_true.mp h v hv
  rw [e] at this
  cases this
section
variable {G : Gh} {Fb Fb' : Addr → Prop} {A A' : SS} {σ σ' : St} {H H' : Hp}
/-- forbidden within a block -/
def FbIn (Fb : Addr → Prop) (A : SS) (σ : St) (vs : List Nat) (a : Addr) : Prop := Fb a ∨ ∃ v, v ∈ vs ∧ OwnAt A σ v a
theorem own_wipe {vs : List Nat} {i : Nat} {a : Addr} (hl : A.length = σ.length) (o : OwnAt (wipeA A vs) (wipe σ vs) i a) : OwnAt A σ i a ∧ i ∉ vs := by
  obtain ⟨⟨s, e, z⟩, e2⟩ := o
  rw [wipeA_get] at e
  rw [wipe_get] at e2
  by_cases q : i ∈ vs ∧ i < A.length
  · rw [if_pos q] at e; cases e; cases z
  · rw [if_neg q] at e
    have q2 : ¬ (i ∈ vs ∧ i < σ.length) := by rw [← hl]; exact q
    rw [if_neg q2] at e2
    refine ⟨⟨⟨s, e, z⟩, e2⟩, fun hv => q ⟨hv, (List.getElem?_eq_some_iff.mp e).1⟩⟩
theorem RelSt.wipe (rel : RelSt G Fb A σ H) {vs : List Nat} (ni : noIo A vs = true) : RelSt G (FbIn Fb A σ vs) (wipeA A vs) (L2.wipe σ vs) H := by
  have hl := rel.len
  have sub : ∀ a, Busy (FbIn Fb A σ vs) (wipeA A vs) (L2.wipe σ vs) a → Busy Fb A σ a := fun a s => by
    rcases s with (s | ⟨v, _, o⟩) | ⟨i, o⟩
    · exact .inl s
    · exact .inr ⟨v, o⟩
    · exact .inr ⟨i, (own_wipe hl o).1⟩
  have back : ∀ {i : Nat} {s : SV}, s ≠ .un → (wipeA A vs)[i]? = some s → A[i]? = some s ∧ i ∉ vs := fun {i s} ns e => by
    rw [wipeA_get] at e
    by_cases q : i ∈ vs ∧ i < A.length
    · rw [if_pos q] at e; cases e; exact absurd rfl ns
    · rw [if_neg q] at e
      exact ⟨e, fun hv => q ⟨hv, (List.getElem?_eq_some_iff.mp e).1⟩⟩
  have σb : ∀ {i : Nat}, i ∉ vs → (L2.wipe σ vs)[i]? = σ[i]? := fun {i} hv => by
    rw [wipe_get, if_neg (fun q => hv q.1)]
  have nf : ∀ {i : Nat} {a : Addr}, i ∉ vs → OwnAt A σ i a → ¬ Fb a → ¬ FbIn Fb A σ vs a := fun {i a} hv o n s => by
    rcases s with s | ⟨v, hm, o'⟩
    · exact n s
    · have := rel.inj i v a o o'
      subst this
      exact hv hm
  refine ⟨by rw [wipeA_len, wipe_length]; exact hl, fun a s => ?_, fun i d e => ?_, fun i d e => ?_, fun i d e => ?_, fun i j a o1 o2 => rel.inj i j a (own_wipe hl o1).1 (own_wipe hl o2).1, rel.ent, fun i a hi => ?_⟩
  · rcases s with s | ⟨v, _, o⟩
    · exact rel.fb a s
    · obtain ⟨d, _, r, _⟩ := rel.ownO o
      exact r.mut
  · obtain ⟨e1, hv⟩ := back (s := .val d) (fun z => nomatch z) e
    obtain ⟨v, e2, r⟩ := rel.val i d e1
    exact ⟨v, by rw [σb hv]; exact e2, r.anti rel.busy sub⟩
  · obtain ⟨e1, hv⟩ := back (s := .own d) (fun z => nomatch z) e
    obtain ⟨v, e2, r, n, z⟩ := rel.own i d e1
    exact ⟨v, by rw [σb hv]; exact e2, r.anti rel.busy sub, nf hv ⟨⟨_, e1, rfl⟩, e2⟩ n, z⟩
  · obtain ⟨e1, hv⟩ := back (s := .io d) (fun z => nomatch z) e
    obtain ⟨v, e2, r, n, z⟩ := rel.ioo i d e1
    exact ⟨v, by rw [σb hv]; exact e2, r.anti rel.busy sub, nf hv ⟨⟨_, e1, rfl⟩, e2⟩ n, z⟩
  · obtain ⟨⟨d, e⟩, e2, e3⟩ := rel.ios i a hi
    have hv : i ∉ vs := fun hv => noIo_of ni hv e
    refine ⟨⟨d, ?_⟩, by rw [σb hv]; exact e2, e3⟩
    rw [wipeA_get, if_neg (fun q => hv q.1)]
    exact e
/-- out of a block again: A0, H0 as they were ahead of it, D a thing that was made meanwhile -/
theorem RelSt.unwipe {A0 : SS} {H0 : Hp} {D : Addr} {vs : List Nat} {Fi : Addr → Prop} (rel0 : RelSt G Fb A0 σ H0) (ni : noIo A0 vs = true) (rel : RelSt G Fi A' (L2.wipe σ vs) H)
    (fi : ∀ a, FbIn (Also Fb D) A0 σ vs a → Fi a) (hD : H0 D = none)
    (un : ∀ i, i ∈ vs → ∀ s, A'[i]? = some s → s = .un) (io : ∀ i, i ∉ vs → ∀ d, A0[i]? = some (.io d) → ∃ d', A'[i]? = some (.io d'))
    (keep : ∀ a o, H0 a = some o → (∀ i, ¬ (i ∉ vs ∧ OwnAt A0 σ i a)) → H a = some o)
    (own : ∀ i a, OwnAt A' (L2.wipe σ vs) i a → (∃ j, j ∉ vs ∧ OwnAt A0 σ j a) ∨ H0 a = none) :
    RelSt G (Also Fb D) (backA A0 A' vs) σ H ∧ ∀ a, Busy (Also Fb D) (backA A0 A' vs) σ a → Busy Fi A' (L2.wipe σ vs) a := by
  have hl0 := rel0.len
  have hl : A0.length = A'.length := by rw [hl0, rel.len, wipe_length]
  have get := backA_get hl vs
  have σb : ∀ {i : Nat}, i ∉ vs → (L2.wipe σ vs)[i]? = σ[i]? := fun {i} hv => by
    rw [wipe_get, if_neg (fun q => hv q.1)]
  have ow : ∀ i a, OwnAt (backA A0 A' vs) σ i a → (i ∈ vs ∧ OwnAt A0 σ i a) ∨ (i ∉ vs ∧ OwnAt A' (L2.wipe σ vs) i a) := fun i a ⟨⟨s, e, z⟩, e2⟩ => by
    rw [get] at e
    by_cases hv : i ∈ vs
    · rw [if_pos hv] at e; exact .inl ⟨hv, ⟨s, e, z⟩, e2⟩
    · rw [if_neg hv] at e; exact .inr ⟨hv, ⟨s, e, z⟩, by rw [σb hv]; exact e2⟩
  have sub : ∀ a, Busy (Also Fb D) (backA A0 A' vs) σ a → Busy Fi A' (L2.wipe σ vs) a := fun a s => by
    rcases s with s | ⟨i, o⟩
    · exact .inl (fi a (.inl s))
    · rcases ow i a o with ⟨hv, o⟩ | ⟨hv, o⟩
      · exact .inl (fi a (.inr ⟨i, hv, o⟩))
      · exact .inr ⟨i, o⟩
  have c : Carry H0 H (Busy Fb A0 σ) (Busy (Also Fb D) (backA A0 A' vs) σ) := by
    refine ⟨rel0.busy, fun a o e n => keep a o e fun i h => n (.inr ⟨i, h.2⟩), fun a s => ?_⟩
    rcases s with (s | s) | ⟨i, o⟩
    · exact .inl (.inl s)
    · subst s; exact .inr hD
    · rcases ow i a o with ⟨hv, o⟩ | ⟨hv, o⟩
      · exact .inl (.inr ⟨i, o⟩)
      · rcases own i a o with ⟨j, _, z⟩ | z
        · exact .inl (.inr ⟨j, z⟩)
        · exact .inr z
  have kept : ∀ {i : Nat} {a : Addr}, i ∈ vs → OwnAt A0 σ i a → ∀ o, H0 a = some o → H a = some o := fun {i a} hv o u e => keep a u e fun j ⟨hj, oj⟩ => by
    have := rel0.inj i j a o oj
    subst this
    exact hj hv
  have nD : ∀ {i : Nat} {a : Addr}, OwnAt A0 σ i a → a ≠ D := fun {i a} o z => by
    obtain ⟨d, _, r, _⟩ := rel0.ownO o
    obtain ⟨u, e, _⟩ := r.mut
    rw [z, hD] at e; cases e
  have nFi : ∀ {i : Nat} {a : Addr}, OwnAt A' (L2.wipe σ vs) i a → ¬ Fi a := fun {i a} o => by
    obtain ⟨_, _, _, n⟩ := rel.ownO o
    exact n
  refine ⟨⟨by rw [backA_len, ← hl]; exact hl0, fun a s => rel.fb a (fi a (.inl s)), fun i d e => ?_, fun i d e => ?_, fun i d e => ?_, fun i j a o1 o2 => ?_, rel.ent, fun i a hi => ?_⟩, sub⟩
  · rw [get] at e
    by_cases hv : i ∈ vs
    · rw [if_pos hv] at e
      obtain ⟨v, e2, r⟩ := rel0.val i d e
      exact ⟨v, e2, r.carry c⟩
    · rw [if_neg hv] at e
      obtain ⟨v, e2, r⟩ := rel.val i d e
      exact ⟨v, by rw [← σb hv]; exact e2, r.anti rel.busy sub⟩
  · rw [get] at e
    by_cases hv : i ∈ vs
    · rw [if_pos hv] at e
      obtain ⟨v, e2, r, n, z⟩ := rel0.own i d e
      exact ⟨v, e2, r.carry c (kept hv ⟨⟨_, e, rfl⟩, e2⟩), fun s => s.elim n (nD ⟨⟨_, e, rfl⟩, e2⟩), z⟩
    · rw [if_neg hv] at e
      obtain ⟨v, e2, r, n, z⟩ := rel.own i d e
      exact ⟨v, by rw [← σb hv]; exact e2, r.anti rel.busy sub, fun s => n (fi _ (.inl s)), z⟩
  · rw [get] at e
    by_cases hv : i ∈ vs
    · rw [if_pos hv] at e
      exact absurd e (noIo_of ni hv)
    · rw [if_neg hv] at e
      obtain ⟨v, e2, r, n, z⟩ := rel.ioo i d e
      exact ⟨v, by rw [← σb hv]; exact e2, r.anti rel.busy sub, fun s => n (fi _ (.inl s)), z⟩
  · rcases ow i a o1 with ⟨h1, o1⟩ | ⟨h1, o1⟩
    · rcases ow j a o2 with ⟨h2, o2⟩ | ⟨h2, o2⟩
      · exact rel0.inj i j a o1 o2
      · exact absurd (fi a (.inr ⟨i, h1, o1⟩)) (nFi o2)
    · rcases ow j a o2 with ⟨h2, o2⟩ | ⟨h2, o2⟩
      · exact absurd (fi a (.inr ⟨j, h2, o2⟩)) (nFi o1)
      · exact rel.inj i j a o1 o2
  · obtain ⟨⟨d, e⟩, e2, e3⟩ := rel.ios i a hi
    have hv : i ∉ vs := fun hv => by cases un i hv _ e
    refine ⟨⟨d, ?_⟩, by rw [← σb hv]; exact e2, e3⟩
    rw [get, if_neg hv]
    exact e
end

/-- the turns of a comprehension -/
def lcL (g : GV) (t : ET) (e : EV) (vs : List Nat) : List D → SS → Option (List D × SS)
  | [], A => some ([], A)
  | x :: xs, A => match g x A with
    | some A1 => match t A1 with
      | some (false, A2) => lcL g t e vs xs (wipeA A2 vs)
      | some (true, A2) => match e A2 with
        | some (r, A3) => match mv A3 r with
          | some (y, A4) => match lcL g t e vs xs (wipeA A4 vs) with
            | some (ys, A5) => some (y :: ys, A5)
            | none => none
          | none => none
        | none => none
      | none => none
    | none => none
def evLc (iv : IV) (g : GV) (t : ET) (e : EV) (vs : List Nat) : EV := fun A => match iv A with
  | some (xs, A1) => if xs.length ≤ LIM ∧ noIo A1 vs = true then
      match lcL g t e vs xs (wipeA A1 vs) with
      | some (ys, A2) => some (.fr (.lst ys), backA A1 A2 vs)
      | none => none
    else none
  | none => none
def tYesA : ET := fun A => some (true, A)
theorem wipe_eq {σ σ' : St} {vs : List Nat} (hl : σ'.length = σ.length) (h : ∀ i, i ∉ vs → σ'[i]? = σ[i]?) : L2.wipe σ' vs = L2.wipe σ vs := by
  apply List.ext_getElem?
  intro i
  rw [wipe_get, wipe_get, hl]
  split
  · rfl
  · rename_i q
    by_cases hv : i ∈ vs
    · have : ¬ i < σ.length := fun z => q ⟨hv, z⟩
      rw [List.getElem?_eq_none (by rw [hl]; omega), List.getElem?_eq_none (by omega)]
    · exact h i hv
theorem wipe_wipe (σ : St) (vs : List Nat) : L2.wipe (L2.wipe σ vs) vs = L2.wipe σ vs := wipe_eq (wipe_length _ _) fun i hv => by rw [wipe_get, if_neg fun q => hv q.1]
/-- between two turns: from the block's beginning (Ai, H1) to here -/
structure Blk (G : Gh) (Fi : Addr → Prop) (vs : List Nat) (Ai A : SS) (σi : St) (H1 H : Hp) : Prop where
  rel : RelSt G Fi A σi H
  keep : ∀ a o, H1 a = some o → ¬ Fi a → (∀ i, ¬ OwnAt Ai σi i a) → H a = some o
  keepF : ∀ a o, H1 a = some o → Fi a → H a = some o
  dom : ∀ a, H1 a ≠ none → H a ≠ none
  mono : ∀ i : Nat, SStep Ai[i]? A[i]?
theorem Blk.own {G : Gh} {Fi : Addr → Prop} {vs : List Nat} {Ai A : SS} {σi : St} {H1 H : Hp} (b : Blk G Fi vs Ai A σi H1 H) {i : Nat} {a : Addr} (o : OwnAt A σi i a) : OwnAt Ai σi i a := by
  obtain ⟨⟨t, e, z⟩, e2⟩ := o
  obtain ⟨u, e3, z3⟩ := (b.mono i).own e z
  exact ⟨⟨u, e3, z3⟩, e2⟩
/-- a turn's way, and the block's names forgotten again -/
theorem Blk.turn {G : Gh} {Fi : Addr → Prop} {vs : List Nat} {Ai A A' : SS} {σi σ' : St} {H1 H H' : Hp} (b : Blk G Fi vs Ai A σi H1 H) (hw : L2.wipe σi vs = σi) (p : SPost G Fi Fi A A' σi σ' H H') (hσ : L2.wipe σ' vs = σi)
    (hm : ∀ i : Nat, i ∉ vs → SStep A[i]? A'[i]?) (hu : ∀ i : Nat, i ∈ vs → ∀ s, Ai[i]? = some s → s = .un) (ni : noIo A' vs = true) :
    Blk G Fi vs Ai (wipeA A' vs) σi H1 H' := by
  have hl' := p.rel.len
  have r := p.rel.wipe (vs := vs) ni
  rw [hσ] at r
  have hlen : A'.length = A.length := by
    have h1 := b.rel.len
    have h2 : (L2.wipe σ' vs).length = σ'.length := wipe_length _ _
    rw [hσ] at h2
    omega
  have nOwn : ∀ {a : Addr}, Fi a → ∀ i, ¬ OwnAt A σi i a := fun {a} f i o => by
    obtain ⟨_, _, _, n⟩ := b.rel.ownO o
    exact n f
  refine ⟨r.anti fun a s => .inl s, fun a o e n k => p.keep a o (b.keep a o e n k) fun i w => k i (b.own w), fun a o e f => p.keep a o (b.keepF a o e f) (nOwn f), fun a e => p.dom a (b.dom a e), fun i => ?_⟩
  rw [wipeA_get]
  by_cases q : i ∈ vs ∧ i < A'.length
  · rw [if_pos q]
    have hi : i < Ai.length := by
      have m := b.mono i
      cases e : Ai[i]? with
      | none =>
        rw [e] at m
        have : i < A.length := by omega
        rw [List.getElem?_eq_getElem this] at m
        exact m.elim
      | some s => exact (List.getElem?_eq_some_iff.mp e).1
    rw [List.getElem?_eq_getElem hi, hu i q.1 _ (List.getElem?_eq_getElem hi)]
    trivial
  · rw [if_neg q]
    by_cases hv : i ∈ vs
    · have h1 : ¬ i < A'.length := fun z => q ⟨hv, z⟩
      have m := b.mono i
      rw [List.getElem?_eq_none (l := A) (by omega)] at m
      rw [List.getElem?_eq_none (l := A') (by omega)]
      exact m
    · exact (b.mono i).trans (hm i hv)

theorem noIo_rel {G : Gh} {Fb : Addr → Prop} {A : SS} {σ : St} {H : Hp} {vs : List Nat} (rel : RelSt G Fb A σ H) (h : ∀ v, v ∈ vs → ∀ a, (v, a) ∉ G.io) : noIo A vs = true := by
  unfold noIo
  rw [List.all_eq_true]
  intro v hv
  split
  · rename_i d e
    obtain ⟨a, _, _, _, z⟩ := rel.ioo v d e
    exact absurd z (h v hv a)
  · rfl
theorem io_no {G : Gh} {Fb : Addr → Prop} {A : SS} {σ : St} {H : Hp} {vs : List Nat} (rel : RelSt G Fb A σ H) (ni : noIo A vs = true) : ∀ v, v ∈ vs → ∀ a, (v, a) ∉ G.io := fun v hv a hi => by
  obtain ⟨⟨d, e⟩, _⟩ := rel.ios v a hi
  exact noIo_of ni hv e
/-- a forbidden thing is rewritten -/
theorem carry_updF {G : Gh} {Fb : Addr → Prop} {A : SS} {σ : St} {H : Hp} {D : Addr} {o : HO} (rel : RelSt G Fb A σ H) (f : Fb D) : Carry H (upd H D o) (Busy Fb A σ) (Busy Fb A σ) :=
  ⟨rel.busy, fun a u e n => by rw [upd_ne (fun z => n (by rw [z]; exact .inl f))]; exact e, fun _ s => .inl s⟩
theorem RelSt.updF {G : Gh} {Fb : Addr → Prop} {A : SS} {σ : St} {H : Hp} {D : Addr} {o : HO} (rel : RelSt G Fb A σ H) (f : Fb D) (h0 : G.H0 D = none) (m : MutO o) : RelSt G Fb A σ (upd H D o) := by
  have c := carry_updF (o := o) rel f
  have k : ∀ {i : Nat} {a : Addr}, OwnAt A σ i a → ∀ u, H a = some u → upd H D o a = some u := fun {i a} w u e => by
    obtain ⟨_, _, _, n⟩ := rel.ownO w
    rw [upd_ne (fun z => n (by rw [z]; exact f))]
    exact e
  refine ⟨rel.len, fun a s => ?_, fun i d e => ?_, fun i d e => ?_, fun i d e => ?_, rel.inj, fun a u e n => ?_, rel.ios⟩
  · by_cases z : a = D
    · subst z; exact ⟨o, upd_same, m⟩
    · obtain ⟨u, e, mu⟩ := rel.fb a s
      exact ⟨u, by rw [upd_ne z]; exact e, mu⟩
  · obtain ⟨v, e1, r⟩ := rel.val i d e
    exact ⟨v, e1, r.carry c⟩
  · obtain ⟨v, e1, r, n, z⟩ := rel.own i d e
    exact ⟨v, e1, r.carry c (k ⟨⟨_, e, rfl⟩, e1⟩), n, z⟩
  · obtain ⟨v, e1, r, n, z⟩ := rel.ioo i d e
    exact ⟨v, e1, r.carry c (k ⟨⟨_, e, rfl⟩, e1⟩), n, z⟩
  · rw [upd_ne (fun z => by rw [z, h0] at e; cases e)]
    exact rel.ent a u e n

theorem Blk.upd {G : Gh} {Fi : Addr → Prop} {vs : List Nat} {Ai A : SS} {σi : St} {H1 H : Hp} {D : Addr} {o : HO} (b : Blk G Fi vs Ai A σi H1 H) (nD : H1 D = none) (f : Fi D) (h0 : G.H0 D = none) (m : MutO o) : Blk G Fi vs Ai A σi H1 (upd H D o) := by
  have ne : ∀ {a : Addr} {u : HO}, H1 a = some u → a ≠ D := fun {a u} e z => by rw [z, nD] at e; cases e
  exact ⟨b.rel.updF f h0 m, fun a u e n k => by rw [upd_ne (ne e)]; exact b.keep a u e n k, fun a u e fa => by rw [upd_ne (ne e)]; exact b.keepF a u e fa, fun a e => by
    by_cases z : a = D
    · subst z; rw [upd_same]; exact fun y => nomatch y
    · rw [upd_ne z]; exact b.dom a e, b.mono⟩
section
variable {X : Cx} {elt tg iter : Expr} {ifs : List Expr} {scope : Scope} {own : List (Str × Nat)} {pos : Pos} {iv : IV} {g : GV} {t : ET} {e : EV} {ws : List Nat}
theorem lc_weak {σ : St} {H : Hp} {Q : VK} {C : Cfg} {vs : List Nat} (hws : ∀ i, i ∈ ws → i ∈ vs) (h : tS C (evLc iv g t e vs) σ H Q) : tLc (tIS C iv) (tSG C ws g) (tST C t) (tS C e) vs σ H Q := by
  obtain ⟨G, Fb, A, r, A', hG, rel, he, q⟩ := h
  subst hG
  unfold evLc at he
  split at he
  · rename_i xs A1 e1
    split at he
    · rename_i hz
      obtain ⟨hz, ni⟩ := hz
      split at he
      · rename_i ys A2 e2
        cases he
        refine ⟨G, Fb, A, xs, A1, rfl, rel, e1, fun J T H1 p1 okJ t1 => fun D nD => ?_⟩
        have rel1 := p1.rel
        have rD := (rel1.laidF (.lst []) nD trivial).wipe ni
        have hio := io_no rel1 ni
        have hl1 := rel1.len
        have σw := wipe_wipe σ vs
        generalize hAi : wipeA A1 vs = Ai at rD e2
        generalize hσi : L2.wipe σ vs = σi at rD σw
        generalize hFi : FbIn (Also Fb D) A1 σ vs = Fi at rD
        have fD : Fi D := by rw [← hFi]; exact .inl (.inr rfl)
        have h0D : G.H0 D = none := rel1.entNone nD
        have unAi : ∀ i : Nat, i ∈ vs → ∀ s, Ai[i]? = some s → s = .un := fun i hv s es => by
          rw [← hAi, wipeA_get] at es
          by_cases z : i ∈ vs ∧ i < A1.length
          · rw [if_pos z] at es; cases es; rfl
          · rw [if_neg z] at es
            exact absurd ⟨hv, (List.getElem?_eq_some_iff.mp es).1⟩ z
        have outAi : ∀ i : Nat, i ∉ vs → Ai[i]? = A1[i]? := fun i hv => by rw [← hAi, wipeA_get, if_neg (fun z => hv z.1)]
        have outσ : ∀ i : Nat, i ∉ vs → σi[i]? = σ[i]? := fun i hv => by rw [← hσi, wipe_get, if_neg (fun z => hv z.1)]
        have ownAi : ∀ {i : Nat} {a : Addr}, OwnAt Ai σi i a → OwnAt A1 σ i a ∧ i ∉ vs := fun {i a} o => by
          rw [← hAi, ← hσi] at o
          exact own_wipe hl1 o
        have cD : Carry H1 (upd H1 D (.lst [])) (Busy Fb A1 σ) (Busy Fi Ai σi) := ⟨rel1.busy, fun a o ea _ => Ext.new nD a o ea, fun a s => by
          rcases s with s | ⟨i, o⟩
          · rw [← hFi] at s
            rcases s with (s | s) | ⟨v, _, o⟩
            · exact .inl (.inl s)
            · subst s; exact .inr nD
            · exact .inl (.inr ⟨v, o⟩)
          · exact .inl (.inr ⟨i, (ownAi o).1⟩)⟩
        have b0 : Blk G Fi vs Ai Ai σi H1 (upd H1 D (.lst [])) := ⟨rD, fun a o ea _ _ => Ext.new nD a o ea, fun a o ea _ => Ext.new nD a o ea, fun a ea => (Ext.new nD).dom a ea, fun _ => SStep.refl _⟩
        refine ⟨fun i m H' => m = xs.length - i ∧ i ≤ xs.length ∧ ∃ B acc vacc zs, Blk G Fi vs Ai B σi H1 H' ∧ H' D = some (.lst vacc) ∧ Reps G.toCfg H' (Busy Fi B σi) acc vacc ∧ acc.length ≤ i ∧ lcL g t e vs (xs.drop i) B = some (zs, A2) ∧ acc ++ zs = ys ∧ T H' (Busy Fi B σi),
          ⟨xs.length, by simp, Nat.zero_le _, Ai, [], [], ys, b0, upd_same, .nil, Nat.le_refl _, e2, rfl, okJ.carry cD t1⟩, fun i m H2 hw => ?_⟩
        obtain ⟨rfl, hi, B, acc, vacc, zs, blk, hD, racc, lacc, eL, eacc, tB⟩ := hw
        by_cases hl : i < xs.length
        · have gx : xs[i]? = some xs[i] := List.getElem?_eq_getElem hl
          obtain ⟨hgo, hy⟩ := okJ.go blk.rel.busy tB gx
          rw [List.drop_eq_getElem_cons hl] at eL
          simp only [lcL] at eL
          refine .inr ⟨hgo, fun H' => i + 1 ≤ xs.length ∧ ∃ B acc vacc zs, Blk G Fi vs Ai B σi H1 H' ∧ H' D = some (.lst vacc) ∧ Reps G.toCfg H' (Busy Fi B σi) acc vacc ∧ acc.length ≤ i + 1 ∧ lcL g t e vs (xs.drop (i + 1)) B = some (zs, A2) ∧ acc ++ zs = ys ∧ T H' (Busy Fi B σi), fun H' h => ⟨xs.length - (i + 1), by omega, rfl, h⟩, fun v H3 hv => ?_⟩
          obtain ⟨ext, rv⟩ := hy v H3 hv
          have p3 := Post.ext blk.rel ext
          split at eL
          · rename_i A3 e3
            refine ⟨G, Fi, B, xs[i], A3, rfl, p3.rel, rv, e3, fun σ4 H4 p4 o4 => ?_⟩
            have hσ4 : L2.wipe σ4 vs = σi := (wipe_eq o4.len fun j hj => (o4.out j fun z => hj (hws j z)).1).trans σw
            refine ⟨hσ4, ?_⟩
            have sg : SPost G Fi Fi B A3 σi σ4 H2 H4 := p3.s.trans p4
            have mg : ∀ j : Nat, j ∉ vs → SStep B[j]? A3[j]? := fun j hj => by
              rw [(o4.out j fun z => hj (hws j z)).2]
              exact SStep.refl _
            have tg : T H4 (Busy Fi A3 σ4) := okJ.carry (sg.carry blk.rel) tB
            have kD : ∀ {K : Hp} {B' : SS} {σ' : St}, SPost G Fi Fi B B' σi σ' H2 K → K D = some (.lst vacc) := fun {K B' σ'} p => p.keep D _ hD fun j o => by
              obtain ⟨_, _, _, n⟩ := blk.rel.ownO o
              exact n fD
            have kA : ∀ {K : Hp} {B' : SS} {σ' : St}, SPost G Fi Fi B B' σi σ' H2 K → Reps G.toCfg K (Busy Fi B' σ') acc vacc := fun {K B' σ'} p => Reps.carry (p.carry blk.rel) _ _ racc
            -- behind a turn: the names forgotten
            have wsub : ∀ {B' : SS} {σ' : St}, B'.length = σ'.length → L2.wipe σ' vs = σi → ∀ a, Busy Fi (wipeA B' vs) σi a → Busy Fi B' σ' a := fun {B' σ'} hl hσ a s => s.imp id fun ⟨j, o⟩ => ⟨j, by
              rw [← hσ] at o
              exact (own_wipe hl o).1⟩
            split at eL
            · rename_i A4 e4
              refine ⟨G, Fi, A3, false, A4, rfl, p4.rel, e4, fun H5 p5 => ?_⟩
              refine iteF ?_
              have p := sg.trans p5.s
              have bt := blk.turn σw p hσ4 (fun j hj => (mg j hj).trans (p5.step.mono j)) unAi (noIo_rel p5.rel hio)
              have cw := wsub p5.rel.len hσ4
              refine ⟨hl, wipeA A4 vs, acc, vacc, zs, bt, kD p, (kA p).anti p5.rel.busy cw, Nat.le_succ_of_le lacc, eL, eacc, ?_⟩
              exact okJ.carry ⟨p5.rel.busy, fun _ _ e _ => e, fun a s => .inl (cw a s)⟩ (okJ.carry (p5.carry p4.rel) tg)
            · rename_i A4 e4
              split at eL
              · rename_i r A5 e5
                split at eL
                · rename_i y A6 e6
                  split at eL
                  · rename_i ys' A7 e7
                    cases eL
                    refine ⟨G, Fi, A3, true, A4, rfl, p4.rel, e4, fun H5 p5 => ?_⟩
                    refine iteT ?_
                    refine ⟨G, Fi, A4, r, A5, rfl, p5.rel, e5, fun v6 H6 Fb6 p6 h6 f6 => ?_⟩
                    obtain ⟨r6, q6, st6⟩ := h6.mv p6.rel p6.sub f6 e6
                    have p46 := p6.then r6 st6
                    have p := (sg.trans p5.s).trans p46.s
                    have hl6 : acc.length < sizeLine := by
                      rw [← lim_line]
                      omega
                    refine ⟨vacc, kD p, by rw [← (kA p).length]; exact hl6, ?_⟩
                    have bt := blk.turn σw p hσ4 (fun j hj => ((mg j hj).trans (p5.step.mono j)).trans (p46.step.mono j)) unAi (noIo_rel p46.rel hio)
                    have cw := wsub p46.rel.len hσ4
                    have cU := carry_updF (o := HO.lst (vacc ++ [v6])) bt.rel fD
                    have rA := Reps.carry cU _ _ ((kA p).anti p46.rel.busy cw)
                    have rV := Rep.carry cU _ _ (q6.anti p46.rel.busy cw)
                    refine ⟨hl, wipeA A6 vs, acc ++ [y], vacc ++ [v6], ys', bt.upd nD fD h0D (o := .lst (vacc ++ [v6])) trivial, upd_same, rA.append (.cons rV .nil), by rw [List.length_append]; exact Nat.succ_le_succ lacc, e7, by rw [List.append_assoc]; exact eacc, ?_⟩
                    exact okJ.carry cU (okJ.carry ⟨p46.rel.busy, fun _ _ e _ => e, fun a s => .inl (cw a s)⟩ (okJ.carry (p46.carry p5.rel) (okJ.carry (p5.carry p4.rel) tg)))
                  · cases eL
                · cases eL
              · cases eL
            · cases eL
          · cases eL
        · have e0 : xs.drop i = [] := List.drop_eq_nil_iff.mpr (by omega)
          rw [e0] at eL
          simp only [lcL] at eL
          cases eL
          rw [List.append_nil] at eacc
          subst eacc
          refine .inl ⟨okJ.stop blk.rel.busy tB (by omega), ?_⟩
          have unB : ∀ i : Nat, i ∈ vs → ∀ s, A2[i]? = some s → s = .un := fun j hv s es => by
            have m := blk.mono j
            rw [es] at m
            cases z : Ai[j]? with
            | none => rw [z] at m; exact m.elim
            | some u =>
              have := unAi j hv u z
              subst this
              rw [z] at m
              cases s <;> first | rfl | exact m.elim
          have rB := blk.rel
          rw [← hσi] at rB
          obtain ⟨r8, sb8⟩ := RelSt.unwipe (Fi := Fi) (D := D) (H := H2) (A' := A2) rel1 ni rB (fun a s => by rw [← hFi]; exact s) nD unB (fun j hj d ed => by
            have m := blk.mono j
            rw [outAi j hj, ed] at m
            cases z : A2[j]? with
            | none => rw [z] at m; exact m.elim
            | some u =>
              rw [z] at m
              cases u with
              | io d' => exact ⟨d', rfl⟩
              | _ => exact m.elim) (fun a o ea n => by
            by_cases fa : Fi a
            · exact blk.keepF a o ea fa
            · exact blk.keep a o ea fa fun j oj => n j ⟨(ownAi oj).2, (ownAi oj).1⟩) (fun j a oj => by
            rw [hσi] at oj
            have := ownAi (blk.own oj)
            exact .inl ⟨j, this.2, this.1⟩)
          have hlB : A1.length = A2.length := by rw [hl1, blk.rel.len, ← hσi, wipe_length]
          have stp : Step A1 (backA A1 A2 vs) σ H1 H2 := ⟨fun a o ea n => by
            by_cases fa : Fi a
            · exact blk.keepF a o ea fa
            · exact blk.keep a o ea fa fun j oj => n j (ownAi oj).1, fun j => by
            rw [backA_get hlB]
            by_cases hv : j ∈ vs
            · rw [if_pos hv]; exact SStep.refl _
            · rw [if_neg hv, ← outAi j hv]; exact blk.mono j, blk.dom⟩
          refine q _ _ (Also Fb D) ⟨fun _ s => .inl s, fun a s => s.imp id fun z => ?_, r8, p1.step.trans stp⟩ ⟨D, rfl, .inr rfl, vacc, hD, ?_⟩ fun a ea => ?_
          · subst z
            cases ez : H a with
            | none => rfl
            | some o => exact absurd nD (p1.step.dom a (by rw [ez]; exact fun y => nomatch y))
          · rw [hσi] at sb8
            exact racc.anti blk.rel.busy sb8
          · cases ea
            refine ⟨fun s => ?_, h0D⟩
            obtain ⟨o, e, _⟩ := rel1.fb D s
            rw [nD] at e; cases e
      · cases he
    · cases he
  · cases he
theorem set_lc {σ : St} {H : Hp} {D : Ends} {C : Cfg} {vs : List Nat} {i : Nat} (h : tSS C (bSet i (evLc iv g t e vs)) D σ H) (hws : ∀ i, i ∈ ws → i ∈ vs) : tAsg (tLc (tIS C iv) (tSG C ws g) (tST C t) (tS C e) vs) (gName i) D σ H := lc_weak hws (set_weak h)
theorem sim_lc (hc : X.calm = true) (hN : X.N.Nodup) (hi : SimI X tg iter iv) (ok : BlkOk X.N X.env.scope scope own)
    (hg : ∀ (s : Shared) (H : Hp) (C : Addr) (cl : List (Str × Addr)) (fp : List Addr), SimG (X.blk s H scope (compEnvC scope cl C X.env) fp) tg ws g) (ht : ∀ (s : Shared) (H : Hp) (C : Addr) (cl : List (Str × Addr)) (fp : List Addr), PTs (X.blk s H scope (compEnvC scope cl C X.env) fp) ifs (tST (cfg X) t))
    (he : ∀ (s : Shared) (H : Hp) (C : Addr) (cl : List (Str × Addr)) (fp : List Addr), SimE (X.blk s H scope (compEnvC scope cl C X.env) fp) elt e) (hws : ∀ i, i ∈ ws → i ∈ own.map (·.2)) (hs : ∀ x, foldedSetIterable iter X.env x = pure x := by intro _; rfl) :
    SimE X (.ListComp elt [⟨tg, iter, ifs, 0⟩] scope pos) (evLc iv g t e (own.map (·.2))) := (pe_lc hc hN hi ok hg ht he hs).weak fun _ _ _ h => lc_weak hws h
theorem simS_setLc {i : Nat} {y : Str} {py spos : Pos} (hc : X.calm = true) (hN : X.N.Nodup) (hsw : swapsWith (.ListComp elt [⟨tg, iter, ifs, 0⟩] scope pos) (some (.Name y py)) spos.line X.env = pure true) (hi : SimI X tg iter iv) (ok : BlkOk X.N X.env.scope scope own)
    (hg : ∀ (s : Shared) (H : Hp) (C : Addr) (cl : List (Str × Addr)) (fp : List Addr), SimG (X.blk s H scope (compEnvC scope cl C X.env) fp) tg ws g) (ht : ∀ (s : Shared) (H : Hp) (C : Addr) (cl : List (Str × Addr)) (fp : List Addr), PTs (X.blk s H scope (compEnvC scope cl C X.env) fp) ifs (tST (cfg X) t))
    (he : ∀ (s : Shared) (H : Hp) (C : Addr) (cl : List (Str × Addr)) (fp : List Addr), SimE (X.blk s H scope (compEnvC scope cl C X.env) fp) elt e) (hws : ∀ i, i ∈ ws → i ∈ own.map (·.2)) (hy : X.N[i]? = some y := by rfl) (hyl : X.env.scope.names.lookup y = some .local := by rfl) (hs : ∀ x, foldedSetIterable iter X.env x = pure x := by intro _; rfl) :
    SimS X (.Assign [.Name y py] (.ListComp elt [⟨tg, iter, ifs, 0⟩] scope pos) spos) (bSet i (evLc iv g t e (own.map (·.2)))) := (ps_setLc hc hN hy hyl hsw hi ok hg ht he hs).weak fun D σ H h => set_lc h hws
theorem simTs_nil {X : Cx} {C : Cfg} : PTs X [] (tST C tYesA) := ⟨fun pins s σ H Q I h => by
  obtain ⟨G, Fb, A, b, A', hG, rel, he, q⟩ := h
  cases he
  exact pts_nil.run pins s σ H Q I (q H (.refl rel))⟩
theorem simTs_one {X : Cx} {c : Expr} {t : ET} (h : SimT X c t) : PTs X [c] (tST (cfg X) t) := pts_one h
end
end Z
/-! Z8: a name's own thing is changed; defs and their calls. -/
namespace Z
open PySem PySem.Spec L2
open PyProof.Rows hiding St

/-- the list or dict of a slot has other contents -/
def putO (A : SS) (i : Nat) (d : D) : Option SS := match A[i]? with
  | some (.own _) => some (A.set i (.own d))
  | some (.io _) => some (A.set i (.io d))
  | _ => none
def getO (A : SS) (i : Nat) : Option D := match A[i]? with
  | some (.own d) => some d
  | some (.io d) => some d
  | _ => none
section
variable {G : Gh} {Fb Fb' : Addr → Prop} {A A' : SS} {σ σ' : St} {H H' : Hp} {i : Nat} {d d' : D}
theorem RelSt.getO (rel : RelSt G Fb A σ H) (e : getO A i = some d) : ∃ a, σ[i]? = some (some (.ref a)) ∧ OwnAt A σ i a ∧ RepO G.toCfg H (Busy Fb A σ) d a ∧ ¬ Fb a := by
  unfold Z.getO at e
  split at e
  · rename_i x h
    cases e
    obtain ⟨a, e1, r, n, _⟩ := rel.own i d h
    exact ⟨a, e1, ⟨⟨_, h, rfl⟩, e1⟩, r, n⟩
  · rename_i x h
    cases e
    obtain ⟨a, e1, r, n, _⟩ := rel.ioo i d h
    exact ⟨a, e1, ⟨⟨_, h, rfl⟩, e1⟩, r, n⟩
  · cases e
theorem putO_spec (e : putO A i d = some A') : (∃ s, A[i]? = some s ∧ s.isOwn = true) ∧ (∀ j, j ≠ i → A'[j]? = A[j]?) ∧ A'.length = A.length ∧
    ((∃ x, A[i]? = some (.own x) ∧ A'[i]? = some (.own d)) ∨ (∃ x, A[i]? = some (.io x) ∧ A'[i]? = some (.io d))) := by
  unfold putO at e
  split at e
  · rename_i x h
    cases e
    have hi := (List.getElem?_eq_some_iff.mp h).1
    exact ⟨⟨_, h, rfl⟩, fun j hj => List.getElem?_set_ne (Ne.symm hj), List.length_set, .inl ⟨x, h, List.getElem?_set_self hi⟩⟩
  · rename_i x h
    cases e
    have hi := (List.getElem?_eq_some_iff.mp h).1
    exact ⟨⟨_, h, rfl⟩, fun j hj => List.getElem?_set_ne (Ne.symm hj), List.length_set, .inr ⟨x, h, List.getElem?_set_self hi⟩⟩
  · cases e
theorem RelSt.mutateF (rel : RelSt G Fb A σ H) (e : putO A i d = some A') {a : Addr} (ea : σ[i]? = some (some (.ref a))) (keep : ∀ b o, H b = some o → b ≠ a → H' b = some o) (fb : SOk H' Fb') (new : ∀ b, Fb' b → Fb b ∨ H b = none) (ro : RepO G.toCfg H' (Busy Fb' A σ) d a) : RelSt G Fb' A' σ H' ∧ Step A A' σ H H' ∧ ∀ b, Busy Fb' A' σ b ↔ Busy Fb' A σ b := by
  obtain ⟨⟨s, es, zs⟩, oth, len, kind⟩ := putO_spec e
  have oi : OwnAt A σ i a := ⟨⟨s, es, zs⟩, ea⟩
  have ow : ∀ j b, OwnAt A' σ j b ↔ OwnAt A σ j b := fun j b => by
    constructor
    · rintro ⟨⟨t, et, zt⟩, e2⟩
      by_cases z : j = i
      · subst z; exact ⟨⟨s, es, zs⟩, e2⟩
      · rw [oth j z] at et; exact ⟨⟨t, et, zt⟩, e2⟩
    · rintro ⟨⟨t, et, zt⟩, e2⟩
      by_cases z : j = i
      · subst z
        rcases kind with ⟨x, _, k⟩ | ⟨x, _, k⟩
        · exact ⟨⟨_, k, rfl⟩, e2⟩
        · exact ⟨⟨_, k, rfl⟩, e2⟩
      · rw [← oth j z] at et; exact ⟨⟨t, et, zt⟩, e2⟩
  have bz : ∀ b, Busy Fb' A' σ b ↔ Busy Fb' A σ b := fun b => or_congr Iff.rfl (exists_congr fun j => ow j b)
  have c : Carry H H' (Busy Fb A σ) (Busy Fb' A' σ) := ⟨rel.busy, fun b o eb n => keep b o eb fun z => by
    subst z
    exact n (.inr ⟨i, oi⟩), fun b s => by
    rcases (bz b).mp s with s | s
    · exact (new b s).imp .inl id
    · exact .inl (.inr s)⟩
  have nb : ∀ {j : Nat} {b : Addr}, j ≠ i → OwnAt A σ j b → b ≠ a := fun {j b} hj o z => by
    subst z
    exact hj (rel.inj j i b o oi)
  have nF : ∀ {j : Nat} {b : Addr}, OwnAt A σ j b → ¬ Fb' b := fun {j b} o s => by
    obtain ⟨_, _, r, n⟩ := rel.ownO o
    rcases new b s with z | z
    · exact n z
    · obtain ⟨u, eu, _⟩ := r.mut
      rw [eu] at z; cases z
  have na := nF oi
  have ro' : RepO G.toCfg H' (Busy Fb' A' σ) d a := by
    have : Busy Fb' A' σ = Busy Fb' A σ := funext fun b => propext (bz b)
    rw [this]
    exact ro
  have ma := ro.mut
  refine ⟨⟨by rw [len]; exact rel.len, fb, fun j x q => ?_, fun j x q => ?_, fun j x q => ?_, fun j k b o1 o2 => rel.inj j k b ((ow j b).mp o1) ((ow k b).mp o2), fun b o eb n => ?_, fun j b hi => ?_⟩, ⟨fun b o eb n => keep b o eb fun z => by subst z; exact n i oi, fun j => ?_, fun b eb => ?_⟩, bz⟩
  · by_cases z : j = i
    · subst z
      rcases kind with ⟨y, _, k⟩ | ⟨y, _, k⟩ <;> (rw [k] at q; cases q)
    · rw [oth j z] at q
      obtain ⟨v, e1, r⟩ := rel.val j x q
      exact ⟨v, e1, r.carry c⟩
  · by_cases z : j = i
    · subst z
      rcases kind with ⟨y, k0, k⟩ | ⟨y, k0, k⟩
      · rw [k] at q
        cases q
        obtain ⟨b, e1, _, n1, z1⟩ := rel.own j y k0
        rw [ea] at e1; cases e1
        exact ⟨a, ea, ro', na, z1⟩
      · rw [k] at q; cases q
    · rw [oth j z] at q
      obtain ⟨b, e1, r, n1, z1⟩ := rel.own j x q
      exact ⟨b, e1, r.carry c fun o eo => keep b o eo (nb z ⟨⟨_, q, rfl⟩, e1⟩), nF ⟨⟨_, q, rfl⟩, e1⟩, z1⟩
  · by_cases z : j = i
    · subst z
      rcases kind with ⟨y, k0, k⟩ | ⟨y, k0, k⟩
      · rw [k] at q; cases q
      · rw [k] at q
        cases q
        obtain ⟨b, e1, _, n1, z1⟩ := rel.ioo j y k0
        rw [ea] at e1; cases e1
        exact ⟨a, ea, ro', na, z1⟩
    · rw [oth j z] at q
      obtain ⟨b, e1, r, n1, z1⟩ := rel.ioo j x q
      exact ⟨b, e1, r.carry c fun o eo => keep b o eo (nb z ⟨⟨_, q, rfl⟩, e1⟩), nF ⟨⟨_, q, rfl⟩, e1⟩, z1⟩
  · refine keep b o (rel.ent b o eb n) fun z => ?_
    subst z
    rcases kind with ⟨y, k0, k⟩ | ⟨y, k0, k⟩
    · obtain ⟨b', e1, _, _, z1⟩ := rel.own i y k0
      rw [ea] at e1; cases e1
      rw [z1] at eb; cases eb
    · obtain ⟨b', e1, _, _, z1⟩ := rel.ioo i y k0
      rw [ea] at e1; cases e1
      exact n i z1
  · obtain ⟨⟨x, e1⟩, e2⟩ := rel.ios j b hi
    refine ⟨?_, e2⟩
    by_cases z : j = i
    · subst z
      rcases kind with ⟨y, k0, k⟩ | ⟨y, k0, k⟩
      · rw [k0] at e1; cases e1
      · exact ⟨_, k⟩
    · rw [oth j z]; exact ⟨x, e1⟩
  · by_cases z : j = i
    · subst z
      rcases kind with ⟨y, k0, k⟩ | ⟨y, k0, k⟩ <;> (rw [k0, k]; trivial)
    · rw [oth j z]; exact SStep.refl _
  · by_cases z : b = a
    · subst z
      obtain ⟨o, eo, _⟩ := ma
      rw [eo]; exact fun y => nomatch y
    · cases q : H b with
      | none => exact absurd q eb
      | some o => rw [keep b o q z]; exact fun y => nomatch y
end

section
variable {G : Gh} {Fb Fb' : Addr → Prop} {A A' : SS} {σ σ' : St} {H H' : Hp} {i : Nat} {d d' : D}
theorem RelSt.mutate (rel : RelSt G Fb A σ H) (e : putO A i d = some A') {a : Addr} (ea : σ[i]? = some (some (.ref a))) (keep : ∀ b o, H b = some o → b ≠ a → H' b = some o) (ro : RepO G.toCfg H' (Busy Fb A σ) d a) : RelSt G Fb A' σ H' ∧ Step A A' σ H H' ∧ ∀ b, Busy Fb A' σ b ↔ Busy Fb A σ b :=
  rel.mutateF e ea keep (fun b s => by
    obtain ⟨o, eo, m⟩ := rel.fb b s
    refine ⟨o, keep b o eo fun z => ?_, m⟩
    subst z
    obtain ⟨⟨u, es, zs⟩, _⟩ := putO_spec e
    obtain ⟨_, _, _, n⟩ := rel.ownO ⟨⟨u, es, zs⟩, ea⟩
    exact n s) (fun _ s => .inl s) ro
end

/-! ### defs -/
/-- the arguments behind a call -/
def outs : SS → SS → SS
  | [], _ => []
  | a :: as, [] => a :: as
  | .io d :: as, .io e :: bs => .io e :: outs as bs
  | a :: as, _ :: bs => a :: outs as bs
def gOf (b : BV) (N : Nat) : EV := fun as => match b (as ++ List.replicate (N - as.length) .un) with
  | some (.rt (.d x), A') => some (.d x, outs as A')
  | some (.rt (.fr x), A') => some (.fr x, outs as A')
  | some (.nx, A') => some (.d .non, outs as A')
  | _ => none
def spF (C : Cfg) (n : Nat) (g : EV) : Sp := fun vs H Q E => vs.length = n ∧ ∃ G Fb as r as', G.toCfg = C ∧ G.H0 = H ∧ RelSt G Fb as (vs.map some) H ∧ g as = some (r, as') ∧
  ∀ v H' Fb', Post G Fb Fb' as as' (vs.map some) H H' → HV G Fb' as' (vs.map some) H' r v → FrOk G Fb r v → Q v H'
theorem outs_len : ∀ as A', (outs as A').length = as.length
  | [], _ => rfl
  | a :: as, [] => by rw [outs]
  | .un :: as, b :: bs => by rw [outs]; simp [outs_len as bs]; intros; simp_all
  | .val d :: as, b :: bs => by rw [outs]; simp [outs_len as bs]; intros; simp_all
  | .own d :: as, b :: bs => by rw [outs]; simp [outs_len as bs]; intros; simp_all
  | .io d :: as, .io e :: bs => by rw [outs]; simp [outs_len as bs]
  | .io d :: as, .un :: bs => by rw [outs]; simp [outs_len as bs]; intros; simp_all
  | .io d :: as, .val e :: bs => by rw [outs]; simp [outs_len as bs]; intros; simp_all
  | .io d :: as, .own e :: bs => by rw [outs]; simp [outs_len as bs]; intros; simp_all
def out1 : SV → Option SV → SV
  | .io _, some (.io e) => .io e
  | a, _ => a
theorem outs_get : ∀ (as A' : SS) (i : Nat), (outs as A')[i]? = (as[i]?).map fun a => out1 a A'[i]?
  | [], A', i => by simp [outs]
  | a :: as, [], i => by
    rw [outs]
    cases h : (a :: as)[i]? with
    | none => rfl
    | some x => cases x <;> simp [out1]
  | a :: as, b :: bs, 0 => by
    cases a <;> cases b <;> simp [outs, out1]
  | a :: as, b :: bs, i + 1 => by
    have ih := outs_get as bs i
    have e : (outs (a :: as) (b :: bs))[i + 1]? = (outs as bs)[i]? := by
      cases a <;> cases b <;> simp [outs]
    rw [e, ih]
    simp

theorem get_app_un {as : SS} {n i : Nat} {s : SV} (h : (as ++ List.replicate n .un)[i]? = some s) (ns : s ≠ .un) : as[i]? = some s := by
  by_cases hi : i < as.length
  · rw [List.getElem?_append_left hi] at h; exact h
  · rw [List.getElem?_append_right (by omega), List.getElem?_replicate] at h
    split at h
    · cases h; exact absurd rfl ns
    · cases h
section
variable {G : Gh} {Fb Fb' : Addr → Prop} {A A' as : SS} {σ σ' : St} {H H' : Hp} {i : Nat} {d d' : D}
theorem RelSt.pad {vs : List V} (rel : RelSt G Fb as (vs.map some) H) (n : Nat) : RelSt G Fb (as ++ List.replicate n .un) (vs.map some ++ List.replicate n none) H ∧ ∀ i a, OwnAt (as ++ List.replicate n .un) (vs.map some ++ List.replicate n none) i a ↔ OwnAt as (vs.map some) i a := by
  have hl := rel.len
  have σl : ∀ {i : Nat}, i < as.length → (vs.map some ++ List.replicate n (none : Option V))[i]? = (vs.map some)[i]? := fun {i} hi => List.getElem?_append_left (by rw [← hl]; exact hi)
  have lt : ∀ {i : Nat} {s : SV}, as[i]? = some s → i < as.length := fun {i s} e => (List.getElem?_eq_some_iff.mp e).1
  have al : ∀ {i : Nat} {s : SV}, as[i]? = some s → (as ++ List.replicate n .un)[i]? = some s := fun {i s} e => by rw [List.getElem?_append_left (lt e)]; exact e
  have ow : ∀ i a, OwnAt (as ++ List.replicate n .un) (vs.map some ++ List.replicate n none) i a ↔ OwnAt as (vs.map some) i a := fun i a => by
    constructor
    · rintro ⟨⟨s, e, z⟩, e2⟩
      have e' := get_app_un e (fun q => by subst q; cases z)
      exact ⟨⟨s, e', z⟩, by rw [σl (lt e')] at e2; exact e2⟩
    · rintro ⟨⟨s, e, z⟩, e2⟩
      exact ⟨⟨s, al e, z⟩, by rw [σl (lt e)]; exact e2⟩
  have bz : Busy Fb (as ++ List.replicate n .un) (vs.map some ++ List.replicate n none) = Busy Fb as (vs.map some) := funext fun b => propext (or_congr Iff.rfl (exists_congr fun j => ow j b))
  refine ⟨⟨by simp only [List.length_append, List.length_replicate]; omega, rel.fb, fun j x q => ?_, fun j x q => ?_, fun j x q => ?_, fun j k b o1 o2 => rel.inj j k b ((ow j b).mp o1) ((ow k b).mp o2), rel.ent, fun j b hi => ?_⟩, ow⟩
  · have q := get_app_un q (fun z => nomatch z)
    obtain ⟨v, e, r⟩ := rel.val j x q
    exact ⟨v, by rw [σl (lt q)]; exact e, by rw [bz]; exact r⟩
  · have q := get_app_un q (fun z => nomatch z)
    obtain ⟨v, e, r⟩ := rel.own j x q
    exact ⟨v, by rw [σl (lt q)]; exact e, by rw [bz]; exact r⟩
  · have q := get_app_un q (fun z => nomatch z)
    obtain ⟨v, e, r⟩ := rel.ioo j x q
    exact ⟨v, by rw [σl (lt q)]; exact e, by rw [bz]; exact r⟩
  · obtain ⟨⟨x, e1⟩, e2, e3⟩ := rel.ios j b hi
    exact ⟨⟨x, al e1⟩, by rw [σl (lt e1)]; exact e2, e3⟩
/-- what stands at a body's end, by the arguments -/
theorem fin_of {vs : List V} {n : Nat} {σ' : St} (rel : RelSt G Fb as (vs.map some) H) (h0 : G.H0 = H) (p : SPost G Fb Fb' (as ++ List.replicate n .un) A' (vs.map some ++ List.replicate n none) σ' H H') :
    Post G Fb Fb' as (outs as A') (vs.map some) H H' ∧ ∀ b, Busy Fb' (outs as A') (vs.map some) b → Busy Fb' A' σ' b := by
  obtain ⟨relP, ow⟩ := rel.pad n
  have noOwn : ∀ {j : Nat} {x : D}, as[j]? ≠ some (.own x) := fun {j x} e => by
    obtain ⟨a, _, r, _, z⟩ := rel.own j x e
    obtain ⟨o, eo, _⟩ := r.mut
    rw [h0, eo] at z; cases z
  have io : ∀ {j : Nat} {x : D}, as[j]? = some (.io x) → ∃ a y, (vs.map some)[j]? = some (some (.ref a)) ∧ (j, a) ∈ G.io ∧ A'[j]? = some (.io y) ∧ σ'[j]? = some (some (.ref a)) := fun {j x} e => by
    obtain ⟨a, e1, r, n1, z⟩ := rel.ioo j x e
    obtain ⟨⟨y, e2⟩, e3, _⟩ := p.rel.ios j a z
    exact ⟨a, y, e1, z, e2, e3⟩
  have og : ∀ {j : Nat} {s : SV}, (outs as A')[j]? = some s → (∃ x, as[j]? = some (.io x) ∧ ∃ y, A'[j]? = some (.io y) ∧ s = .io y) ∨ ((∀ x, as[j]? ≠ some (.io x)) ∧ as[j]? = some s) := fun {j s} e => by
    rw [outs_get] at e
    cases q : as[j]? with
    | none => rw [q] at e; cases e
    | some a =>
      rw [q] at e
      cases e
      cases a with
      | io x =>
        obtain ⟨_, y, _, _, e2, _⟩ := io q
        exact .inl ⟨x, rfl, y, e2, by rw [e2]; rfl⟩
      | _ => exact .inr ⟨fun x z => (by cases z), rfl⟩
  have oo : ∀ j b, OwnAt (outs as A') (vs.map some) j b → OwnAt as (vs.map some) j b ∧ OwnAt A' σ' j b := fun j b ⟨⟨s, es, zs⟩, e2⟩ => by
    rcases og es with ⟨x, ex, y, ey, _⟩ | ⟨_, ex⟩
    · obtain ⟨a, y', e1, hm, e3, e4⟩ := io ex
      rw [e2] at e1; cases e1
      exact ⟨⟨⟨_, ex, rfl⟩, e2⟩, ⟨_, e3, rfl⟩, e4⟩
    · cases s with
      | own x => exact absurd ex noOwn
      | io x => rename_i hn; exact absurd ex (hn x)
      | un => cases zs
      | val x => cases zs
  have bsub : ∀ b, Busy Fb' (outs as A') (vs.map some) b → Busy Fb' A' σ' b := fun b s => s.imp id fun ⟨j, o⟩ => ⟨j, (oo j b o).2⟩
  have c : Carry H H' (Busy Fb as (vs.map some)) (Busy Fb' (outs as A') (vs.map some)) := ⟨rel.busy, fun b o eb nb => p.keep b o eb fun j w => nb (.inr ⟨j, (ow j b).mp w⟩), fun b s => by
    rcases s with s | ⟨j, o⟩
    · rcases p.new b s with z | ⟨j, z⟩ | z
      · exact .inl (.inl z)
      · exact .inl (.inr ⟨j, (ow j b).mp z⟩)
      · exact .inr z
    · exact .inl (.inr ⟨j, (oo j b o).1⟩)⟩
  refine ⟨⟨p.sub, fun b s => ?_, ⟨by rw [outs_len]; exact rel.len, p.rel.fb, fun j x q => ?_, fun j x q => ?_, fun j x q => ?_, fun j k b o1 o2 => rel.inj j k b (oo j b o1).1 (oo k b o2).1, p.rel.ent, fun j b hi => ?_⟩, ⟨fun b o eb nb => p.keep b o eb fun j w => nb j ((ow j b).mp w), fun j => ?_, p.dom⟩⟩, bsub⟩
  · rcases p.new b s with z | ⟨j, z⟩ | z
    · exact .inl z
    · have z := (ow j b).mp z
      obtain ⟨⟨t, et, zt⟩, e2⟩ := z
      cases t with
      | own x => exact absurd et noOwn
      | io x =>
        obtain ⟨a, y, e1, hm, e3, e4⟩ := io et
        rw [e2] at e1; cases e1
        obtain ⟨a', e5, _, n5, _⟩ := p.rel.ioo j y e3
        rw [e4] at e5; cases e5
        exact absurd s n5
      | un => cases zt
      | val x => cases zt
    · exact .inr z
  · rcases og q with ⟨_, _, y, _, z⟩ | ⟨_, e⟩
    · cases z
    · obtain ⟨v, e1, r⟩ := rel.val j x e
      exact ⟨v, e1, r.carry c⟩
  · rcases og q with ⟨_, _, y, _, z⟩ | ⟨_, e⟩
    · cases z
    · exact absurd e noOwn
  · rcases og q with ⟨x0, e0, y, ey, z⟩ | ⟨hn, e⟩
    · cases z
      obtain ⟨a, y', e1, hm, e3, e4⟩ := io e0
      obtain ⟨a', e5, r5, n5, _⟩ := p.rel.ioo j x ey
      rw [e4] at e5; cases e5
      exact ⟨a, e1, r5.anti p.rel.busy bsub, n5, hm⟩
    · exact absurd e (hn x)
  · obtain ⟨⟨x, e1⟩, e2, e3⟩ := rel.ios j b hi
    obtain ⟨a, y, e4, hm, e5, e6⟩ := io e1
    refine ⟨⟨y, ?_⟩, e2, e3⟩
    rw [outs_get, e1, e5]
    rfl
  · rw [outs_get]
    cases q : as[j]? with
    | none => trivial
    | some a =>
      cases a with
      | io x =>
        obtain ⟨_, y, _, _, e2, _⟩ := io q
        rw [e2]; trivial
      | un => trivial
      | val x => rfl
      | own x => trivial
end

/-- THE RULE for a def: its body by data, and the function that it is -/
theorem fn_ok {P : Program} {w : World} {K : PySem.W.Frag} {mg : Str → Option Value} {base : Heap} {x qual : Str} {st : Stmt} {f : Addr} {fd : FuncData} {N ps : List Str} {k : Nat} {g : EV} (b : Nat → BV) (F : Fun K x qual st f fd) (S : FnScope N ps (defScope st))
    (hb : ∀ (n : Nat) (cdv : Value) (A : Around) (outer : List Env) (s : Shared) (H : Hp) (E : XK), Room k (A.deeper (envOfC qual (defScope st) s.heap.objs.size f cdv)) → SimB (cxOf CX0 P w K mg base N qual (defScope st) f cdv A outer s H E).nox (defBody st) (b n))
    (hg : ∀ as r as', as.length = ps.length → g as = some (r, as') → ∃ n, gOf (b n) N.length as = some (r, as')) : FnOk P w K mg base CX0 (k + 1) f fd ps (spF ⟨P, w, K⟩ ps.length g) := by
  refine F.ok S (fun vs H Q E h => h.1) (fun cdv A outer s H vs Q E hr h => ?_)
  obtain ⟨hn, G, Fb, as, r, as', hG, h0, rel, he, q⟩ := h
  have hl := rel.len
  rw [List.length_map] at hl
  obtain ⟨n, hgo⟩ := hg as r as' (by omega) he
  refine ⟨_, hb n cdv A outer s H E hr, ?_⟩
  obtain ⟨relP, _⟩ := rel.pad (N.length - vs.length)
  have e0 : start N vs = vs.map some ++ List.replicate (N.length - vs.length) none := rfl
  rw [e0]
  unfold gOf at hgo
  rw [hl] at hgo
  split at hgo
  · rename_i x A' e
    cases hgo
    refine ⟨G, Fb, _, _, A', hG, relP, e, fun v σ' H' Fb' p h1 f1 => ?_⟩
    obtain ⟨p2, sb⟩ := fin_of rel h0 p
    exact q v H' Fb' p2 (Rep.anti p.rel.busy sb h1) trivial
  · rename_i x A' e
    cases hgo
    refine ⟨G, Fb, _, _, A', hG, relP, e, fun v σ' H' Fb' p h1 f1 => ?_⟩
    obtain ⟨p2, sb⟩ := fin_of rel h0 p
    obtain ⟨a, e1, e2, e3⟩ := h1
    exact q v H' Fb' p2 ⟨a, e1, e2, e3.anti p.rel.busy sb⟩ f1
  · rename_i A' e
    cases hgo
    refine ⟨G, Fb, _, _, A', hG, relP, e, fun σ' H' p => ?_⟩
    obtain ⟨p2, sb⟩ := fin_of rel h0 p
    exact q .non H' Fb p2 (by show Rep _ _ _ _ _; rw [Rep]) trivial
  · cases hgo

/-! ### calls -/
/-- f(e, ..): the arguments are data -/
def evCall (n : Nat) (g : EV) (dv : List D) (evs : EVs) : EV := fun A => match evs A with
  | some (rs, A1) => match mvs A1 rs with
    | some (xs, A2) => if (xs ++ dv).length = n then
        match g ((xs ++ dv).map .val) with
        | some (.d x, _) => some (.d x, A2)
        | some (.fr x, _) => some (.fr x, A2)
        | _ => none
      else none
    | none => none
  | none => none
/-- f(e, ..): the first argument is a name's own thing, which is changed -/
def evCallIo (n : Nat) (g : EV) (dv : List D) (evs : EVs) : EV := fun A => match evs A with
  | some (.sl i :: rs, A1) => match mvs A1 rs with
    | some (xs, A2) => match getO A2 i with
      | some d0 => if (xs ++ dv).length + 1 = n then
          match g (.io d0 :: (xs ++ dv).map .val) with
          | some (r, .io d' :: _) => match putO A2 i d' with
            | some A3 => match r with
              | .d x => some (.d x, A3)
              | .fr x => some (.fr x, A3)
              | .sl _ => none
            | none => none
          | _ => none
        else none
      | none => none
    | none => none
  | _ => none
theorem own_vals {xs : List D} {σ : St} {i : Nat} {a : Addr} : ¬ OwnAt (xs.map SV.val) σ i a := fun ⟨⟨s, e, z⟩, _⟩ => by
  rw [List.getElem?_map] at e
  cases q : xs[i]? with
  | none => rw [q] at e; cases e
  | some x => rw [q] at e; cases e; cases z
theorem busy_vals {xs : List D} {σ : St} {Fb : Addr → Prop} : Busy Fb (xs.map SV.val) σ = Fb := funext fun a => propext ⟨fun s => s.elim id fun ⟨i, o⟩ => absurd o own_vals, .inl⟩
/-- data as arguments -/
theorem rel_vals {C : Cfg} {H : Hp} {S : Addr → Prop} {xs : List D} {vs : List V} (ok : SOk H S) (r : Reps C H S xs vs) : RelSt ⟨C, H, []⟩ S (xs.map .val) (vs.map some) H := by
  refine ⟨by rw [List.length_map, List.length_map]; exact r.length, ok, fun i d e => ?_, fun i d e => ?_, fun i d e => ?_, fun i j a o _ => absurd o own_vals, fun a o e _ => e, fun i a h => nomatch h⟩
  · rw [busy_vals]
    rw [List.getElem?_map] at e
    cases q : xs[i]? with
    | none => rw [q] at e; cases e
    | some x =>
      rw [q] at e
      cases e
      obtain ⟨v, ev, rv⟩ := r.get q
      exact ⟨v, by rw [List.getElem?_map, ev]; rfl, rv⟩
  · rw [List.getElem?_map] at e
    cases q : xs[i]? with
    | none => rw [q] at e; cases e
    | some x => rw [q] at e; cases e
  · rw [List.getElem?_map] at e
    cases q : xs[i]? with
    | none => rw [q] at e; cases e
    | some x => rw [q] at e; cases e
section
variable {X : Cx} {e : Expr} {es : List Expr} {evs : EVs} {pos p apos : Pos} {k n : Nat} {f : Addr} {fd : FuncData} {ps : List Str} {g : EV} {dv : List D} {dvs : List V} {ds : List Value} {x : Str}
theorem call_weak {σ : St} {H : Hp} {Q : VK} (hdv : ∀ C H S, Reps C H S dv dvs) (h : tS (cfg X) (evCall n g dv evs) σ H Q) : tCall (spF (cfg X) n g) dvs E0 (tSA (cfg X) evs) σ H Q := by
  obtain ⟨G, Fb, A, r, A', hG, rel, he, q⟩ := h
  unfold evCall at he
  split at he
  · rename_i rs A1 e1
    split at he
    · rename_i xs A2 e2
      split at he
      · rename_i hn
        refine ⟨G, Fb, A, rs, A1, hG, rel, e1, fun vs H1 Fb1 p1 h1 f1 => ?_⟩
        obtain ⟨r2, q2, s2⟩ := h1.mv p1.sub p1.rel f1 e2
        have p2 := p1.then r2 s2
        have ra := rel_vals (C := G.toCfg) (p2.rel.busy) (q2.append (hdv _ _ _))
        refine ⟨by rw [← (q2.append (hdv G.toCfg H1 (Busy Fb A2 σ))).length]; exact hn, ⟨G.toCfg, H1, []⟩, Busy Fb A2 σ, (xs ++ dv).map .val, ?_⟩
        have main : ∀ r' as', g ((xs ++ dv).map .val) = some (r', as') → (∀ i, r' ≠ .sl i) → (∀ v H' Fb', Post G Fb Fb' A A2 σ H H' → HV G Fb' A2 σ H' r' v → FrOk G Fb r' v → Q v H') →
            ∃ r as', (⟨G.toCfg, H1, []⟩ : Gh).toCfg = cfg X ∧ (⟨G.toCfg, H1, []⟩ : Gh).H0 = H1 ∧ RelSt ⟨G.toCfg, H1, []⟩ (Busy Fb A2 σ) ((xs ++ dv).map .val) ((vs ++ dvs).map some) H1 ∧ g ((xs ++ dv).map .val) = some (r, as') ∧
              ∀ v H' Fb', Post ⟨G.toCfg, H1, []⟩ (Busy Fb A2 σ) Fb' ((xs ++ dv).map .val) as' ((vs ++ dvs).map some) H1 H' → HV ⟨G.toCfg, H1, []⟩ Fb' as' ((vs ++ dvs).map some) H' r v → FrOk ⟨G.toCfg, H1, []⟩ (Busy Fb A2 σ) r v → Q v H' := by
          intro r' as' eg nsl qq
          refine ⟨r', as', hG, rfl, ra, eg, fun v H' Fb' pc hc fc => ?_⟩
          have ext : Ext H1 H' := fun a o ea => pc.step.keep a o ea fun i o => own_vals o
          have pe := Post.ext p2.rel ext
          cases r' with
          | sl i => exact absurd rfl (nsl i)
          | d y => exact qq v H' Fb (p2.trans pe) (Rep.anti pc.rel.busy (fun a s => .inl (pc.sub a s)) hc) trivial
          | fr y =>
            obtain ⟨a, ea, fa, ro⟩ := hc
            obtain ⟨nb, n0⟩ := fc a ea
            have n0 : H1 a = none := n0
            obtain ⟨o, eo, mo⟩ := ro.mut
            refine qq v H' (Also Fb a) (p2.trans (Post.extF p2.rel ext n0 eo mo)) ⟨a, ea, .inr rfl, ro.anti pc.rel.busy fun b s => ?_⟩ fun b eb => ?_
            · rcases s with (s | s) | s
              · exact .inl (pc.sub b (.inl s))
              · subst s; exact .inl fa
              · exact .inl (pc.sub b (.inr s))
            · rw [ea] at eb; cases eb
              exact ⟨fun s => nb (.inl s), p2.rel.entNone n0⟩
        split at he
        · rename_i y as' eg
          cases he
          exact main _ _ eg (fun i z => nomatch z) q
        · rename_i y as' eg
          cases he
          exact main _ _ eg (fun i z => nomatch z) q
        · cases he
      · cases he
    · cases he
  · cases he
theorem sim_call (F : FnOk X.prog X.w X.K X.mg X.base CX0 k f fd ps (spF (cfg X) n g)) (hr : Room k X.A) (hg : Gl X x) (hm : X.mg x = some (.ref f)) (hk : PySem.W.keepIn X.K (.ref f) = true) (hb : Binds X.K fd ps ds) (hd : Vals dvs ds) (hdv : ∀ C H S, Reps C H S dv dvs)
    (ha : SimA X (e :: es) evs) (hdb : (x == ("__debug__" : Str)) = false := by decide) (he : starEach (e :: es) X.env = (false, eval e X.env) :: starEach es X.env := by rfl) (hpl : (backTo pos (starEach es X.env)).any (·.1) = false := by rfl) :
    SimE X (.Call (.Name x p) (e :: es) [] pos) (evCall n g dv evs) := (pe_call F hr hg hm hk hb hd pass0 ha hdb he hpl).weak fun _ _ _ h => call_weak hdv h
theorem sim_call0 (F : FnOk X.prog X.w X.K X.mg X.base CX0 k f fd ps (spF (cfg X) n g)) (hr : Room k X.A) (hg : Gl X x) (hm : X.mg x = some (.ref f)) (hk : PySem.W.keepIn X.K (.ref f) = true) (hb : Binds X.K fd ps ds) (hd : Vals dvs ds) (hdv : ∀ C H S, Reps C H S dv dvs)
    (hdb : (x == ("__debug__" : Str)) = false := by decide) :
    SimE X (.Call (.Name x p) [] [] pos) (evCall n g dv evNil) := (pe_call0 F hr hg hm hk hb hd pass0 hdb).weak fun σ H Q h => by
  obtain ⟨G, Fb, A, r, A', hG, rel, he, q⟩ := h
  have := call_weak hdv ⟨G, Fb, A, r, A', hG, rel, he, q⟩
  -- no arguments are asked for in any state
  obtain ⟨G, Fb, A, rs, A', hG, rel, he, q⟩ := this
  cases he
  exact q [] H Fb (.refl rel) rfl trivial
theorem callIo_weak {σ : St} {H : Hp} {Q : VK} (hdv : ∀ C H S, Reps C H S dv dvs) (h : tS (cfg X) (evCallIo n g dv evs) σ H Q) : tCall (spF (cfg X) n g) dvs E0 (tSA (cfg X) evs) σ H Q := by
  obtain ⟨G, Fb, A, r, A', hG, rel, he, q⟩ := h
  unfold evCallIo at he
  split at he
  · rename_i i rs A1 e1
    split at he
    · rename_i xs A2 e2
      split at he
      · rename_i d0 e3
        split at he
        · rename_i hn
          refine ⟨G, Fb, A, .sl i :: rs, A1, hG, rel, e1, fun vs H1 Fb1 p1 h1 f1 => ?_⟩
          obtain ⟨v0, us, rfl, h10, h1⟩ := h1
          obtain ⟨v0', us', ee, _, f1⟩ := f1
          cases ee
          obtain ⟨r2, q2, s2⟩ := h1.mv p1.sub p1.rel (f1.anti fun a s => .inl s) e2
          have p2 := p1.then r2 s2
          obtain ⟨a0, ea0, oi, ro0, nf0⟩ := p2.rel.getO e3
          have ev0 : v0 = .ref a0 := by
            obtain ⟨_, e4⟩ := h10
            rw [ea0] at e4; cases e4; rfl
          subst ev0
          have q3 := q2.append (hdv G.toCfg H1 (Busy Fb A2 σ))
          generalize hys : xs ++ dv = ys at he q3 hn
          have bsub : ∀ b, Busy (fun b => Busy Fb A2 σ b ∧ b ≠ a0) (.io d0 :: ys.map .val) ((V.ref a0 :: (us ++ dvs)).map some) b ↔ Busy Fb A2 σ b := fun b => by
            constructor
            · rintro (s | ⟨j, ⟨s, es, zs⟩, e5⟩)
              · exact s.1
              · cases j with
                | zero =>
                  simp at e5
                  subst e5
                  exact .inr ⟨i, oi⟩
                | succ j => exact absurd ⟨⟨s, by simpa using es, zs⟩, by simpa using e5⟩ (own_vals (xs := ys) (σ := (us ++ dvs).map some) (i := j) (a := b))
            · intro s
              by_cases z : b = a0
              · subst z
                exact .inr ⟨0, ⟨_, rfl, rfl⟩, rfl⟩
              · exact .inl ⟨s, z⟩
          have beq : Busy (fun b => Busy Fb A2 σ b ∧ b ≠ a0) (.io d0 :: ys.map .val) ((V.ref a0 :: (us ++ dvs)).map some) = Busy Fb A2 σ := funext fun b => propext (bsub b)
          have ra : RelSt ⟨G.toCfg, H1, [(0, a0)]⟩ (fun b => Busy Fb A2 σ b ∧ b ≠ a0) (.io d0 :: ys.map .val) ((V.ref a0 :: (us ++ dvs)).map some) H1 := by
            refine ⟨by simp only [List.length_cons, List.length_map]; rw [q3.length], fun b s => p2.rel.busy b s.1, fun j d e => ?_, fun j d e => ?_, fun j d e => ?_, fun j k b o1 o2 => ?_, fun a o e _ => e, fun j b hi => ?_⟩
            · rw [beq]
              cases j with
              | zero => cases e
              | succ j =>
                have e : (ys.map SV.val)[j]? = some (.val d) := by simpa using e
                rw [List.getElem?_map] at e
                cases q : ys[j]? with
                | none => rw [q] at e; cases e
                | some x =>
                  rw [q] at e
                  cases e
                  obtain ⟨v, ev, rv⟩ := q3.get q
                  exact ⟨v, by simp only [List.map_cons, List.getElem?_cons_succ, List.getElem?_map, ev]; rfl, rv⟩
            · cases j with
              | zero => cases e
              | succ j =>
                have e : (ys.map SV.val)[j]? = some (.own d) := by simpa using e
                rw [List.getElem?_map] at e
                cases q : ys[j]? with
                | none => rw [q] at e; cases e
                | some x => rw [q] at e; cases e
            · cases j with
              | zero =>
                cases e
                refine ⟨a0, rfl, ?_, fun s => s.2 rfl, List.mem_singleton.mpr rfl⟩
                rw [beq]
                exact ro0
              | succ j =>
                have e : (ys.map SV.val)[j]? = some (.io d) := by simpa using e
                rw [List.getElem?_map] at e
                cases q : ys[j]? with
                | none => rw [q] at e; cases e
                | some x => rw [q] at e; cases e
            · have z : ∀ {j : Nat}, OwnAt (.io d0 :: ys.map .val) ((V.ref a0 :: (us ++ dvs)).map some) j b → j = 0 := fun {j} ⟨⟨s, es, zs⟩, e5⟩ => by
                cases j with
                | zero => rfl
                | succ j => exact absurd ⟨⟨s, by simpa using es, zs⟩, by simpa using e5⟩ (own_vals (xs := ys) (σ := (us ++ dvs).map some) (i := j) (a := b))
              rw [z o1, z o2]
            · have := List.mem_singleton.mp hi
              cases this
              obtain ⟨o, eo, _⟩ := ro0.mut
              exact ⟨⟨d0, rfl⟩, rfl, by show H1 a0 ≠ none; rw [eo]; exact fun z => nomatch z⟩
          have hlen : (V.ref a0 :: (us ++ dvs)).length = n := by rw [List.length_cons, ← q3.length]; exact hn
          split at he
          · rename_i r' d' as2 eg
            split at he
            · rename_i A3 e4
              have main : (∀ i, r' ≠ .sl i) → (∀ v H' Fb', Post G Fb Fb' A A3 σ H H' → HV G Fb' A3 σ H' r' v → FrOk G Fb r' v → Q v H') → spF (cfg X) n g (V.ref a0 :: us ++ dvs) H1 Q E0 := by
                intro nsl qq
                refine ⟨hlen, ⟨G.toCfg, H1, [(0, a0)]⟩, _, _, r', _, hG, rfl, ra, eg, fun v H' Fb' pc hc fc => ?_⟩
                have keep : ∀ b o, H1 b = some o → b ≠ a0 → H' b = some o := fun b o eb nb => pc.step.keep b o eb fun j ⟨⟨s, es, zs⟩, e5⟩ => by
                  cases j with
                  | zero =>
                    simp at e5
                    exact nb e5.symm
                  | succ j => exact absurd ⟨⟨s, by simpa using es, zs⟩, by simpa using e5⟩ (own_vals (xs := ys) (σ := (us ++ dvs).map some) (i := j) (a := b))
                obtain ⟨a1, ea1, ro1, nf1, _⟩ := pc.rel.ioo 0 d' rfl
                have ea1 : a0 = a1 := by simpa using ea1
                subst ea1
                have up : ∀ b, Busy Fb A2 σ b → Busy Fb' (.io d' :: as2) ((V.ref a0 :: (us ++ dvs)).map some) b := fun b s => by
                  by_cases z : b = a0
                  · subst z
                    exact .inr ⟨0, ⟨_, rfl, rfl⟩, rfl⟩
                  · exact .inl (pc.sub b ⟨s, z⟩)
                obtain ⟨r3, s3, bz⟩ := p2.rel.mutate e4 ea0 keep (ro1.anti pc.rel.busy up)
                have p3 : Post G Fb Fb A A3 σ H H' := p2.trans ⟨fun _ s => s, fun _ s => .inl s, r3, s3⟩
                cases r' with
                | sl i => exact absurd rfl (nsl i)
                | d y => exact qq v H' Fb p3 (Rep.anti pc.rel.busy (fun b s => up b ((bz b).mp s)) hc) trivial
                | fr y =>
                  obtain ⟨a, ea, fa, ro⟩ := hc
                  obtain ⟨nb, n0⟩ := fc a ea
                  have n0 : H1 a = none := n0
                  obtain ⟨o, eo, mo⟩ := ro.mut
                  have aup : ∀ b, Busy (Also Fb a) A2 σ b → Busy Fb' (.io d' :: as2) ((V.ref a0 :: (us ++ dvs)).map some) b := fun b s => by
                    rcases s with (s | s) | s
                    · exact up b (.inl s)
                    · subst s; exact .inl fa
                    · exact up b (.inr s)
                  obtain ⟨r4, s4, bz4⟩ := p2.rel.mutateF (Fb' := Also Fb a) e4 ea0 keep (fun b s => by
                    rcases s with s | s
                    · exact r3.fb b s
                    · subst s; exact ⟨o, eo, mo⟩) (fun b s => s.imp id fun z => by subst z; exact n0) (ro1.anti pc.rel.busy aup)
                  refine qq v H' (Also Fb a) (p2.trans ⟨fun _ s => .inl s, fun b s => s.imp id fun z => by subst z; exact n0, r4, s4⟩) ⟨a, ea, .inr rfl, ro.anti pc.rel.busy fun b s => aup b ((bz4 b).mp s)⟩ fun b eb => ?_
                  rw [ea] at eb; cases eb
                  refine ⟨fun s => nb ⟨.inl s, fun z => ?_⟩, p2.rel.entNone n0⟩
                  subst z
                  obtain ⟨u, eu, _⟩ := ro0.mut
                  have n0 : H1 a = none := n0
                  rw [eu] at n0; cases n0
              split at he
              · cases he
                exact main (fun i z => nomatch z) q
              · cases he
                exact main (fun i z => nomatch z) q
              · cases he
            · cases he
          · cases he
        · cases he
      · cases he
    · cases he
  · cases he
theorem sim_callIo (F : FnOk X.prog X.w X.K X.mg X.base CX0 k f fd ps (spF (cfg X) n g)) (hr : Room k X.A) (hg : Gl X x) (hm : X.mg x = some (.ref f)) (hk : PySem.W.keepIn X.K (.ref f) = true) (hb : Binds X.K fd ps ds) (hd : Vals dvs ds) (hdv : ∀ C H S, Reps C H S dv dvs)
    (ha : SimA X (e :: es) evs) (hdb : (x == ("__debug__" : Str)) = false := by decide) (he : starEach (e :: es) X.env = (false, eval e X.env) :: starEach es X.env := by rfl) (hpl : (backTo pos (starEach es X.env)).any (·.1) = false := by rfl) :
    SimE X (.Call (.Name x p) (e :: es) [] pos) (evCallIo n g dv evs) := (pe_call F hr hg hm hk hb hd pass0 ha hdb he hpl).weak fun _ _ _ h => callIo_weak hdv h
end
end Z
/-! Z9: the operators on data. -/
namespace Z
open PySem PySem.Spec L2
open PyProof.Rows hiding St

theorem _root_.L2.OpR.weakR {X : Cx} {f : Value → Value → Sem Value} {r r' : R2} (h : OpR X f r) (w : ∀ x y H Q, r' x y H Q → r x y H Q) : OpR X f r' := fun pins s σ H x y v u Q I rx ry q => h pins s σ H x y v u Q I rx ry (w x y H Q q)
theorem _root_.L2.UnR.weakR {X : Cx} {f : Value → Sem Value} {r r' : V → Hp → VK → Prop} (h : UnR X f r) (w : ∀ x H Q, r' x H Q → r x H Q) : UnR X f r' := fun pins s σ H x v Q I rx q => h pins s σ H x v Q I rx (w x H Q q)
theorem opr_or {X : Cx} {f : Value → Value → Sem Value} {r r' : R2} (h : OpR X f r) (h' : OpR X f r') : OpR X f (fun x y H Q => r x y H Q ∨ r' x y H Q) := fun pins s σ H x y v u Q I rx ry q => by
  rcases q with q | q
  · exact h pins s σ H x y v u Q I rx ry q
  · exact h' pins s σ H x y v u Q I rx ry q
theorem _root_.L2.CallR.weakR {X : Cx} {f : Value} {r r' : List V → Hp → VK → Prop} (h : CallR X f r) (w : ∀ x H Q, r' x H Q → r x H Q) : CallR X f r' := fun pins s σ H x v Q I rx q => h pins s σ H x v Q I rx (w x H Q q)
theorem callr_or {X : Cx} {f : Value} {r r' : List V → Hp → VK → Prop} (h : CallR X f r) (h' : CallR X f r') : CallR X f (fun x H Q => r x H Q ∨ r' x H Q) := fun pins s σ H x v Q I rx q => by
  rcases q with q | q
  · exact h pins s σ H x v Q I rx q
  · exact h' pins s σ H x v Q I rx q
theorem _root_.L2.IxR.weakR {X : Cx} {r r' : R2} (h : IxR X r) (w : ∀ x y H Q, r' x y H Q → r x y H Q) : IxR X r' := fun a b pins s σ H x y v u Q I rx ry q hs => h a b pins s σ H x y v u Q I rx ry (w x y H Q q) hs

section
variable {C : Cfg} {H H' : Hp} {S : Addr → Prop} {Q : VK}
theorem PRep.tup {xs : List D} {v : V} (h : PRep C H S (.tup xs) v) : ∃ a vs, v = .ref a ∧ SqT C.K H a vs ∧ Reps C H S xs vs := by
  have h : Rep C H S (.tup xs) v := h
  rw [Rep] at h
  exact h
theorem PRep.lst {xs : List D} {v : V} (h : PRep C H S (.lst xs) v) : ∃ a vs, v = .ref a ∧ HL H a vs ∧ Reps C H S xs vs := h
theorem PRep.bl {b : Bool} {v : V} (h : PRep C H S (.bl b) v) : v = .bl b := by
  have h : Rep C H S (.bl b) v := h
  rw [Rep] at h
  exact h
theorem PRep.str {b : Str} {v : V} (h : PRep C H S (.str b) v) : v = .str b := by
  have h : Rep C H S (.str b) v := h
  rw [Rep] at h
  exact h
theorem PRep.non {v : V} (h : PRep C H S .non v) : v = .non := by
  have h : Rep C H S .non v := h
  rw [Rep] at h
  exact h
theorem Rep.mkInt {i : Int} : Rep C H S (.int i) (.int i) := by rw [Rep]
theorem Rep.mkBl {i : Bool} : Rep C H S (.bl i) (.bl i) := by rw [Rep]
theorem Rep.mkStr {i : Str} : Rep C H S (.str i) (.str i) := by rw [Rep]
theorem Rep.mkNon : Rep C H S .non .non := by rw [Rep]
theorem Reps.ext (ok : SOk H S) (e : Ext H H') {ds : List D} {vs : List V} (r : Reps C H S ds vs) : Reps C H' S ds vs := Reps.carry ⟨ok, fun a o h _ => e a o h, fun _ s => .inl s⟩ ds vs r
theorem Rep.ext (ok : SOk H S) (e : Ext H H') {d : D} {v : V} (r : Rep C H S d v) : Rep C H' S d v := Rep.carry ⟨ok, fun a o h _ => e a o h, fun _ s => .inl s⟩ d v r
theorem Reps.extF (ok : SOk H S) (e : Ext H H') {p : Addr} (n : H p = none) {ds : List D} {vs : List V} (r : Reps C H S ds vs) : Reps C H' (Also S p) ds vs := Reps.carry ⟨ok, fun a o h _ => e a o h, fun a s => s.imp id fun z => by rw [z]; exact n⟩ ds vs r
theorem Rep.mkTup {a : Addr} {vs : List V} {xs : List D} (q : SqT C.K H a vs) (r : Reps C H S xs vs) : Rep C H S (.tup xs) (.ref a) := by
  rw [Rep]; exact ⟨a, vs, rfl, q, r⟩
/-- an answer that is there already -/
theorem resD {x : D} {v : V} (h : ResK C H S (.d x) Q) (r : Rep C H S x v) : Q v H := h v H (.refl H) r
/-- a new tuple -/
theorem resTup {xs : List D} {vs : List V} (ok : SOk H S) (h : ResK C H S (.d (.tup xs)) Q) (r : Reps C H S xs vs) : ∀ p, H p = none → Q (.ref p) (upd H p (.tup vs)) := fun p n =>
  h _ _ (Ext.new n) (.mkTup (.of upd_same) (r.ext ok (Ext.new n)))
/-- a new list -/
theorem resLst {xs : List D} {vs : List V} (ok : SOk H S) (h : ResK C H S (.fr (.lst xs)) Q) (r : Reps C H S xs vs) : ∀ p, H p = none → Q (.ref p) (upd H p (.lst vs)) := fun p n =>
  h p _ (Ext.new n) n ⟨vs, upd_same, r.extF ok (Ext.new n) n⟩
end

/-! ### arithmetic, concatenation -/
def gAdd : D → D → Option R
  | .int i, .int j => some (.d (.int (i + j)))
  | .str a, .str b => if a.length + b.length ≤ LIM then some (.d (.str (a ++ b))) else none
  | .tup xs, .tup ys => if xs.length + ys.length ≤ LIM then some (.d (.tup (xs ++ ys))) else none
  | .lst xs, .lst ys => if xs.length + ys.length ≤ LIM then some (.fr (.lst (xs ++ ys))) else none
  | _, _ => none
def gSub : D → D → Option R
  | .int i, .int j => some (.d (.int (i - j)))
  | _, _ => none
def gMul : D → D → Option R
  | .int i, .int j => if (-(2 ^ 64) < i ∧ i < 2 ^ 64) ∨ (-(2 ^ 64) < j ∧ j < 2 ^ 64) then some (.d (.int (i * j))) else none
  | .tup xs, .int k => if xs ≠ [] ∧ 2 ≤ k ∧ k ≤ 1000 ∧ xs.length ≤ 1000 then some (.d (.tup (List.replicate k.toNat xs).flatten)) else none
  | .lst xs, .int k => if -(2 ^ 63) ≤ k ∧ k < 2 ^ 63 ∧ xs.length * k.toNat ≤ LIM then some (.fr (.lst (List.replicate k.toNat xs).flatten)) else none
  | _, _ => none
def gDiv : D → D → Option R
  | .int i, .int j => if 0 < j ∧ j < 1073741824 then some (.d (.int (i / j))) else none
  | _, _ => none
def gMod : D → D → Option R
  | .int i, .int j => if 0 < j then some (.d (.int (i % j))) else none
  | _, _ => none
def gPow : D → D → Option R
  | .int i, .int j => if 0 ≤ j ∧ j ≤ 1000000 ∧ i.natAbs < 2 ^ 64 then some (.d (.int (i ^ j.toNat))) else none
  | _, _ => none
def gNeg : D → Option R
  | .int i => some (.d (.int (-i)))
  | _ => none
section
variable {X : Cx}
theorem opg_add : OpR X (binaryOp .Add) (rG2 (cfg X) gAdd) := (opr_or op_add (opr_or op_add_str (opr_or op_catA op_cat))).weakR fun x y H Q h => by
  obtain ⟨S, dx, dy, r, ok, px, py, e, k⟩ := h
  unfold gAdd at e
  split at e
  · cases e
    have := px.int; have := py.int; subst_vars
    exact .inl ⟨_, _, rfl, rfl, resD k .mkInt⟩
  · split at e
    · rename_i hz
      cases e
      have := px.str; have := py.str; subst_vars
      exact .inr (.inl ⟨_, _, rfl, rfl, by rw [← lim_line]; exact hz, resD k .mkStr⟩)
    · cases e
  · split at e
    · rename_i xs ys hz
      cases e
      obtain ⟨a, vs, rfl, qa, ra⟩ := px.tup
      obtain ⟨b, us, rfl, qb, rb⟩ := py.tup
      refine .inr (.inr (.inl ⟨a, b, vs, us, rfl, rfl, qa, qb, by rw [← lim_line, ← ra.length, ← rb.length]; exact hz, fun z => ?_, fun _ z => ?_, fun _ _ => resTup ok k (ra.append rb)⟩))
      · subst z
        have : xs = [] := List.eq_nil_of_length_eq_zero ra.length
        subst this
        exact resD k (.mkTup qb rb)
      · subst z
        have : ys = [] := List.eq_nil_of_length_eq_zero rb.length
        subst this
        rw [List.append_nil] at k
        exact resD k (.mkTup qa ra)
    · cases e
  · split at e
    · rename_i xs ys hz
      cases e
      obtain ⟨a, vs, rfl, qa, ra⟩ := px.lst
      obtain ⟨b, us, rfl, qb, rb⟩ := py.lst
      exact .inr (.inr (.inr ⟨a, b, vs, us, rfl, rfl, qa, qb, by rw [← lim_line, ← ra.length, ← rb.length]; exact hz, resLst ok k (ra.append rb)⟩))
    · cases e
  · cases e
theorem opg_sub : OpR X (binaryOp .Sub) (rG2 (cfg X) gSub) := op_sub.weakR fun x y H Q h => by
  obtain ⟨S, dx, dy, r, ok, px, py, e, k⟩ := h
  unfold gSub at e
  split at e
  · cases e
    have := px.int; have := py.int; subst_vars
    exact ⟨_, _, rfl, rfl, resD k .mkInt⟩
  · cases e
theorem opg_mul : OpR X (binaryOp .Mult) (rG2 (cfg X) gMul) := (opr_or op_mul (opr_or op_repT op_rep)).weakR fun x y H Q h => by
  obtain ⟨S, dx, dy, r, ok, px, py, e, k⟩ := h
  unfold gMul at e
  split at e
  · split at e
    · rename_i hz
      cases e
      have := px.int; have := py.int; subst_vars
      exact .inl ⟨_, _, rfl, rfl, hz, resD k .mkInt⟩
    · cases e
  · split at e
    · rename_i xs kk hz
      cases e
      have := py.int; subst this
      obtain ⟨a, vs, rfl, qa, ra⟩ := px.tup
      have ne : vs ≠ [] := fun z => hz.1 (List.eq_nil_of_length_eq_zero (by rw [ra.length, z]; rfl))
      exact .inr (.inl ⟨a, _, vs, rfl, rfl, qa, ne, hz.2.1, hz.2.2.1, by rw [← ra.length]; exact hz.2.2.2, resTup ok k (ra.rep _)⟩)
    · cases e
  · split at e
    · rename_i xs kk hz
      cases e
      have := py.int; subst this
      obtain ⟨a, vs, rfl, qa, ra⟩ := px.lst
      exact .inr (.inr ⟨a, _, vs, rfl, rfl, qa, hz.1, hz.2.1, by rw [← lim_line, ← ra.length]; exact hz.2.2, resLst ok k (ra.rep _)⟩)
    · cases e
  · cases e
theorem opg_div : OpR X (binaryOp .FloorDiv) (rG2 (cfg X) gDiv) := op_fdiv.weakR fun x y H Q h => by
  obtain ⟨S, dx, dy, r, ok, px, py, e, k⟩ := h
  unfold gDiv at e
  split at e
  · split at e
    · rename_i hz
      cases e
      have := px.int; have := py.int; subst_vars
      exact ⟨_, _, rfl, rfl, hz, resD k .mkInt⟩
    · cases e
  · cases e
theorem opg_mod : OpR X (binaryOp .Mod) (rG2 (cfg X) gMod) := op_mod.weakR fun x y H Q h => by
  obtain ⟨S, dx, dy, r, ok, px, py, e, k⟩ := h
  unfold gMod at e
  split at e
  · split at e
    · rename_i hz
      cases e
      have := px.int; have := py.int; subst_vars
      exact ⟨_, _, rfl, rfl, hz, resD k .mkInt⟩
    · cases e
  · cases e
theorem opg_pow : OpR X (binaryOp .Pow) (rG2 (cfg X) gPow) := op_pow.weakR fun x y H Q h => by
  obtain ⟨S, dx, dy, r, ok, px, py, e, k⟩ := h
  unfold gPow at e
  split at e
  · split at e
    · rename_i hz
      cases e
      have := px.int; have := py.int; subst_vars
      exact ⟨_, _, rfl, rfl, hz, resD k .mkInt⟩
    · cases e
  · cases e
theorem ung_neg : UnR X (unaryOp .USub) (rG1 (cfg X) gNeg) := un_neg.weakR fun x H Q h => by
  obtain ⟨S, dx, r, ok, px, e, k⟩ := h
  unfold gNeg at e
  split at e
  · cases e
    have := px.int; subst_vars
    exact ⟨_, rfl, resD k .mkInt⟩
  · cases e
end

/-! ### comparisons -/
/-- whole numbers, texts, None, and lists, tuples of such, no deeper than n -/
def okE : Nat → D → Bool
  | _, .non => true
  | _, .int _ => true
  | _, .str x => PyData.strOk x
  | n + 1, .tup xs => xs.all (okE n)
  | n + 1, .lst xs => xs.all (okE n)
  | _, _ => false
mutual
def toP : D → PyData
  | .non => .none
  | .bl b => .bool b
  | .int i => .int i
  | .str x => .str x
  | .tup xs => .tuple (toPs xs)
  | .lst xs => .list (toPs xs)
  | .dct _ _ => .none
  | .scr _ => .none
def toPs : List D → List PyData
  | [] => []
  | d :: ds => toP d :: toPs ds
end
mutual
theorem okE_lay : ∀ (n : Nat) (d : D), okE n d = true → (toP d).canLay0 = true ∧ (toP d).depth ≤ n
  | n, .non, h => by simp only [toP, PyData.canLay0, PyData.depth]; exact ⟨trivial, Nat.zero_le _⟩
  | n, .int i, h => by simp only [toP, PyData.canLay0, PyData.depth]; exact ⟨trivial, Nat.zero_le _⟩
  | n, .str x, h => by simp only [toP, PyData.canLay0, PyData.depth]; exact ⟨by simpa only [okE] using h, Nat.zero_le _⟩
  | n + 1, .tup xs, h => by
    have h : xs.all (okE n) = true := by simpa only [okE] using h
    have := okE_lays n xs h
    simp only [toP, PyData.canLay0, PyData.depth]
    exact ⟨this.1, Nat.succ_le_succ this.2⟩
  | n + 1, .lst xs, h => by
    have h : xs.all (okE n) = true := by simpa only [okE] using h
    have := okE_lays n xs h
    simp only [toP, PyData.canLay0, PyData.depth]
    exact ⟨this.1, Nat.succ_le_succ this.2⟩
  | 0, .tup xs, h => by simp [okE] at h
  | 0, .lst xs, h => by simp [okE] at h
  | n, .bl _, h => by cases n <;> simp [okE] at h
  | n, .dct _ _, h => by cases n <;> simp [okE] at h
  | n, .scr _, h => by cases n <;> simp [okE] at h
theorem okE_lays : ∀ (n : Nat) (ds : List D), ds.all (okE n) = true → PyData.canLayAll0 (toPs ds) = true ∧ PyData.depthAll (toPs ds) ≤ n
  | n, [], _ => by simp only [toPs, PyData.canLayAll0, PyData.depthAll]; exact ⟨trivial, Nat.zero_le _⟩
  | n, d :: ds, h => by
    rw [List.all_cons, Bool.and_eq_true] at h
    have h1 := okE_lay n d h.1
    have h2 := okE_lays n ds h.2
    simp only [toPs, PyData.canLayAll0, PyData.depthAll, h1.1, h2.1, Bool.and_self]
    exact ⟨trivial, Nat.max_le.mpr ⟨h1.2, h2.2⟩⟩
end
theorem okE_shaped {n : Nat} {d : D} (h : okE n d = true) (hn : n ≤ 64) : SeqAt.shaped (toP d) = true := by
  have := okE_lay n d h
  unfold SeqAt.shaped
  rw [Bool.and_eq_true, decide_eq_true_eq]
  exact ⟨this.1, Nat.le_trans this.2 hn⟩
mutual
theorem eqv_toP : ∀ (n m : Nat) (a b : D), okE n a = true → okE m b = true → PyData.eqv (toP a) (toP b) = D.beq a b
  | n, m, .non, b, ha, hb => by cases b <;> (cases m <;> simp [okE] at hb) <;> simp [toP, PyData.eqv, D.beq]
  | n, m, .int i, b, ha, hb => by
    cases b <;> (cases m <;> simp [okE] at hb) <;> simp [toP, PyData.eqv, D.beq, Bool.beq_eq_decide_eq]
  | n, m, .str i, b, ha, hb => by
    cases b <;> (cases m <;> simp [okE] at hb) <;> simp [toP, PyData.eqv, D.beq, Bool.beq_eq_decide_eq]
  | n, m, .tup xs, b, ha, hb => by
    cases n with
    | zero => simp [okE] at ha
    | succ n =>
      cases b with
      | tup ys =>
        cases m with
        | zero => simp [okE] at hb
        | succ m =>
          simp only [toP, PyData.eqv, D.beq]
          exact eqvs_toP n m xs ys (by simpa only [okE] using ha) (by simpa only [okE] using hb)
      | _ => (cases m <;> simp [okE] at hb) <;> simp [toP, PyData.eqv, D.beq]
  | n, m, .lst xs, b, ha, hb => by
    cases n with
    | zero => simp [okE] at ha
    | succ n =>
      cases b with
      | lst ys =>
        cases m with
        | zero => simp [okE] at hb
        | succ m =>
          simp only [toP, PyData.eqv, D.beq]
          exact eqvs_toP n m xs ys (by simpa only [okE] using ha) (by simpa only [okE] using hb)
      | _ => (cases m <;> simp [okE] at hb) <;> simp [toP, PyData.eqv, D.beq]
  | n, m, .bl _, b, ha, hb => by cases n <;> simp [okE] at ha
  | n, m, .dct _ _, b, ha, hb => by cases n <;> simp [okE] at ha
  | n, m, .scr _, b, ha, hb => by cases n <;> simp [okE] at ha
theorem eqvs_toP : ∀ (n m : Nat) (as bs : List D), as.all (okE n) = true → bs.all (okE m) = true → PyData.eqvAll (toPs as) (toPs bs) = D.beqs as bs
  | n, m, [], [], _, _ => by simp [toPs, PyData.eqvAll, D.beqs]
  | n, m, [], b :: bs, _, _ => by simp [toPs, PyData.eqvAll, D.beqs]
  | n, m, a :: as, [], _, _ => by simp [toPs, PyData.eqvAll, D.beqs]
  | n, m, a :: as, b :: bs, ha, hb => by
    rw [List.all_cons, Bool.and_eq_true] at ha hb
    simp only [toPs, PyData.eqvAll, D.beqs]
    rw [eqv_toP n m a b ha.1 hb.1, eqvs_toP n m as bs ha.2 hb.2]
end
theorem beq_dec (a b : D) : D.beq a b = decide (a = b) := by
  cases h : D.beq a b with
  | true => exact (decide_eq_true (D.eq_of_beq a b h)).symm
  | false => exact (decide_eq_false fun e => by rw [e, D.beq_self] at h; cases h).symm
theorem SqL.of {K : PySem.W.Frag} {H : Hp} {a : Addr} {vs : List V} (h : HL H a vs) : SqL K H a vs := h.sql
mutual
theorem dp_of {C : Cfg} {H : Hp} {S : Addr → Prop} : ∀ (n : Nat) (d : D) (v : V), okE n d = true → Rep C H S d v → Dp C.K H v (toP d)
  | n, .non, v, _, h => by rw [Rep] at h; subst h; simp only [toP]; exact .non
  | n, .int i, v, _, h => by rw [Rep] at h; subst h; simp only [toP]; exact .int i
  | n, .str x, v, _, h => by rw [Rep] at h; subst h; simp only [toP]; exact .str x
  | n + 1, .tup xs, v, hk, h => by
    rw [Rep] at h
    obtain ⟨a, vs, rfl, q, r⟩ := h
    simp only [toP]
    exact .tup q (dps_of n xs vs (by simpa only [okE] using hk) r)
  | n + 1, .lst xs, v, hk, h => by
    rw [Rep] at h
    obtain ⟨a, vs, rfl, _, q, r⟩ := h
    simp only [toP]
    exact .lst (SqL.of q) (dps_of n xs vs (by simpa only [okE] using hk) r)
  | 0, .tup xs, _, h, _ => by simp [okE] at h
  | 0, .lst xs, _, h, _ => by simp [okE] at h
  | n, .bl _, _, h, _ => by cases n <;> simp [okE] at h
  | n, .dct _ _, _, h, _ => by cases n <;> simp [okE] at h
  | n, .scr _, _, h, _ => by cases n <;> simp [okE] at h
theorem dps_of {C : Cfg} {H : Hp} {S : Addr → Prop} : ∀ (n : Nat) (ds : List D) (vs : List V), ds.all (okE n) = true → Reps C H S ds vs → DpAll C.K H vs (toPs ds)
  | n, [], vs, _, h => by rw [Reps] at h; subst h; simp only [toPs]; exact .nil
  | n, d :: ds, vs, hk, h => by
    rw [List.all_cons, Bool.and_eq_true] at hk
    rw [Reps] at h
    obtain ⟨v, r, rfl, h1, h2⟩ := h
    simp only [toPs]
    exact .cons (dp_of n d v hk.1 h1) (dps_of n ds r hk.2 h2)
end
theorem dpP_of {C : Cfg} {H : Hp} {S : Addr → Prop} {n : Nat} {d : D} {v : V} (hk : okE n d = true) (h : PRep C H S d v) : Dp C.K H v (toP d) := by
  cases d with
  | lst xs =>
    obtain ⟨a, vs, rfl, q, r⟩ := h
    cases n with
    | zero => simp [okE] at hk
    | succ n =>
      simp only [toP]
      exact .lst (SqL.of q) (dps_of n xs vs (by simpa only [okE] using hk) r)
  | dct _ _ => cases n <;> simp [okE] at hk
  | _ => exact dp_of (S := S) n _ v hk h
def gEq (x y : D) : Option R := if okE 60 x && okE 60 y then some (.d (.bl (decide (x = y)))) else
  match x, y with
  | .bl a, .bl b => some (.d (.bl (a == b)))
  | _, _ => none
def gNe (x y : D) : Option R := if okE 60 x && okE 60 y then some (.d (.bl (!decide (x = y)))) else
  match x, y with
  | .bl a, .bl b => some (.d (.bl (a != b)))
  | _, _ => none
def gIs (x y : D) : Option R := match y with
  | .non => match x with
    | .non => some (.d (.bl true))
    | .bl _ => some (.d (.bl false))
    | .int _ => some (.d (.bl false))
    | .str _ => some (.d (.bl false))
    | .tup _ => some (.d (.bl false))
    | .lst _ => some (.d (.bl false))
    | .dct _ _ => some (.d (.bl false))
    | .scr _ => some (.d (.bl false))
  | _ => none
def gIsN (x y : D) : Option R := match y with
  | .non => match x with
    | .non => some (.d (.bl false))
    | .bl _ => some (.d (.bl true))
    | .int _ => some (.d (.bl true))
    | .str _ => some (.d (.bl true))
    | .tup _ => some (.d (.bl true))
    | .lst _ => some (.d (.bl true))
    | .dct _ _ => some (.d (.bl true))
    | .scr _ => some (.d (.bl true))
  | _ => none
def gCmpI (f : Int → Int → Bool) : D → D → Option R
  | .int i, .int j => some (.d (.bl (f i j)))
  | _, _ => none
section
variable {X : Cx}
theorem opg_eq (hu : X.A.units + 64 < cLine) : OpR X (compareOp .Eq) (rG2 (cfg X) gEq) := (op_eqD hu).weakR fun x y H Q h => by
  obtain ⟨S, dx, dy, r, ok, px, py, e, k⟩ := h
  unfold gEq at e
  split at e
  · rename_i hz
    rw [Bool.and_eq_true] at hz
    cases e
    refine ⟨toP dx, toP dy, dpP_of hz.1 px, dpP_of hz.2 py, okE_shaped hz.1 (by decide), okE_shaped hz.2 (by decide), ?_⟩
    rw [eqv_toP 60 60 dx dy hz.1 hz.2, beq_dec]
    exact resD k .mkBl
  · split at e
    · cases e
      have := px.bl; have := py.bl; subst_vars
      exact ⟨_, _, .bl _, .bl _, by rfl, by rfl, resD k .mkBl⟩
    · cases e
theorem opg_ne (hu : X.A.units + 64 < cLine) : OpR X (compareOp .NotEq) (rG2 (cfg X) gNe) := (op_neD hu).weakR fun x y H Q h => by
  obtain ⟨S, dx, dy, r, ok, px, py, e, k⟩ := h
  unfold gNe at e
  split at e
  · rename_i hz
    rw [Bool.and_eq_true] at hz
    cases e
    refine ⟨toP dx, toP dy, dpP_of hz.1 px, dpP_of hz.2 py, okE_shaped hz.1 (by decide), okE_shaped hz.2 (by decide), ?_⟩
    rw [eqv_toP 60 60 dx dy hz.1 hz.2, beq_dec]
    exact resD k .mkBl
  · split at e
    · cases e
      have := px.bl; have := py.bl; subst_vars
      exact ⟨_, _, .bl _, .bl _, by rfl, by rfl, resD k .mkBl⟩
    · cases e
theorem opg_is : OpR X (compareOp .Is) (rG2 (cfg X) gIs) := op_isN.weakR fun x y H Q h => by
  obtain ⟨S, dx, dy, r, ok, px, py, e, k⟩ := h
  cases dy <;> try cases e
  have := py.non; subst this
  refine ⟨rfl, ?_⟩
  cases dx with
  | non => cases e; have := px.non; subst this; exact resD k .mkBl
  | bl b => cases e; have := px.bl; subst this; exact resD k .mkBl
  | int b => cases e; have := px.int; subst this; exact resD k .mkBl
  | str b => cases e; have := px.str; subst this; exact resD k .mkBl
  | tup b => cases e; obtain ⟨a, vs, rfl, _⟩ := px.tup; exact resD k .mkBl
  | lst b => cases e; obtain ⟨a, vs, rfl, _⟩ := px.lst; exact resD k .mkBl
  | dct b c => cases e; obtain ⟨a, rfl, _⟩ := px; exact resD k .mkBl
  | scr b =>
    cases e
    have px : Rep _ _ _ _ _ := px
    rw [Rep] at px
    obtain ⟨a, rfl, _⟩ := px
    exact resD k .mkBl
theorem opg_isn : OpR X (compareOp .IsNot) (rG2 (cfg X) gIsN) := op_notN.weakR fun x y H Q h => by
  obtain ⟨S, dx, dy, r, ok, px, py, e, k⟩ := h
  cases dy <;> try cases e
  have := py.non; subst this
  refine ⟨rfl, ?_⟩
  cases dx with
  | non => cases e; have := px.non; subst this; exact resD k .mkBl
  | bl b => cases e; have := px.bl; subst this; exact resD k .mkBl
  | int b => cases e; have := px.int; subst this; exact resD k .mkBl
  | str b => cases e; have := px.str; subst this; exact resD k .mkBl
  | tup b => cases e; obtain ⟨a, vs, rfl, _⟩ := px.tup; exact resD k .mkBl
  | lst b => cases e; obtain ⟨a, vs, rfl, _⟩ := px.lst; exact resD k .mkBl
  | dct b c => cases e; obtain ⟨a, rfl, _⟩ := px; exact resD k .mkBl
  | scr b =>
    cases e
    have px : Rep _ _ _ _ _ := px
    rw [Rep] at px
    obtain ⟨a, rfl, _⟩ := px
    exact resD k .mkBl
theorem opg_cmpI {op : CmpOp} {f : Int → Int → Bool} (h : OpR X (compareOp op) (rI0 fun i j => .bl (f i j))) : OpR X (compareOp op) (rG2 (cfg X) (gCmpI f)) := h.weakR fun x y H Q h => by
  obtain ⟨S, dx, dy, r, ok, px, py, e, k⟩ := h
  unfold gCmpI at e
  split at e
  · cases e
    have := px.int; have := py.int; subst_vars
    exact ⟨_, _, rfl, rfl, resD k .mkBl⟩
  · cases e
theorem opg_lt : OpR X (compareOp .Lt) (rG2 (cfg X) (gCmpI fun i j => decide (i < j))) := opg_cmpI op_lt
theorem opg_le : OpR X (compareOp .LtE) (rG2 (cfg X) (gCmpI fun i j => decide (i ≤ j))) := opg_cmpI op_le
theorem opg_gt : OpR X (compareOp .Gt) (rG2 (cfg X) (gCmpI fun i j => decide (j < i))) := opg_cmpI op_gt
theorem opg_ge : OpR X (compareOp .GtE) (rG2 (cfg X) (gCmpI fun i j => decide (j ≤ i))) := opg_cmpI op_ge
end

/-! ### items -/
def gIx : D → D → Option R
  | .lst xs, .int i => (atI xs i).map R.d
  | .tup xs, .int i => (atI xs i).map R.d
  | .str z, .int i => if z.length ≤ LIM then (atI z.cps.toList i).map (fun c => R.d (.str ⟨#[c]⟩)) else none
  | .scr ns, .int i => (atI ns i).map fun n => R.d (.int n)
  | _, _ => none
theorem Reps.atI {C : Cfg} {H : Hp} {S : Addr → Prop} {ds : List D} {vs : List V} {i : Int} {d : D} (r : Reps C H S ds vs) (e : L2.atI ds i = some d) : ∃ v, L2.atI vs i = some v ∧ Rep C H S d v := by
  unfold L2.atI at e ⊢
  rw [r.length] at e
  cases h : ixN vs.length i with
  | none => rw [h] at e; cases e
  | some j =>
    rw [h] at e
    obtain ⟨v, ev, rv⟩ := r.get (i := j) e
    exact ⟨v, ev, rv⟩
theorem scr_seq {C : Cfg} {H : Hp} {S : Addr → Prop} {ns : List Int} {v : V} (h : Rep C H S (.scr ns) v) : ∃ a, v = .ref a ∧ SqL C.K H a (ns.map V.int) := by
  rw [Rep] at h
  obtain ⟨a, rfl, ⟨_, h⟩ | h⟩ := h
  · refine ⟨a, rfl, .inl ?_⟩
    rcases h with h | ⟨o, h⟩
    · exact .inl h
    · exact .inr ⟨o, h⟩
  · exact ⟨a, rfl, .inr h⟩
section
variable {X : Cx}
theorem ixg : IxR X (rG2 (cfg X) gIx) := (ix_list.or (ix_tup.or ix_str)).weakR fun x y H Q h => by
  obtain ⟨S, dx, dy, r, ok, px, py, e, k⟩ := h
  unfold gIx at e
  split at e
  · rename_i xs i
    cases hz : L2.atI xs i with
    | none => rw [hz] at e; cases e
    | some d =>
      rw [hz] at e
      cases e
      have := py.int; subst this
      obtain ⟨a, vs, rfl, q, r⟩ := px.lst
      obtain ⟨v, ev, rv⟩ := r.atI hz
      exact .inl ⟨a, vs, i, v, rfl, rfl, SqL.of q, ev, resD k rv⟩
  · rename_i xs i
    cases hz : L2.atI xs i with
    | none => rw [hz] at e; cases e
    | some d =>
      rw [hz] at e
      cases e
      have := py.int; subst this
      obtain ⟨a, vs, rfl, q, r⟩ := px.tup
      obtain ⟨v, ev, rv⟩ := r.atI hz
      exact .inr (.inl ⟨a, vs, i, v, rfl, rfl, q, ev, resD k rv⟩)
  · rename_i z i
    split at e
    · rename_i hl
      cases hz : L2.atI z.cps.toList i with
      | none => rw [hz] at e; cases e
      | some d =>
        rw [hz] at e
        cases e
        have := py.int; have := px.str; subst_vars
        exact .inr (.inr ⟨z, i, d, rfl, rfl, by rw [← lim_line]; exact hl, hz, resD k .mkStr⟩)
    · cases e
  · rename_i ns i
    cases hz : L2.atI ns i with
    | none => rw [hz] at e; cases e
    | some d =>
      rw [hz] at e
      cases e
      have := py.int; subst this
      have px : Rep _ _ _ _ _ := px
      obtain ⟨a, rfl, q⟩ := scr_seq px
      refine .inl ⟨a, _, i, .int d, rfl, rfl, q, ?_, resD k .mkInt⟩
      unfold L2.atI at hz ⊢
      rw [List.length_map]
      cases h : ixN ns.length i with
      | none => rw [h] at hz; cases hz
      | some j =>
        rw [h] at hz
        have hz : ns[j]? = some d := hz
        show (ns.map V.int)[j]? = _
        rw [List.getElem?_map, hz]; rfl
  · cases e
end
end Z
/-! Z10: slices, calls of builtins. -/
namespace Z
open PySem PySem.Spec L2
open PyProof.Rows hiding St

/-! ### slices -/
def cutD {α : Type} (xs : List α) (lo hi : Option Int) : List α := (xs.drop (HT.sIx xs.length 0 lo)).take (HT.sIx xs.length xs.length hi - HT.sIx xs.length 0 lo)
def gSl (lo hi : Option Int) : D → Option R
  | .lst xs => some (.fr (.lst (cutD xs lo hi)))
  | .tup xs => some (.d (.tup (cutD xs lo hi)))
  | .str z => if z.length ≤ LIM then some (.d (.str (cutS z lo hi))) else none
  | .scr ns => some (.fr (.lst ((cutD ns lo hi).map .int)))
  | _ => none
theorem Reps.cut {C : Cfg} {H : Hp} {S : Addr → Prop} {ds : List D} {vs : List V} (r : Reps C H S ds vs) (lo hi : Option Int) : Reps C H S (cutD ds lo hi) (cutV vs lo hi) := by
  unfold cutD cutV
  rw [r.length]
  exact (r.drop _).take _
theorem reps_ints {C : Cfg} {H : Hp} {S : Addr → Prop} : ∀ (ns : List Int), Reps C H S (ns.map .int) (ns.map V.int)
  | [] => Reps.nil
  | n :: ns => Reps.cons .mkInt (reps_ints ns)
theorem cutV_map (ns : List Int) (lo hi : Option Int) : cutV (ns.map V.int) lo hi = (cutD ns lo hi).map V.int := by
  unfold cutD cutV
  rw [List.length_map, List.map_take, List.map_drop]
/-- a bound -/
abbrev EO := SS → Option (Option Int × SS)
def eoNone : EO := fun A => some (none, A)
def eoSome (e : EV) : EO := fun A => match e A with
  | some (r, A1) => match peek A1 r with
    | some (.int i) => some (some i, A1)
    | _ => none
  | none => none
def tSO (C : Cfg) (eo : EO) : TO := fun σ H Q => ∃ G Fb A o A', G.toCfg = C ∧ RelSt G Fb A σ H ∧ eo A = some (o, A') ∧ ∀ H', Post G Fb Fb A A' σ H H' → Q o H'
abbrev SimO (X : Cx) (e : Option Expr) (eo : EO) : Prop := PO X e (tSO (cfg X) eo)
theorem _root_.L2.PO.weak {X : Cx} {e : Option Expr} {t u : TO} (h : PO X e t) (w : ∀ σ H Q, u σ H Q → t σ H Q) : PO X e u := ⟨fun pins s σ H Q I q => h.run pins s σ H Q I (w σ H Q q)⟩
def evSl (ea : EV) (lo hi : EO) : EV := fun A => match ea A with
  | some (r, A1) => match lo A1 with
    | some (l, A2) => match hi A2 with
      | some (u, A3) => match peek A3 r with
        | some x => match gSl l u x with
          | some (.d z) => some (.d z, A3)
          | some (.fr z) => some (.fr z, A3)
          | _ => none
        | none => none
      | none => none
    | none => none
  | none => none
section
variable {X : Cx} {e a b : Expr} {ev ea eb : EV} {lo hi : Option Expr} {eo ep : EO} {pos p2 : Pos}
theorem simO_none : SimO X none eoNone := po_none.weak fun σ H Q h => by
  obtain ⟨G, Fb, A, r, A', hG, rel, he, q⟩ := h
  cases he
  exact q H (.refl rel)
theorem simO_some (h : SimE X e ev) : SimO X (some e) (eoSome ev) := (po_some h).weak fun σ H Q h => by
  obtain ⟨G, Fb, A, o, A', hG, rel, he, q⟩ := h
  unfold eoSome at he
  split at he
  · rename_i r A1 e1
    split at he
    · rename_i i hi
      cases he
      refine ⟨G, Fb, A, r, _, hG, rel, e1, fun v H1 Fb1 p1 h1 f1 => ?_⟩
      exact ⟨i, (h1.peek p1.rel hi).int, q H1 (p1.then p1.rel (.refl _ _ _))⟩
    · cases he
  · cases he
theorem slg {lo hi : Option Int} {H : Hp} {Q : VK} {x : V} {C : Cfg} (h : rG1 C (gSl lo hi) x H Q) : (rSlL C.K x lo hi H Q ∨ rSlA C.K x lo hi H Q) ∨ rSlS x lo hi H Q := by
  obtain ⟨S, dx, r, ok, px, e, k⟩ := h
  unfold gSl at e
  split at e
  · cases e
    obtain ⟨a, vs, rfl, q, r⟩ := px.lst
    exact .inl (.inl ⟨a, vs, rfl, SqL.of q, resLst ok k (r.cut lo hi)⟩)
  · rename_i xs
    cases e
    obtain ⟨a, vs, rfl, q, r⟩ := px.tup
    refine .inl (.inr ⟨a, vs, rfl, q, fun z => ?_, fun z => resTup ok k (r.cut lo hi)⟩)
    have : cutD xs lo hi = xs := by
      unfold cutD
      rw [r.length, z.1, z.2, Nat.sub_zero, List.drop_zero, ← r.length, List.take_length]
    rw [this] at k
    exact resD k (.mkTup q r)
  · split at e
    · rename_i hz
      cases e
      have := px.str; subst this
      exact .inr ⟨_, rfl, by rw [← lim_line]; exact hz, resD k .mkStr⟩
    · cases e
  · rename_i ns
    cases e
    have px : Rep _ _ _ _ _ := px
    obtain ⟨a, rfl, q⟩ := scr_seq px
    refine .inl (.inl ⟨a, _, rfl, q, fun p n => ?_⟩)
    rw [cutV_map]
    exact resLst ok k (reps_ints _) p n
  · cases e
theorem sl_all : SlR X (fun x lo hi H Q => (rSlL X.K x lo hi H Q ∨ rSlA X.K x lo hi H Q) ∨ rSlS x lo hi H Q) := (sl_list.or sl_tupA).or sl_str
theorem sim_sl (ha : SimE X a ea) (hl : SimO X lo eo) (hh : SimO X hi ep) : SimE X (.Subscript a (.Slice lo hi none p2) pos) (evSl ea eo ep) := (pe_slice sl_all ha hl hh).weak fun σ H Q h => by
  obtain ⟨G, Fb, A, r, A', hG, rel, he, q⟩ := h
  unfold evSl at he
  split at he
  · rename_i r1 A1 e1
    split at he
    · rename_i l A2 e2
      split at he
      · rename_i u A3 e3
        split at he
        · rename_i x hx
          refine ⟨G, Fb, A, r1, A1, hG, rel, e1, fun v H1 Fb1 p1 h1 f1 => ⟨G, Fb1, A1, l, A2, hG, p1.rel, e2, fun H2 p2 => ⟨G, Fb1, A2, u, A3, hG, p2.rel, e3, fun H3 p3 => ?_⟩⟩⟩
          have P := (p1.trans p2).trans p3
          have k1 := ((h1.carry p1.rel p2).carry p2.rel p3).peek p3.rel hx
          rw [hG] at k1
          split at he
          · rename_i z hz
            cases he
            have := resK_of (r := .d z) P (fun i e => nomatch e) q
            rw [hG] at this
            exact slg (C := cfg X) ⟨_, x, _, p3.rel.busy, k1, hz, this⟩
          · rename_i z hz
            cases he
            have := resK_of (r := .fr z) P (fun i e => nomatch e) q
            rw [hG] at this
            exact slg (C := cfg X) ⟨_, x, _, p3.rel.busy, k1, hz, this⟩
          · cases he
        · cases he
      · cases he
    · cases he
  · cases he
end

/-! ### a[::-1] -/

/-! ### calls of builtins -/
def rC1 (C : Cfg) (g : D → Option R) : List V → Hp → VK → Prop := fun xs H Q => ∃ x, xs = [x] ∧ rG1 C g x H Q
def rC2 (C : Cfg) (g : D → D → Option R) : List V → Hp → VK → Prop := fun xs H Q => ∃ x y, xs = [x, y] ∧ rG2 C g x y H Q
section
variable {X : Cx} {e a b : Expr} {ev ea eb : EV} {pos p : Pos} {g1 : D → Option R} {g2 : D → D → Option R} {x : Str} {id : String}
theorem sim_b1 (hc : CallR X (.builtin id) (rC1 (cfg X) g1)) (hg : Gl X x) (hm : X.mg x = none) (hv : bootBuiltins x = some (.builtin id)) (ha : SimE X a ea) (hn : x ≠ "__name__" := by decide) (hdb : (x == ("__debug__" : Str)) = false := by decide)
    (hs : starEach [a] X.env = (false, eval a X.env) :: starEach [] X.env := by rfl) : SimE X (.Call (.Name x p) [a] [] pos) (ev1 g1 ea) :=
  (pe_callB hc hg hm hv (pa_cons ha pa_nil hs) hn hdb hs rfl).weak fun σ H Q h => by
    obtain ⟨G, Fb, A, r, A', hG, rel, he, q⟩ := weak1 h
    exact ⟨G, Fb, A, r, A', hG, rel, he, fun v H1 Fb1 p1 h1 f1 => ⟨v, rfl, q v H1 Fb1 p1 h1 f1⟩⟩
theorem sim_t1 (hc : CallR X (.type id) (rC1 (cfg X) g1)) (hg : Gl X x) (hm : X.mg x = none) (hv : bootBuiltins x = some (.type id)) (ha : SimE X a ea) (hn : x ≠ "__name__" := by decide) (hdb : (x == ("__debug__" : Str)) = false := by decide)
    (hs : starEach [a] X.env = (false, eval a X.env) :: starEach [] X.env := by rfl) : SimE X (.Call (.Name x p) [a] [] pos) (ev1 g1 ea) :=
  (pe_callTy hc hg hm hv (pa_cons ha pa_nil hs) hn hdb hs rfl).weak fun σ H Q h => by
    obtain ⟨G, Fb, A, r, A', hG, rel, he, q⟩ := weak1 h
    exact ⟨G, Fb, A, r, A', hG, rel, he, fun v H1 Fb1 p1 h1 f1 => ⟨v, rfl, q v H1 Fb1 p1 h1 f1⟩⟩
theorem sim_b2 (hc : CallR X (.builtin id) (rC2 (cfg X) g2)) (hg : Gl X x) (hm : X.mg x = none) (hv : bootBuiltins x = some (.builtin id)) (ha : SimE X a ea) (hb : SimE X b eb) (hn : x ≠ "__name__" := by decide) (hdb : (x == ("__debug__" : Str)) = false := by decide)
    (hs : starEach [a, b] X.env = (false, eval a X.env) :: starEach [b] X.env := by rfl) (hs2 : starEach [b] X.env = (false, eval b X.env) :: starEach [] X.env := by rfl) : SimE X (.Call (.Name x p) [a, b] [] pos) (ev2 g2 ea eb) :=
  (pe_callB hc hg hm hv (pa_cons ha (pa_cons hb pa_nil hs2) hs) hn hdb hs (by rw [hs2] <;> rfl)).weak fun σ H Q h => by
    obtain ⟨G, Fb, A, r, A', hG, rel, he, q⟩ := weak2 h
    refine ⟨G, Fb, A, r, A', hG, rel, he, fun v H1 Fb1 p1 h1 f1 => ?_⟩
    obtain ⟨G, Fb, A, r, A', hG, rel, he, q⟩ := q v H1 Fb1 p1 h1 f1
    exact ⟨G, Fb, A, r, A', hG, rel, he, fun u H2 Fb2 p2 h2 f2 => ⟨v, u, rfl, q u H2 Fb2 p2 h2 f2⟩⟩
end
def gLen : D → Option R
  | .lst xs => some (.d (.int xs.length))
  | .tup xs => some (.d (.int xs.length))
  | .str z => if z.length ≤ LIM then some (.d (.int z.length)) else none
  | .scr ns => some (.d (.int ns.length))
  | _ => none
def gAbs : D → Option R
  | .int i => some (.d (.int (if i < 0 then -i else i)))
  | _ => none
def gInt : D → Option R
  | .int i => some (.d (.int i))
  | .bl b => some (.d (.int (if b then 1 else 0)))
  | _ => none
def gMin2 : D → D → Option R
  | .int i, .int j => some (.d (.int (if j < i then j else i)))
  | _, _ => none
def gMax2 : D → D → Option R
  | .int i, .int j => some (.d (.int (if j > i then j else i)))
  | _, _ => none
def gList : D → Option R
  | .lst xs => some (.fr (.lst xs))
  | .tup xs => some (.fr (.lst xs))
  | _ => none
def gTuple : D → Option R
  | .lst xs => some (.d (.tup xs))
  | .tup xs => some (.d (.tup xs))
  | _ => none
def intsD : List D → Option (List Int)
  | [] => some []
  | .int i :: r => (intsD r).map (i :: ·)
  | _ :: _ => none
def blsD : List D → Option (List Bool)
  | [] => some []
  | .bl i :: r => (blsD r).map (i :: ·)
  | _ :: _ => none
def gSum : D → Option R
  | .lst xs => (intsD xs).map fun ns => .d (.int ns.sum)
  | _ => none
def gAll : D → Option R
  | .lst xs => (blsD xs).map fun bs => .d (.bl (bs.all id))
  | _ => none
def gAny : D → Option R
  | .lst xs => (blsD xs).map fun bs => .d (.bl (bs.any id))
  | _ => none
def maxI : List Int → Int
  | [] => 0
  | n :: ns => ns.foldl max n
def minI : List Int → Int
  | [] => 0
  | n :: ns => ns.foldl min n
def gMaxL : D → Option R
  | .lst xs => match intsD xs with
    | some (n :: ns) => some (.d (.int (maxI (n :: ns))))
    | _ => none
  | _ => none
theorem intsD_eq : ∀ {xs : List D} {ns : List Int}, intsD xs = some ns → xs = ns.map .int
  | [], ns, h => by cases h; rfl
  | .int i :: r, ns, h => by
    simp only [intsD] at h
    cases q : intsD r with
    | none => rw [q] at h; cases h
    | some ms => rw [q] at h; cases h; rw [intsD_eq q]; rfl
  | .non :: _, _, h => by cases h
  | .bl _ :: _, _, h => by cases h
  | .str _ :: _, _, h => by cases h
  | .tup _ :: _, _, h => by cases h
  | .lst _ :: _, _, h => by cases h
  | .dct _ _ :: _, _, h => by cases h
  | .scr _ :: _, _, h => by cases h
@[simp] theorem intsD_map : ∀ ns : List Int, intsD (ns.map .int) = some ns
  | [] => rfl
  | n :: ns => by simp only [List.map_cons, intsD, intsD_map ns, Option.map_some]
theorem blsD_eq : ∀ {xs : List D} {ns : List Bool}, blsD xs = some ns → xs = ns.map .bl
  | [], ns, h => by cases h; rfl
  | .bl i :: r, ns, h => by
    simp only [blsD] at h
    cases q : blsD r with
    | none => rw [q] at h; cases h
    | some ms => rw [q] at h; cases h; rw [blsD_eq q]; rfl
  | .non :: _, _, h => by cases h
  | .int _ :: _, _, h => by cases h
  | .str _ :: _, _, h => by cases h
  | .tup _ :: _, _, h => by cases h
  | .lst _ :: _, _, h => by cases h
  | .dct _ _ :: _, _, h => by cases h
  | .scr _ :: _, _, h => by cases h
@[simp] theorem blsD_map : ∀ ns : List Bool, blsD (ns.map .bl) = some ns
  | [] => rfl
  | n :: ns => by simp only [List.map_cons, blsD, blsD_map ns, Option.map_some]
theorem reps_ints_eq {C : Cfg} {H : Hp} {S : Addr → Prop} : ∀ {ns : List Int} {vs : List V}, Reps C H S (ns.map .int) vs → vs = ns.map V.int
  | [], vs, h => by rw [List.map_nil, Reps] at h; exact h
  | n :: ns, vs, h => by
    rw [List.map_cons, Reps] at h
    obtain ⟨v, r, rfl, h1, h2⟩ := h
    rw [Rep] at h1
    rw [h1, reps_ints_eq h2]; rfl
theorem reps_bls_eq {C : Cfg} {H : Hp} {S : Addr → Prop} : ∀ {ns : List Bool} {vs : List V}, Reps C H S (ns.map .bl) vs → vs = ns.map V.bl
  | [], vs, h => by rw [List.map_nil, Reps] at h; exact h
  | n :: ns, vs, h => by
    rw [List.map_cons, Reps] at h
    obtain ⟨v, r, rfl, h1, h2⟩ := h
    rw [Rep] at h1
    rw [h1, reps_bls_eq h2]; rfl
theorem foldl_max_ge : ∀ (ns : List Int) (n : Int), n ≤ ns.foldl max n ∧ ∀ y, y ∈ ns → y ≤ ns.foldl max n
  | [], n => ⟨Int.le_refl _, fun _ h => nomatch h⟩
  | m :: ns, n => by
    rw [List.foldl_cons]
    obtain ⟨h1, h2⟩ := foldl_max_ge ns (max n m)
    refine ⟨Int.le_trans (Int.le_max_left _ _) h1, fun y hy => ?_⟩
    rcases List.mem_cons.mp hy with e | e
    · subst e; exact Int.le_trans (Int.le_max_right _ _) h1
    · exact h2 y e
section
variable {X : Cx}
theorem crg_len : CallR X (.builtin "len") (rC1 (cfg X) gLen) := (callr_or call_len_seq call_len_str).weakR fun xs H Q h => by
  obtain ⟨x, rfl, S, dx, r, ok, px, e, k⟩ := h
  unfold gLen at e
  split at e
  · cases e
    obtain ⟨a, vs, rfl, q, r⟩ := px.lst
    rw [r.length] at k
    exact .inl ⟨a, vs, rfl, .inl q.sql, resD k .mkInt⟩
  · cases e
    obtain ⟨a, vs, rfl, q, r⟩ := px.tup
    rw [r.length] at k
    exact .inl ⟨a, vs, rfl, .inr q, resD k .mkInt⟩
  · split at e
    · rename_i hz
      cases e
      have := px.str; subst this
      exact .inr ⟨_, rfl, by rw [← lim_line]; exact hz, resD k .mkInt⟩
    · cases e
  · cases e
    have px : Rep _ _ _ _ _ := px
    obtain ⟨a, rfl, q⟩ := scr_seq px
    refine .inl ⟨a, _, rfl, .inl q, ?_⟩
    rw [List.length_map]
    exact resD k .mkInt
  · cases e
theorem crg_abs : CallR X (.builtin "abs") (rC1 (cfg X) gAbs) := call_abs.weakR fun xs H Q h => by
  obtain ⟨x, rfl, S, dx, r, ok, px, e, k⟩ := h
  unfold gAbs at e
  split at e
  · cases e
    have := px.int; subst this
    exact ⟨_, rfl, resD k .mkInt⟩
  · cases e
theorem crg_int : CallR X (.type "int") (rC1 (cfg X) gInt) := call_int1.weakR fun xs H Q h => by
  obtain ⟨x, rfl, S, dx, r, ok, px, e, k⟩ := h
  unfold gInt at e
  split at e
  · cases e
    have := px.int; subst this
    exact .inl ⟨_, rfl, resD k .mkInt⟩
  · cases e
    have := px.bl; subst this
    exact .inr ⟨_, rfl, resD k .mkInt⟩
  · cases e
theorem crg_min2 (hc : X.calm = true) : CallR X (.builtin "min") (rC2 (cfg X) gMin2) := (call_min2 hc).weakR fun xs H Q h => by
  obtain ⟨x, y, rfl, S, dx, dy, r, ok, px, py, e, k⟩ := h
  unfold gMin2 at e
  split at e
  · cases e
    have := px.int; have := py.int; subst_vars
    exact ⟨_, _, rfl, resD k .mkInt⟩
  · cases e
theorem crg_max2 (hc : X.calm = true) : CallR X (.builtin "max") (rC2 (cfg X) gMax2) := (call_max2 hc).weakR fun xs H Q h => by
  obtain ⟨x, y, rfl, S, dx, dy, r, ok, px, py, e, k⟩ := h
  unfold gMax2 at e
  split at e
  · cases e
    have := px.int; have := py.int; subst_vars
    exact ⟨_, _, rfl, resD k .mkInt⟩
  · cases e
theorem crg_list : CallR X (.type "list") (rC1 (cfg X) gList) := call_list_of.weakR fun xs H Q h => by
  obtain ⟨x, rfl, S, dx, r, ok, px, e, k⟩ := h
  unfold gList at e
  split at e
  · cases e
    obtain ⟨a, vs, rfl, q, r⟩ := px.lst
    exact ⟨a, vs, rfl, .inl q.sql, resLst ok k r⟩
  · cases e
    obtain ⟨a, vs, rfl, q, r⟩ := px.tup
    exact ⟨a, vs, rfl, .inr q, resLst ok k r⟩
  · cases e
theorem crg_tuple : CallR X (.type "tuple") (rC1 (cfg X) gTuple) := call_tuple_of.weakR fun xs H Q h => by
  obtain ⟨x, rfl, S, dx, r, ok, px, e, k⟩ := h
  unfold gTuple at e
  split at e
  · cases e
    obtain ⟨a, vs, rfl, q, r⟩ := px.lst
    exact ⟨a, vs, rfl, .inl ⟨q.sql, resTup ok k r⟩⟩
  · cases e
    obtain ⟨a, vs, rfl, q, r⟩ := px.tup
    exact ⟨a, vs, rfl, .inr ⟨q, resD k (.mkTup q r)⟩⟩
  · cases e
theorem crg_sum (hc : X.calm = true) : CallR X (.builtin "sum") (rC1 (cfg X) gSum) := (cr_sum hc).weakR fun xs H Q h => by
  obtain ⟨x, rfl, S, dx, r, ok, px, e, k⟩ := h
  unfold gSum at e
  split at e
  · rename_i xs
    cases z : intsD xs with
    | none => rw [z] at e; cases e
    | some ns =>
      rw [z] at e
      cases e
      obtain ⟨a, vs, rfl, q, r⟩ := px.lst
      rw [intsD_eq z] at r
      have := reps_ints_eq r; subst this
      exact ⟨a, ns, rfl, q.sql, resD k .mkInt⟩
  · cases e
theorem crg_all (hc : X.calm = true) : CallR X (.builtin "all") (rC1 (cfg X) gAll) := (cr_all hc).weakR fun xs H Q h => by
  obtain ⟨x, rfl, S, dx, r, ok, px, e, k⟩ := h
  unfold gAll at e
  split at e
  · rename_i xs
    cases z : blsD xs with
    | none => rw [z] at e; cases e
    | some ns =>
      rw [z] at e
      cases e
      obtain ⟨a, vs, rfl, q, r⟩ := px.lst
      rw [blsD_eq z] at r
      have := reps_bls_eq r; subst this
      exact ⟨a, ns, rfl, q.sql, resD k .mkBl⟩
  · cases e
theorem crg_any (hc : X.calm = true) : CallR X (.builtin "any") (rC1 (cfg X) gAny) := (cr_any hc).weakR fun xs H Q h => by
  obtain ⟨x, rfl, S, dx, r, ok, px, e, k⟩ := h
  unfold gAny at e
  split at e
  · rename_i xs
    cases z : blsD xs with
    | none => rw [z] at e; cases e
    | some ns =>
      rw [z] at e
      cases e
      obtain ⟨a, vs, rfl, q, r⟩ := px.lst
      rw [blsD_eq z] at r
      have := reps_bls_eq r; subst this
      exact ⟨a, ns, rfl, q.sql, resD k .mkBl⟩
  · cases e
theorem crg_maxL (hc : X.calm = true) : CallR X (.builtin "max") (rC1 (cfg X) gMaxL) := (cr_max hc).weakR fun xs H Q h => by
  obtain ⟨x, rfl, S, dx, r, ok, px, e, k⟩ := h
  unfold gMaxL at e
  split at e
  · rename_i xs
    split at e
    · rename_i n ns z
      cases e
      obtain ⟨a, vs, rfl, q, r⟩ := px.lst
      rw [intsD_eq z] at r
      have := reps_ints_eq r; subst this
      refine ⟨a, n :: ns, rfl, q.sql, Nat.succ_pos _, fun m hm hall => ?_⟩
      obtain ⟨g1, g2⟩ := foldl_max_ge ns n
      have e1 : m ≤ ns.foldl max n := by
        rcases List.mem_cons.mp hm with z | z
        · subst z; exact g1
        · exact g2 m z
      have e2 : ns.foldl max n ≤ m := by
        have : ns.foldl max n ∈ n :: ns := by
          have key : ∀ (ns : List Int) (n : Int), ns.foldl max n ∈ n :: ns := by
            intro ns
            induction ns with
            | nil => intro n; exact List.mem_cons_self
            | cons k ns ih =>
              intro n
              rw [List.foldl_cons]
              rcases List.mem_cons.mp (ih (max n k)) with z | z
              · rw [z]
                rcases Int.le_total n k with y | y
                · rw [Int.max_eq_right y]; exact List.mem_cons_of_mem _ List.mem_cons_self
                · rw [Int.max_eq_left y]; exact List.mem_cons_self
              · exact List.mem_cons_of_mem _ (List.mem_cons_of_mem _ z)
          exact key ns n
        exact hall _ this
      have : m = maxI (n :: ns) := Int.le_antisymm e1 e2
      subst this
      exact resD k .mkInt
    · cases e
  · cases e
end

/-! ### list(range(..)), tuple(range(..)) -/
def evListRg (iv : IV) : EV := fun A => match iv A with
  | some (xs, A1) => if xs.length ≤ LIM then some (.fr (.lst xs), A1) else none
  | none => none
def evTupRg (iv : IV) : EV := fun A => match iv A with
  | some (xs, A1) => if xs.length ≤ LIM then some (.d (.tup xs), A1) else none
  | none => none
theorem reps_rg {C : Cfg} {H : Hp} {S : Addr → Prop} (a b : Int) : Reps C H S (rngD a b) (rgV a b) := by
  unfold rngD rgV
  generalize List.range (b - a).toNat = l
  induction l with
  | nil => exact Reps.nil
  | cons x l ih => exact Reps.cons .mkInt ih
section
variable {X : Cx} {a : Expr} {ea : EV} {pos p p1 p2 : Pos}
theorem rg_weak {σ : St} {H : Hp} {R : Int → Int → Hp → Prop} (h : ∃ G Fb A xs A', G.toCfg = cfg X ∧ RelSt G Fb A σ H ∧ ivRng1 ea A = some (xs, A') ∧ ∀ j H1, -(2 ^ 62) ≤ j → j < 2 ^ 62 → xs = rngD 0 j → Post G Fb Fb A A' σ H H1 → R 0 j H1) : tRg1 (tS (cfg X) ea) σ H R := by
  obtain ⟨G, Fb, A, xs, A', hG, rel, he, q⟩ := h
  unfold ivRng1 at he
  split at he
  · rename_i r A1 e1
    split at he
    · rename_i j hj
      split at he
      · rename_i hb
        cases he
        refine ⟨G, Fb, A, r, A', hG, rel, e1, fun v H1 Fb1 p1 h1 f1 => ?_⟩
        exact ⟨j, (h1.peek p1.rel hj).int, q j H1 hb.1 hb.2 rfl (p1.then p1.rel (.refl _ _ _))⟩
      · cases he
    · cases he
  · cases he
theorem rngD_len (a b : Int) : (rngD a b).length = (b - a).toNat := by unfold rngD; rw [List.length_map, List.length_range]
theorem sim_listRg (hc : X.calm = true) (hg : Gl X "list") (hm : X.mg "list" = none) (hg2 : Gl X "range") (hm2 : X.mg "range" = none) (ha : SimE X a ea) (hs : starEach [a] X.env = (false, eval a X.env) :: starEach [] X.env := by rfl)
    (hs2 : starEach [.Call (.Name "range" p2) [a] [] p1] X.env = (false, eval (.Call (.Name "range" p2) [a] [] p1) X.env) :: starEach [] X.env := by rfl) : SimE X (.Call (.Name "list" p) [.Call (.Name "range" p2) [a] [] p1] [] pos) (evListRg (ivRng1 ea)) :=
  (pe_listRg hc hg hm (prg_1 hg2 hm2 ha hs) hs2).weak fun σ H Q h => by
    obtain ⟨G, Fb, A, r, A', hG, rel, he, q⟩ := h
    unfold evListRg at he
    split at he
    · rename_i xs A1 e1
      split at he
      · rename_i hz
        cases he
        refine rg_weak ⟨G, Fb, A, xs, A', hG, rel, e1, fun j H1 b1 b2 ex p1 => ⟨⟨by decide, by decide, b1, b2, ?_⟩, ?_⟩⟩
        · subst ex
          rw [rngD_len] at hz
          exact hz
        · have := resK_of (r := .fr (.lst xs)) p1 (fun i e => nomatch e) q
          exact resLst p1.rel.busy this (by rw [ex]; exact reps_rg 0 j)
      · cases he
    · cases he
theorem sim_tupRg (hc : X.calm = true) (hg : Gl X "tuple") (hm : X.mg "tuple" = none) (hg2 : Gl X "range") (hm2 : X.mg "range" = none) (ha : SimE X a ea) (hs : starEach [a] X.env = (false, eval a X.env) :: starEach [] X.env := by rfl)
    (hs2 : starEach [.Call (.Name "range" p2) [a] [] p1] X.env = (false, eval (.Call (.Name "range" p2) [a] [] p1) X.env) :: starEach [] X.env := by rfl) : SimE X (.Call (.Name "tuple" p) [.Call (.Name "range" p2) [a] [] p1] [] pos) (evTupRg (ivRng1 ea)) :=
  (pe_tupRg hc hg hm (prg_1 hg2 hm2 ha hs) hs2).weak fun σ H Q h => by
    obtain ⟨G, Fb, A, r, A', hG, rel, he, q⟩ := h
    unfold evTupRg at he
    split at he
    · rename_i xs A1 e1
      split at he
      · rename_i hz
        cases he
        refine rg_weak ⟨G, Fb, A, xs, A', hG, rel, e1, fun j H1 b1 b2 ex p1 => ⟨⟨by decide, by decide, b1, b2, ?_⟩, ?_⟩⟩
        · subst ex
          rw [rngD_len] at hz
          exact hz
        · have := resK_of (r := .d (.tup xs)) p1 (fun i e => nomatch e) q
          exact resTup p1.rel.busy this (by rw [ex]; exact reps_rg 0 j)
      · cases he
    · cases he
end

/-! ### isinstance -/
def tyOf : D → Option String
  | .non => some "NoneType"
  | .bl _ => some "bool"
  | .int _ => some "int"
  | .str _ => some "str"
  | .tup _ => some "tuple"
  | .lst _ => some "list"
  | .dct _ _ => none
  | .scr _ => none
/-- which of the types a thing is -/
def isaD (cs : List String) (d : D) : Option Bool := (tyOf d).map fun t => cs.any fun c => t == c || (t == "bool" && c == "int")
def gIsa (cs : List String) : D → Option R := fun d => (isaD cs d).map fun b => .d (.bl b)
def isaOk (cs : List String) : Bool := cs.all fun c => c == "list" || c == "tuple" || c == "bool" || c == "str" || c == "int"
theorem tyX_of {C : Cfg} {H : Hp} {S : Addr → Prop} {d : D} {v : V} {t : String} (h : PRep C H S d v) (e : tyOf d = some t) : TyX C.K H v (.type t) := by
  cases d with
  | non => cases e; have := h.non; subst this; exact .base .non
  | bl b => cases e; have := h.bl; subst this; exact .base (.bl b)
  | int b => cases e; have := h.int; subst this; exact .base (.int b)
  | str b => cases e; have := h.str; subst this; exact .base (.str b)
  | tup xs =>
    cases e
    obtain ⟨a, vs, rfl, q, r⟩ := h.tup
    rcases q with (q | ⟨o, q⟩) | ⟨o, _, _, q, c, _⟩
    · exact .base (.tup q)
    · exact .fTuple q
    · exact .kTuple q c
  | lst xs =>
    cases e
    obtain ⟨a, vs, rfl, q, r⟩ := h.lst
    exact .base (.lst q)
  | dct _ _ => cases e
  | scr _ => cases e
theorem kit_one (K : PySem.W.Frag) {t c : String} (ht : t = "NoneType" ∨ t = "bool" ∨ t = "int" ∨ t = "str" ∨ t = "tuple" ∨ t = "list") (hc : c = "list" ∨ c = "tuple" ∨ c = "bool" ∨ c = "str" ∨ c = "int") :
    PySem.W.kitOne K (.type t) (.type c) = some (t == c || (t == "bool" && c == "int")) := by
  rcases ht with rfl | rfl | rfl | rfl | rfl | rfl <;> rcases hc with rfl | rfl | rfl | rfl | rfl <;> rfl
theorem tyOf_in {d : D} {t : String} (e : tyOf d = some t) : t = "NoneType" ∨ t = "bool" ∨ t = "int" ∨ t = "str" ∨ t = "tuple" ∨ t = "list" := by
  cases d <;> cases e <;> simp
theorem isaOk_in {c : String} (h : (c == "list" || c == "tuple" || c == "bool" || c == "str" || c == "int") = true) : c = "list" ∨ c = "tuple" ∨ c = "bool" ∨ c = "str" ∨ c = "int" := by
  simp only [Bool.or_eq_true, beq_iff_eq] at h
  rcases h with (((h | h) | h) | h) | h
  · exact .inl h
  · exact .inr (.inl h)
  · exact .inr (.inr (.inl h))
  · exact .inr (.inr (.inr (.inl h)))
  · exact .inr (.inr (.inr (.inr h)))
theorem kit_any (K : PySem.W.Frag) {d : D} {t : String} (e : tyOf d = some t) : ∀ cs : List String, isaOk cs = true → PySem.W.kitAny K (.type t) (cs.map .type) = some (cs.any fun c => t == c || (t == "bool" && c == "int"))
  | [], _ => rfl
  | c :: cs, h => by
    unfold isaOk at h
    rw [List.all_cons, Bool.and_eq_true] at h
    rw [List.map_cons, PySem.W.kitAny, kit_one K (tyOf_in e) (isaOk_in h.1), List.any_cons]
    cases hb : (t == c || (t == "bool" && c == "int")) with
    | true => rfl
    | false =>
      show PySem.W.kitAny K (.type t) (cs.map .type) = _
      rw [kit_any K e cs h.2]
      rfl
def tTys (cs : List String) : TA := fun σ H Q => Q (cs.map V.ty) H
section
variable {X : Cx} {e a b : Expr} {ev ea eb : EV} {pos p p1 p2 : Pos}
/-- the names of types, as a list of arguments -/
theorem pa_ty {x : Str} {c : String} {es : List Expr} {cs : List String} (hg : Gl X x) (hm : X.mg x = none) (hv : bootBuiltins x = some (.type c)) (h : PA X es (tTys cs)) (hs : starEach (.Name x p :: es) X.env = (false, eval (.Name x p) X.env) :: starEach es X.env := by rfl) (hn : x ≠ "__name__" := by decide)
    (hdb : (x == ("__debug__" : Str)) = false := by decide) : PA X (.Name x p :: es) (tTys (c :: cs)) := (pa_cons (pe_bltn (v := V.ty c) hg hm hv rfl hn hdb) h hs).weak fun σ H Q q => q
theorem pa_ty0 : PA X [] (tTys []) := pa_nil.weak fun σ H Q q => q
theorem paired_ty : ∀ cs : List String, Paired ClsV (cs.map V.ty) (cs.map Value.type)
  | [] => .nil
  | c :: cs => .cons (.ty c) (paired_ty cs)
theorem sim_isT {cs : List String} {es : List Expr} {k : Nat} (hok : isaOk cs = true) (hl : cs.length ≤ 16) (hg : Gl X "isinstance") (hm : X.mg "isinstance" = none) (ha : SimE X a ea) (hes : PA X es (tTys cs))
    (hs : starEach [a, .Tuple es k p2] X.env = (false, eval a X.env) :: starEach [.Tuple es k p2] X.env := by rfl) (hs2 : starEach [.Tuple es k p2] X.env = (false, eval (.Tuple es k p2) X.env) :: starEach [] X.env := by rfl) :
    SimE X (.Call (.Name "isinstance" p) [a, .Tuple es k p2] [] pos) (ev1 (gIsa cs) ea) :=
  (pe_callB call_isiT hg hm boot_isinstance (pa_cons ha (pa_cons (pe_tup hes) pa_nil hs2) hs) (by decide) (by decide) hs (by rw [hs2] <;> rfl)).weak fun σ H Q h => by
    obtain ⟨G, Fb, A, r, A', hG, rel, he, q⟩ := weak1 h
    refine ⟨G, Fb, A, r, A', hG, rel, he, fun v H1 Fb1 p1 h1 f1 => ?_⟩
    obtain ⟨S, dx, r, ok, px, e, k⟩ := q v H1 Fb1 p1 h1 f1
    unfold gIsa isaD at e
    cases et : tyOf dx with
    | none => rw [et] at e; cases e
    | some t =>
      rw [et] at e
      cases e
      refine ⟨by rw [List.length_map, ← lim_line]; exact Nat.le_trans hl (by decide), fun tp n => ?_⟩
      refine ⟨v, tp, cs.map V.ty, .type t, cs.map Value.type, _, rfl, upd_same, paired_ty cs, ?_, kit_any _ et cs hok, k _ _ (Ext.new n) .mkBl⟩
      have := tyX_of px et
      cases this with
      | base b =>
        refine .base ?_
        cases b with
        | non => exact .non
        | bl _ => exact .bl _
        | int _ => exact .int _
        | str _ => exact .str _
        | flt _ => exact .flt _
        | lst e => exact .lst (Ext.new n _ _ e)
        | frz e => exact .frz (Ext.new n _ _ e)
        | tup e => exact .tup (Ext.new n _ _ e)
        | dK e => exact .dK (Ext.new n _ _ e)
        | dT e => exact .dT (Ext.new n _ _ e)
      | byt b => exact .byt b
      | set e => exact .set (Ext.new n _ _ e)
      | kList e c => exact .kList e c
      | kTuple e c => exact .kTuple e c
      | kDict e c => exact .kDict e c
      | fTuple e => exact .fTuple (Ext.new n _ _ e)
      | fDict e => exact .fDict (Ext.new n _ _ e)
theorem sim_is1 {c : String} {x : Str} (hok : isaOk [c] = true) (hg : Gl X "isinstance") (hm : X.mg "isinstance" = none) (ha : SimE X a ea) (hgx : Gl X x) (hmx : X.mg x = none) (hv : bootBuiltins x = some (.type c)) 
    (hs : starEach [a, .Name x p2] X.env = (false, eval a X.env) :: starEach [.Name x p2] X.env := by rfl) (hs2 : starEach [.Name x p2] X.env = (false, eval (.Name x p2) X.env) :: starEach [] X.env := by rfl) (hn : x ≠ "__name__" := by decide) (hdb : (x == ("__debug__" : Str)) = false := by decide) :
    SimE X (.Call (.Name "isinstance" p) [a, .Name x p2] [] pos) (ev1 (gIsa [c]) ea) :=
  (pe_callB call_isi hg hm boot_isinstance (pa_cons ha (pa_cons (pe_bltn (v := V.ty c) hgx hmx hv rfl hn hdb) pa_nil hs2) hs) (by decide) (by decide) hs (by rw [hs2] <;> rfl)).weak fun σ H Q h => by
    obtain ⟨G, Fb, A, r, A', hG, rel, he, q⟩ := weak1 h
    refine ⟨G, Fb, A, r, A', hG, rel, he, fun v H1 Fb1 p1 h1 f1 => ?_⟩
    obtain ⟨S, dx, r, ok, px, e, k⟩ := q v H1 Fb1 p1 h1 f1
    unfold gIsa isaD at e
    cases et : tyOf dx with
    | none => rw [et] at e; cases e
    | some t =>
      rw [et] at e
      cases e
      unfold isaOk at hok
      rw [List.all_cons, Bool.and_eq_true] at hok
      refine ⟨v, V.ty c, .type t, .type c, _, rfl, .ty c, tyX_of px et, kit_one _ (tyOf_in et) (isaOk_in hok.1), ?_⟩
      have e1 : ([c].any fun c => t == c || (t == "bool" && c == "int")) = (t == c || (t == "bool" && c == "int")) := by rw [List.any_cons, List.any_nil, Bool.or_false]
      have k : ResK (cfg X) H1 S (.d (.bl ([c].any fun c => t == c || (t == "bool" && c == "int")))) Q := k
      rw [e1] at k
      exact resD k .mkBl
end

/-! ### a or b, by truth -/
def evOrV (ea eb : EV) : EV := fun A => match ea A with
  | some (r, A1) => match peek A1 r with
    | some x => match truD x with
      | some true => some (r, A1)
      | some false => eb A1
      | none => none
    | none => none
  | none => none
section
variable {X : Cx} {a b : Expr} {ea eb : EV} {rest : List Expr} {pos : Pos}
theorem sim_orV (ha : SimE X a ea) (hb : SimE X (.BoolOp .Or (b :: rest) pos) eb) : SimE X (.BoolOp .Or (a :: b :: rest) pos) (evOrV ea eb) := (pe_orT ha hb).weak fun σ H Q h => by
  obtain ⟨G, Fb, A, r, A', hG, rel, he, q⟩ := h
  unfold evOrV at he
  split at he
  · rename_i r1 A1 e1
    split at he
    · rename_i x hx
      split at he
      · rename_i ht
        cases he
        refine ⟨G, Fb, A, _, _, hG, rel, e1, fun v H1 Fb1 p1 h1 f1 => ⟨true, ?_, ?_⟩⟩
        · have := tru_of (h1.peek p1.rel hx) ht
          rw [hG] at this
          exact this
        · exact iteT (q v H1 Fb1 p1 h1 f1)
      · rename_i ht
        refine ⟨G, Fb, A, _, _, hG, rel, e1, fun v H1 Fb1 p1 h1 f1 => ⟨false, ?_, ?_⟩⟩
        · have := tru_of (h1.peek p1.rel hx) ht
          rw [hG] at this
          exact this
        · refine iteF ?_
          have p2 := p1.then p1.rel (.refl _ _ _)
          exact ⟨G, Fb, A1, _, _, hG, p2.rel, he, fun u H2 Fb2 p3 h3 f3 => q u H2 Fb2 (p2.trans p3) h3 f3⟩
      · cases he
    · cases he
  · cases he
end
end Z
/-! Z11: dicts: a dict is locked while it is walked; comprehensions over its keys; dict comprehensions. -/
namespace Z
open PySem PySem.Spec L2
open PyProof.Rows hiding St

/-! ### locks -/
def DctO (u : HO) : Prop := (∃ kvs, u = .dK kvs) ∨ ∃ φ, u = .ext φ
structure Lk (H H' : Hp) (d : Addr) (u : HO) (od : Obj) : Prop where
  at0 : H d = some u
  at1 : H' d = some (.frz od u)
  ne : ∀ a, a ≠ d → H' a = H a
  dct : DctO u
theorem Lk.of {H : Hp} {d : Addr} {u : HO} {od : Obj} (h : H d = some u) (k : DctO u) : Lk H (upd H d (.frz od u)) d u od := ⟨h, upd_same, fun a n => upd_ne n, k⟩
theorem Lk.un {H' : Hp} {d : Addr} {u : HO} {od : Obj} (h : H' d = some (.frz od u)) (k : DctO u) : Lk (upd H' d u) H' d u od := ⟨upd_same, h, fun a n => (upd_ne n).symm, k⟩
section
variable {C : Cfg} {H H' : Hp} {d : Addr} {u : HO} {od : Obj} {S : Addr → Prop}
theorem Lk.other (l : Lk H H' d u od) {a : Addr} {o : HO} (h : H a = some o) (n : ¬ DctO o) : H' a = some o := by
  by_cases z : a = d
  · subst z; rw [l.at0] at h; cases h; exact absurd l.dct n
  · rw [l.ne a z]; exact h
theorem Lk.other' (l : Lk H H' d u od) {a : Addr} {o : HO} (h : H' a = some o) (n : o ≠ .frz od u) : H a = some o := by
  by_cases z : a = d
  · subst z; rw [l.at1] at h; cases h; exact absurd rfl n
  · rw [← l.ne a z]; exact h
theorem not_dct_lst {xs : List V} : ¬ DctO (.lst xs) := fun h => by rcases h with ⟨_, h⟩ | ⟨_, h⟩ <;> cases h
theorem not_dct_tup {xs : List V} : ¬ DctO (.tup xs) := fun h => by rcases h with ⟨_, h⟩ | ⟨_, h⟩ <;> cases h
theorem not_dct_frz {o : Obj} {x : HO} : ¬ DctO (.frz o x) := fun h => by rcases h with ⟨_, h⟩ | ⟨_, h⟩ <;> cases h
theorem Lk.sqT (l : Lk H H' d u od) {K : PySem.W.Frag} {a : Addr} {vs : List V} : SqT K H a vs ↔ SqT K H' a vs := by
  constructor
  · rintro ((h | ⟨o, h⟩) | h)
    · exact .inl (.inl (l.other h not_dct_tup))
    · exact .inl (.inr ⟨o, l.other h not_dct_frz⟩)
    · exact .inr h
  · rintro ((h | ⟨o, h⟩) | h)
    · exact .inl (.inl (l.other' h fun z => nomatch z))
    · refine .inl (.inr ⟨o, l.other' h fun z => ?_⟩)
      cases z
      exact not_dct_tup l.dct
    · exact .inr h
theorem Lk.hl (l : Lk H H' d u od) {a : Addr} {vs : List V} : HL H a vs ↔ HL H' a vs :=
  ⟨fun h => l.other h not_dct_lst, fun h => l.other' h fun z => nomatch z⟩
theorem Lk.hd (l : Lk H H' d u od) {a : Addr} {x : HO} (nx : ∀ o y, x ≠ .frz o y) : HD H a x ↔ HD H' a x := by
  constructor
  · rintro (h | ⟨o, h⟩)
    · by_cases z : a = d
      · subst z; rw [l.at0] at h; cases h; exact .inr ⟨od, l.at1⟩
      · exact .inl (by rw [l.ne a z]; exact h)
    · exact .inr ⟨o, l.other h not_dct_frz⟩
  · rintro (h | ⟨o, h⟩)
    · by_cases z : a = d
      · subst z; rw [l.at1] at h; cases h; exact absurd rfl (nx _ _)
      · exact .inl (by rw [← l.ne a z]; exact h)
    · by_cases z : a = d
      · subst z; rw [l.at1] at h; cases h; exact .inl l.at0
      · exact .inr ⟨o, by rw [← l.ne a z]; exact h⟩
mutual
theorem Lk.rep (l : Lk H H' d u od) : ∀ (x : D) (v : V), Rep C H S x v ↔ Rep C H' S x v
  | .non, v => by rw [Rep, Rep]
  | .bl _, v => by rw [Rep, Rep]
  | .int _, v => by rw [Rep, Rep]
  | .str _, v => by rw [Rep, Rep]
  | .tup xs, v => by
    rw [Rep, Rep]
    exact exists_congr fun a => exists_congr fun vs => and_congr Iff.rfl (and_congr l.sqT (Lk.reps l xs vs))
  | .lst xs, v => by
    rw [Rep, Rep]
    exact exists_congr fun a => exists_congr fun vs => and_congr Iff.rfl (and_congr Iff.rfl (and_congr l.hl (Lk.reps l xs vs)))
  | .dct ks ws, v => by
    rw [Rep, Rep]
    exact exists_congr fun a => and_congr Iff.rfl (and_congr Iff.rfl (and_congr Iff.rfl (or_congr (exists_congr fun kvs => and_congr (l.hd fun _ _ z => nomatch z) (and_congr Iff.rfl (Lk.reps l ws _)))
      (exists_congr fun xs => and_congr (l.hd fun _ _ z => (by unfold rawO at z; cases z)) (and_congr (Lk.reps l ks _) (and_congr Iff.rfl (Lk.reps l ws _)))))))
  | .scr ns, v => by
    rw [Rep, Rep]
    exact exists_congr fun a => and_congr Iff.rfl (or_congr (and_congr Iff.rfl (l.hd fun _ _ z => nomatch z)) Iff.rfl)
theorem Lk.reps (l : Lk H H' d u od) : ∀ (xs : List D) (vs : List V), Reps C H S xs vs ↔ Reps C H' S xs vs
  | [], vs => by rw [Reps, Reps]
  | x :: xs, vs => by
    rw [Reps, Reps]
    exact exists_congr fun v => exists_congr fun r => and_congr Iff.rfl (and_congr (Lk.rep l x v) (Lk.reps l xs r))
end
theorem Lk.repO (l : Lk H H' d u od) {x : D} {a : Addr} (n : a ≠ d) : RepO C H S x a ↔ RepO C H' S x a := by
  cases x with
  | lst xs => exact exists_congr fun vs => and_congr (by rw [l.ne a n]) (l.reps xs vs)
  | dct ks ws =>
    exact and_congr Iff.rfl (or_congr (exists_congr fun kvs => and_congr (by rw [l.ne a n]) (and_congr Iff.rfl (l.reps ws _)))
      (exists_congr fun xs => and_congr (by rw [l.ne a n]) (and_congr (l.reps ks _) (and_congr Iff.rfl (l.reps ws _)))))
  | _ => exact Iff.rfl
end
/-- the ghost within a lock -/
def Gh.lk (G : Gh) (d : Addr) (u : HO) (od : Obj) : Gh := ⟨G.toCfg, fun a => if a = d then (G.H0 a).map (fun _ => .frz od u) else G.H0 a, G.io⟩
theorem Gh.lk_none {G : Gh} {d : Addr} {u : HO} {od : Obj} {a : Addr} : (G.lk d u od).H0 a = none ↔ G.H0 a = none := by
  unfold Gh.lk
  show (if a = d then (G.H0 a).map (fun _ => HO.frz od u) else G.H0 a) = none ↔ _
  split
  · rw [Option.map_eq_none_iff]
  · exact Iff.rfl
section
variable {G : Gh} {Fb Fb' : Addr → Prop} {A A' : SS} {σ : St} {H H' H2 : Hp} {d : Addr} {u : HO} {od : Obj}
theorem RelSt.lock (rel : RelSt G Fb A σ H) (l : Lk H H' d u od) (nb : ¬ Busy Fb A σ d) : RelSt (G.lk d u od) Fb A σ H' := by
  refine ⟨rel.len, fun a s => ?_, fun i x e => ?_, fun i x e => ?_, fun i x e => ?_, rel.inj, fun a o e n => ?_, fun i a hi => ?_⟩
  · have : a ≠ d := fun z => nb (.inl (z ▸ s))
    rw [l.ne a this]; exact rel.fb a s
  · obtain ⟨v, e1, r⟩ := rel.val i x e
    exact ⟨v, e1, (l.rep x v).mp r⟩
  · obtain ⟨a, e1, r, n, z⟩ := rel.own i x e
    have : a ≠ d := fun z => nb (.inr ⟨i, ⟨_, e, rfl⟩, z ▸ e1⟩)
    exact ⟨a, e1, (l.repO this).mp r, n, Gh.lk_none.mpr z⟩
  · obtain ⟨a, e1, r, n, z⟩ := rel.ioo i x e
    have : a ≠ d := fun z => nb (.inr ⟨i, ⟨_, e, rfl⟩, z ▸ e1⟩)
    exact ⟨a, e1, (l.repO this).mp r, n, z⟩
  · have e' : (if a = d then (G.H0 a).map (fun _ => HO.frz od u) else G.H0 a) = some o := e
    clear e
    split at e'
    · rename_i z
      subst z
      cases q : G.H0 a with
      | none => rw [q] at e'; cases e'
      | some o' => rw [q] at e'; cases e'; exact l.at1
    · rename_i z
      rw [l.ne a z]
      exact rel.ent a o e' n
  · obtain ⟨e1, e2, e3⟩ := rel.ios i a hi
    exact ⟨e1, e2, fun z => e3 (Gh.lk_none.mp z)⟩
/-- behind the lock -/
theorem Post.unlock (rel : RelSt G Fb A σ H) (l : Lk H H' d u od) (nb : ¬ Busy Fb A σ d) (p : Post (G.lk d u od) Fb Fb' A A' σ H' H2) :
    H2 d = some (.frz od u) ∧ Post G Fb Fb' A A' σ H (upd H2 d u) ∧ (∀ r v, HV (G.lk d u od) Fb' A' σ H2 r v → HV G Fb' A' σ (upd H2 d u) r v) := by
  have noD : ∀ i, ¬ OwnAt A σ i d := fun i o => nb (.inr ⟨i, o⟩)
  have e2 : H2 d = some (.frz od u) := p.step.keep d _ l.at1 noD
  have l2 : Lk (upd H2 d u) H2 d u od := Lk.un e2 l.dct
  have nF : ¬ Fb' d := fun s => by
    rcases p.new d s with z | z
    · exact nb (.inl z)
    · rw [l.at1] at z; cases z
  have nO : ∀ i, ¬ OwnAt A' σ i d := fun i o => noD i (p.step.own o)
  have nio : ∀ i, (i, d) ∉ G.io := fun i hi => by
    obtain ⟨⟨x, e⟩, e2, _⟩ := rel.ios i d hi
    exact noD i ⟨⟨_, e, rfl⟩, e2⟩
  have r2 : RelSt G Fb' A' σ (upd H2 d u) := by
    refine ⟨p.rel.len, fun a s => ?_, fun i x e => ?_, fun i x e => ?_, fun i x e => ?_, p.rel.inj, fun a o e n => ?_, fun i a hi => ?_⟩
    · have : a ≠ d := fun z => nF (z ▸ s)
      rw [upd_ne this]; exact p.rel.fb a s
    · obtain ⟨v, e1, r⟩ := p.rel.val i x e
      exact ⟨v, e1, (l2.rep x v).mpr r⟩
    · obtain ⟨a, e1, r, n, z⟩ := p.rel.own i x e
      have : a ≠ d := fun z => nO i (z ▸ ⟨⟨_, e, rfl⟩, e1⟩)
      exact ⟨a, e1, (l2.repO this).mpr r, n, Gh.lk_none.mp z⟩
    · obtain ⟨a, e1, r, n, z⟩ := p.rel.ioo i x e
      have : a ≠ d := fun z => nO i (z ▸ ⟨⟨_, e, rfl⟩, e1⟩)
      exact ⟨a, e1, (l2.repO this).mpr r, n, z⟩
    · by_cases z : a = d
      · subst z
        have := rel.ent a o e nio
        rw [l.at0] at this
        cases this
        exact upd_same
      · rw [upd_ne z]
        refine p.rel.ent a o ?_ n
        show (if a = d then (G.H0 a).map (fun _ => HO.frz od u) else G.H0 a) = some o
        rw [if_neg z]; exact e
    · obtain ⟨e1, e2, e3⟩ := p.rel.ios i a hi
      exact ⟨e1, e2, fun z => e3 (Gh.lk_none.mpr z)⟩
  refine ⟨e2, ⟨p.sub, fun a s => ?_, r2, ⟨fun a o e n => ?_, p.step.mono, fun a e => ?_⟩⟩, fun r v h => ?_⟩
  · rcases p.new a s with z | z
    · exact .inl z
    · refine .inr ?_
      have : a ≠ d := fun y => by rw [y, l.at1] at z; cases z
      rw [← l.ne a this]; exact z
  · by_cases z : a = d
    · subst z
      rw [l.at0] at e
      cases e
      exact upd_same
    · rw [upd_ne z]
      exact p.step.keep a o (by rw [l.ne a z]; exact e) n
  · by_cases z : a = d
    · subst z; rw [upd_same]; exact fun y => nomatch y
    · rw [upd_ne z]
      exact p.step.dom a (by rw [l.ne a z]; exact e)
  · cases r with
    | sl i => exact h
    | d x => exact (l2.rep x v).mpr h
    | fr x =>
      obtain ⟨a, e, f, r⟩ := h
      have : a ≠ d := fun z => nF (z ▸ f)
      exact ⟨a, e, f, (l2.repO this).mpr r⟩
theorem FrOk.unlock {r : R} {v : V} (h : FrOk (G.lk d u od) Fb r v) : FrOk G Fb r v := by
  cases r with
  | fr x => exact fun a e => ⟨(h a e).1, Gh.lk_none.mp (h a e).2⟩
  | _ => trivial
end
theorem pe_either {X : Cx} {e : Expr} {t u : TE} (h : PE X e t) (k : PE X e u) : PE X e (fun σ H Q => t σ H Q ∨ u σ H Q) := ⟨fun pins s σ H Q I q => by
  rcases q with q | q
  · exact h.run pins s σ H Q I q
  · exact k.run pins s σ H Q I q⟩
theorem pi_either {X : Cx} {tg e : Expr} {t u : TI} (h : PI X tg e t) (k : PI X tg e u) : PI X tg e (fun σ H Q => t σ H Q ∨ u σ H Q) := ⟨fun pins s σ H Q I q => by
  rcases q with q | q
  · exact h.run pins s σ H Q I q
  · exact k.run pins s σ H Q I q⟩

/-! ### the keys of a dict of any keys -/
def ItR (P : Program) (w : World) (d : Addr) (o : Obj) (xs : List (NestedKey × Addr × V)) : It :=
  ⟨fun i H => H d = some (.frz o (rawO P w d xs)) ∧ i < xs.length, fun i H x H' => H' = H ∧ ∃ y, xs[i]? = some y ∧ x = .ref y.2.1, fun i H => H d = some (.frz o (rawO P w d xs)) ∧ xs.length ≤ i⟩
theorem raw_frz {X : Cx} {pins : List (Addr × Obj)} {σ : St} {H : Hp} {s : Shared} {d : Addr} {o : Obj} {xs : List (NestedKey × Addr × V)} (I : Inv X pins σ H s) (h : H d = some (.frz o (rawO X.prog X.w d xs))) :
    (d == sysModules) = false ∧ s.heap.get? d = some o ∧ o.ExactDict ∧ ∃ (es : Array DictEntry) (ep : Nat), o.data = .dict es ep ∧ es.size = xs.length ∧ ∀ (i : Nat) (y : NestedKey × Addr × V), xs[i]? = some y → ∃ en : DictEntry, es[i]? = some en ∧ en.key = .ref y.2.1 := by
  obtain ⟨hd, ⟨z, hs, ys, pr, o', es, ep, ho, hx, hdt, he, _⟩, _⟩ := I.hok d _ h
  rw [hd] at ho
  cases ho
  refine ⟨hs, hd, hx, es, ep, hdt, ?_, fun i y e => ?_⟩
  · have l1 : es.size = ys.length := size_of_entries he
    have l2 : xs.length = ys.length := Paired.length pr
    omega
  · obtain ⟨b, hb, e1, e2, _⟩ := paired_get pr e
    have q := entry_at he i
    rw [hb] at q
    exact ⟨_, q, by rw [e2]; rfl⟩
theorem turn_keysR {P : Program} {w : World} {K : PySem.W.Frag} {tg : Expr} {d : Addr} {o : Obj} {es : Array DictEntry} {ep : Nat} {xs : List (NestedKey × Addr × V)} (it : Addr) (hod : o.data = .dict es ep) : Turn P w K tg (ItR P w d o xs) [it] it (fun i h => h.IsKeyIter it d i xs.length ep) where
  mem := by simp
  obj := fun i h st b hb => by
    have e : b = it := by simpa using hb
    subst e
    obtain ⟨oi, e, c, dd⟩ := st
    exact ⟨oi, e, fun v z => by rw [dd] at z; cases z⟩
  keep := fun i h h' st k => st.at fun oi e => k it (by simp) oi e
  item := by
    intro X hP hw hK hc i pins s σ H E I hf st hg
    subst hP hw hK
    obtain ⟨hd, hi⟩ := hg
    obtain ⟨f0, f1, f2, f3, f4, f5⟩ := hf it (by simp)
    obtain ⟨hs, hgd, hx, es', ep', hdt, hsz, ent⟩ := raw_frz I hd
    obtain ⟨rfl, rfl⟩ := dict_ep hod hdt
    obtain ⟨y, hy⟩ : ∃ p, xs[i]? = some p := ⟨xs[i], List.getElem?_eq_getElem hi⟩
    obtain ⟨en, hen, hkey⟩ := ent i y hy
    refine next_key_item st hgd hdt hsz hen fun h' st' sb => ?_
    have I1 : Inv X pins σ H { s with heap := h' } := I.turned (t' := s.toks) (fun b ob hb e => (sb.2 b hb).trans e) f0 f1 f3 f4 f5
    obtain ⟨oi, e, c, dd⟩ := id st'
    exact ⟨en.key, rfl, go_of (s := { s with heap := h' }) e c dd (by decide) ⟨.ref y.2.1, H, I1, hkey, ⟨rfl, y, hy, rfl⟩, st', fun b hb => (hf b hb).1⟩⟩
  done := by
    intro X hP hw hK hc i pins s σ H E I hf st hg
    subst hP hw hK
    obtain ⟨hd, hi⟩ := hg
    obtain ⟨f0, f1, f2, f3, f4, f5⟩ := hf it (by simp)
    obtain ⟨hs, hgd, hx, es', ep', hdt, hsz, ent⟩ := raw_frz I hd
    obtain ⟨rfl, rfl⟩ := dict_ep hod hdt
    exact next_key_end (I.ok.hd hc) st hgd hdt hsz hi fun h' eb => ⟨rfl, I.turned (t' := s.toks) (fun b ob hb e => eb b ob hb e) f0 f1 f3 f4 f5⟩
  self := fun A i s Q E st h => by
    refine wpAny_pyIter_slot st.typeIs F.slot_dict_keyiterator_iter (wpAny_call_entry F.slot_dict_keyiterator_iter st.typeIs F.entry_dict_keyiterator_iter ?_ (F.args_dict_keyiterator_iter_1 _))
    show wpAny _ _ (ret (.ref it)) _ _ s
    exact wpAny_pure ⟨_, rfl, "dict_keyiterator", _, st.typeIs, F.slot_dict_keyiterator_next.lookup, h⟩
def iKeysR (P : Program) (w : World) (td : TE) : TI := fun σ H R => td σ H fun x H1 => ∃ d o xs, x = .ref d ∧ H1 d = some (.frz o (rawO P w d xs)) ∧ R (ItR P w d o xs) H1
theorem pi_keysR {X : Cx} {tg e : Expr} {td : TE} (he : PE X e td) : PI X tg e (iKeysR X.prog X.w td) := by
  refine ⟨fun pins s σ H R I h => ?_⟩
  refine thn (he.run pins s σ H _ I h) fun u s1 ⟨x, H1, I1, rx, d, o, xs, ex, hd, q⟩ => ?_
  subst ex
  obtain rfl : u = Value.ref d := rx
  obtain ⟨hs, hgd, hx, es, ep, hdt, hsz, ent⟩ := raw_frz I1 hd
  refine iter_keys hs hgd hx hdt (pi_one (tk := s1.toks) I1 _ (turn_keysR _ hdt) ⟨_, Heap.get?_push_size _ rfl, rfl, ?_⟩ q)
  rw [hsz] <;> rfl
theorem itOk_keys {C : Cfg} {d : Addr} {o : Obj} {kvs : List (Key × V)} : ItOk C (Itk d o kvs) (kvs.map fun p => keyD p.1) (fun H S => ¬ S d ∧ H d = some (.frz o (.dK kvs))) where
  carry := fun c ⟨n, h⟩ => ⟨c.ne n (by rw [h]; exact fun z => nomatch z), c.keep d _ h n⟩
  go := fun {i x H S} ok ⟨n, h⟩ e => by
    rw [List.getElem?_map] at e
    cases q : kvs[i]? with
    | none => rw [q] at e; cases e
    | some p =>
      rw [q] at e
      cases e
      refine ⟨⟨h, (List.getElem?_eq_some_iff.mp q).1⟩, fun v H' hy => ?_⟩
      obtain ⟨rfl, k, w, e1, rfl⟩ := hy
      rw [q] at e1
      cases e1
      refine ⟨.refl _, ?_⟩
      cases k with
      | inl i => exact .mkInt
      | inr x => exact .mkStr
  stop := fun ok ⟨n, h⟩ l => ⟨h, by rw [List.length_map] at l; exact l⟩
theorem itOk_keysR {C : Cfg} {d : Addr} {o : Obj} {xs : List (NestedKey × Addr × V)} {ks : List D} : ItOk C (ItR C.P C.w d o xs) ks (fun H S => ¬ S d ∧ H d = some (.frz o (rawO C.P C.w d xs)) ∧ Reps C H S ks (xs.map fun x => .ref x.2.1)) where
  carry := fun c ⟨n, h, r⟩ => ⟨c.ne n (by rw [h]; exact fun z => nomatch z), c.keep d _ h n, r.carry c⟩
  go := fun {i x H S} ok ⟨n, h, r⟩ e => by
    obtain ⟨v, ev, rv⟩ := r.get e
    rw [List.getElem?_map] at ev
    cases q : xs[i]? with
    | none => rw [q] at ev; cases ev
    | some p =>
      rw [q] at ev
      cases ev
      refine ⟨⟨h, (List.getElem?_eq_some_iff.mp q).1⟩, fun v H' hy => ?_⟩
      obtain ⟨rfl, y, e1, rfl⟩ := hy
      rw [q] at e1
      cases e1
      exact ⟨.refl _, rv⟩
  stop := fun ok ⟨n, h, r⟩ l => ⟨h, by
    have := r.length
    rw [List.length_map] at this
    omega⟩

/-! ### list comprehensions, their iterator known -/
section
variable {iv : IV} {g : GV} {t : ET} {e : EV} {ws : List Nat}
theorem lc_body {σ : St} {H H1 : Hp} {Q : VK} {vs : List Nat} {G : Gh} {Fb : Addr → Prop} {A A1 A2 : SS} {xs ys : List D} {J : It} {T : Hp → (Addr → Prop) → Prop} {D : Addr} (hws : ∀ i, i ∈ ws → i ∈ vs) (p1 : Post G Fb Fb A A1 σ H H1) (okJ : ItOk G.toCfg J xs T) (t1 : T H1 (Busy Fb A1 σ)) (hz : xs.length ≤ LIM) (ni : noIo A1 vs = true)
    (e2 : lcL g t e vs xs (wipeA A1 vs) = some (ys, A2)) (q : ∀ v H' Fb', Post G Fb Fb' A (backA A1 A2 vs) σ H H' → HV G Fb' (backA A1 A2 vs) σ H' (.fr (.lst ys)) v → FrOk G Fb (.fr (.lst ys)) v → Q v H') (nD : H1 D = none) :
    ∃ W : Nat → Nat → Hp → Prop, (∃ m, W 0 m (upd H1 D (.lst []))) ∧ ∀ i m H, W i m H →
      (J.stop i H ∧ Q (.ref D) H) ∨ (J.go i H ∧ ∃ Nx : Hp → Prop, (∀ H', Nx H' → ∃ m', m' < m ∧ W (i + 1) m' H') ∧ ∀ x H', J.yld i H x H' → tSG G.toCfg ws g x (L2.wipe σ vs) H' fun σ2 H2 => L2.wipe σ2 vs = L2.wipe σ vs ∧ tST G.toCfg t σ2 H2 fun b H3 =>
        if b = true then tS G.toCfg e σ2 H3 fun y H4 => ∃ acc, H4 D = some (.lst acc) ∧ acc.length < sizeLine ∧ Nx (upd H4 D (.lst (acc ++ [y]))) else Nx H3) := by
  have rel1 := p1.rel
  have rD := (rel1.laidF (.lst []) nD trivial).wipe ni
  have hio := io_no rel1 ni
  have hl1 := rel1.len
  have σw := wipe_wipe σ vs
  generalize hAi : wipeA A1 vs = Ai at rD e2
  generalize hσi : L2.wipe σ vs = σi at rD σw
  generalize hFi : FbIn (Also Fb D) A1 σ vs = Fi at rD
  have fD : Fi D := by rw [← hFi]; exact .inl (.inr rfl)
  have h0D : G.H0 D = none := rel1.entNone nD
  have unAi : ∀ i : Nat, i ∈ vs → ∀ s, Ai[i]? = some s → s = .un := fun i hv s es => by
    rw [← hAi, wipeA_get] at es
    by_cases z : i ∈ vs ∧ i < A1.length
    · rw [if_pos z] at es; cases es; rfl
    · rw [if_neg z] at es
      exact absurd ⟨hv, (List.getElem?_eq_some_iff.mp es).1⟩ z
  have outAi : ∀ i : Nat, i ∉ vs → Ai[i]? = A1[i]? := fun i hv => by rw [← hAi, wipeA_get, if_neg (fun z => hv z.1)]
  have outσ : ∀ i : Nat, i ∉ vs → σi[i]? = σ[i]? := fun i hv => by rw [← hσi, wipe_get, if_neg (fun z => hv z.1)]
  have ownAi : ∀ {i : Nat} {a : Addr}, OwnAt Ai σi i a → OwnAt A1 σ i a ∧ i ∉ vs := fun {i a} o => by
    rw [← hAi, ← hσi] at o
    exact own_wipe hl1 o
  have cD : Carry H1 (upd H1 D (.lst [])) (Busy Fb A1 σ) (Busy Fi Ai σi) := ⟨rel1.busy, fun a o ea _ => Ext.new nD a o ea, fun a s => by
    rcases s with s | ⟨i, o⟩
    · rw [← hFi] at s
      rcases s with (s | s) | ⟨v, _, o⟩
      · exact .inl (.inl s)
      · subst s; exact .inr nD
      · exact .inl (.inr ⟨v, o⟩)
    · exact .inl (.inr ⟨i, (ownAi o).1⟩)⟩
  have b0 : Blk G Fi vs Ai Ai σi H1 (upd H1 D (.lst [])) := ⟨rD, fun a o ea _ _ => Ext.new nD a o ea, fun a o ea _ => Ext.new nD a o ea, fun a ea => (Ext.new nD).dom a ea, fun _ => SStep.refl _⟩
  refine ⟨fun i m H' => m = xs.length - i ∧ i ≤ xs.length ∧ ∃ B acc vacc zs, Blk G Fi vs Ai B σi H1 H' ∧ H' D = some (.lst vacc) ∧ Reps G.toCfg H' (Busy Fi B σi) acc vacc ∧ acc.length ≤ i ∧ lcL g t e vs (xs.drop i) B = some (zs, A2) ∧ acc ++ zs = ys ∧ T H' (Busy Fi B σi),
    ⟨xs.length, by simp, Nat.zero_le _, Ai, [], [], ys, b0, upd_same, .nil, Nat.le_refl _, e2, rfl, okJ.carry cD t1⟩, fun i m H2 hw => ?_⟩
  obtain ⟨rfl, hi, B, acc, vacc, zs, blk, hD, racc, lacc, eL, eacc, tB⟩ := hw
  by_cases hl : i < xs.length
  · have gx : xs[i]? = some xs[i] := List.getElem?_eq_getElem hl
    obtain ⟨hgo, hy⟩ := okJ.go blk.rel.busy tB gx
    rw [List.drop_eq_getElem_cons hl] at eL
    simp only [lcL] at eL
    refine .inr ⟨hgo, fun H' => i + 1 ≤ xs.length ∧ ∃ B acc vacc zs, Blk G Fi vs Ai B σi H1 H' ∧ H' D = some (.lst vacc) ∧ Reps G.toCfg H' (Busy Fi B σi) acc vacc ∧ acc.length ≤ i + 1 ∧ lcL g t e vs (xs.drop (i + 1)) B = some (zs, A2) ∧ acc ++ zs = ys ∧ T H' (Busy Fi B σi), fun H' h => ⟨xs.length - (i + 1), by omega, rfl, h⟩, fun v H3 hv => ?_⟩
    obtain ⟨ext, rv⟩ := hy v H3 hv
    have p3 := Post.ext blk.rel ext
    split at eL
    · rename_i A3 e3
      refine ⟨G, Fi, B, xs[i], A3, rfl, p3.rel, rv, e3, fun σ4 H4 p4 o4 => ?_⟩
      have hσ4 : L2.wipe σ4 vs = σi := (wipe_eq o4.len fun j hj => (o4.out j fun z => hj (hws j z)).1).trans σw
      refine ⟨hσ4, ?_⟩
      have sg : SPost G Fi Fi B A3 σi σ4 H2 H4 := p3.s.trans p4
      have mg : ∀ j : Nat, j ∉ vs → SStep B[j]? A3[j]? := fun j hj => by
        rw [(o4.out j fun z => hj (hws j z)).2]
        exact SStep.refl _
      have tg : T H4 (Busy Fi A3 σ4) := okJ.carry (sg.carry blk.rel) tB
      have kD : ∀ {K : Hp} {B' : SS} {σ' : St}, SPost G Fi Fi B B' σi σ' H2 K → K D = some (.lst vacc) := fun {K B' σ'} p => p.keep D _ hD fun j o => by
        obtain ⟨_, _, _, n⟩ := blk.rel.ownO o
        exact n fD
      have kA : ∀ {K : Hp} {B' : SS} {σ' : St}, SPost G Fi Fi B B' σi σ' H2 K → Reps G.toCfg K (Busy Fi B' σ') acc vacc := fun {K B' σ'} p => Reps.carry (p.carry blk.rel) _ _ racc
      -- behind a turn: the names forgotten
      have wsub : ∀ {B' : SS} {σ' : St}, B'.length = σ'.length → L2.wipe σ' vs = σi → ∀ a, Busy Fi (wipeA B' vs) σi a → Busy Fi B' σ' a := fun {B' σ'} hl hσ a s => s.imp id fun ⟨j, o⟩ => ⟨j, by
        rw [← hσ] at o
        exact (own_wipe hl o).1⟩
      split at eL
      · rename_i A4 e4
        refine ⟨G, Fi, A3, false, A4, rfl, p4.rel, e4, fun H5 p5 => ?_⟩
        refine iteF ?_
        have p := sg.trans p5.s
        have bt := blk.turn σw p hσ4 (fun j hj => (mg j hj).trans (p5.step.mono j)) unAi (noIo_rel p5.rel hio)
        have cw := wsub p5.rel.len hσ4
        refine ⟨hl, wipeA A4 vs, acc, vacc, zs, bt, kD p, (kA p).anti p5.rel.busy cw, Nat.le_succ_of_le lacc, eL, eacc, ?_⟩
        exact okJ.carry ⟨p5.rel.busy, fun _ _ e _ => e, fun a s => .inl (cw a s)⟩ (okJ.carry (p5.carry p4.rel) tg)
      · rename_i A4 e4
        split at eL
        · rename_i r A5 e5
          split at eL
          · rename_i y A6 e6
            split at eL
            · rename_i ys' A7 e7
              cases eL
              refine ⟨G, Fi, A3, true, A4, rfl, p4.rel, e4, fun H5 p5 => ?_⟩
              refine iteT ?_
              refine ⟨G, Fi, A4, r, A5, rfl, p5.rel, e5, fun v6 H6 Fb6 p6 h6 f6 => ?_⟩
              obtain ⟨r6, q6, st6⟩ := h6.mv p6.rel p6.sub f6 e6
              have p46 := p6.then r6 st6
              have p := (sg.trans p5.s).trans p46.s
              have hl6 : acc.length < sizeLine := by
                rw [← lim_line]
                omega
              refine ⟨vacc, kD p, by rw [← (kA p).length]; exact hl6, ?_⟩
              have bt := blk.turn σw p hσ4 (fun j hj => ((mg j hj).trans (p5.step.mono j)).trans (p46.step.mono j)) unAi (noIo_rel p46.rel hio)
              have cw := wsub p46.rel.len hσ4
              have cU := carry_updF (o := HO.lst (vacc ++ [v6])) bt.rel fD
              have rA := Reps.carry cU _ _ ((kA p).anti p46.rel.busy cw)
              have rV := Rep.carry cU _ _ (q6.anti p46.rel.busy cw)
              refine ⟨hl, wipeA A6 vs, acc ++ [y], vacc ++ [v6], ys', bt.upd nD fD h0D (o := .lst (vacc ++ [v6])) trivial, upd_same, rA.append (.cons rV .nil), by rw [List.length_append]; exact Nat.succ_le_succ lacc, e7, by rw [List.append_assoc]; exact eacc, ?_⟩
              exact okJ.carry cU (okJ.carry ⟨p46.rel.busy, fun _ _ e _ => e, fun a s => .inl (cw a s)⟩ (okJ.carry (p46.carry p5.rel) (okJ.carry (p5.carry p4.rel) tg)))
            · cases eL
          · cases eL
        · cases eL
      · cases eL
    · cases eL
  · have e0 : xs.drop i = [] := List.drop_eq_nil_iff.mpr (by omega)
    rw [e0] at eL
    simp only [lcL] at eL
    cases eL
    rw [List.append_nil] at eacc
    subst eacc
    refine .inl ⟨okJ.stop blk.rel.busy tB (by omega), ?_⟩
    have unB : ∀ i : Nat, i ∈ vs → ∀ s, A2[i]? = some s → s = .un := fun j hv s es => by
      have m := blk.mono j
      rw [es] at m
      cases z : Ai[j]? with
      | none => rw [z] at m; exact m.elim
      | some u =>
        have := unAi j hv u z
        subst this
        rw [z] at m
        cases s <;> first | rfl | exact m.elim
    have rB := blk.rel
    rw [← hσi] at rB
    obtain ⟨r8, sb8⟩ := RelSt.unwipe (Fi := Fi) (D := D) (H := H2) (A' := A2) rel1 ni rB (fun a s => by rw [← hFi]; exact s) nD unB (fun j hj d ed => by
      have m := blk.mono j
      rw [outAi j hj, ed] at m
      cases z : A2[j]? with
      | none => rw [z] at m; exact m.elim
      | some u =>
        rw [z] at m
        cases u with
        | io d' => exact ⟨d', rfl⟩
        | _ => exact m.elim) (fun a o ea n => by
      by_cases fa : Fi a
      · exact blk.keepF a o ea fa
      · exact blk.keep a o ea fa fun j oj => n j ⟨(ownAi oj).2, (ownAi oj).1⟩) (fun j a oj => by
      rw [hσi] at oj
      have := ownAi (blk.own oj)
      exact .inl ⟨j, this.2, this.1⟩)
    have hlB : A1.length = A2.length := by rw [hl1, blk.rel.len, ← hσi, wipe_length]
    have stp : Step A1 (backA A1 A2 vs) σ H1 H2 := ⟨fun a o ea n => by
      by_cases fa : Fi a
      · exact blk.keepF a o ea fa
      · exact blk.keep a o ea fa fun j oj => n j (ownAi oj).1, fun j => by
      rw [backA_get hlB]
      by_cases hv : j ∈ vs
      · rw [if_pos hv]; exact SStep.refl _
      · rw [if_neg hv, ← outAi j hv]; exact blk.mono j, blk.dom⟩
    refine q _ _ (Also Fb D) ⟨fun _ s => .inl s, fun a s => s.imp id fun z => ?_, r8, p1.step.trans stp⟩ ⟨D, rfl, .inr rfl, vacc, hD, ?_⟩ fun a ea => ?_
    · subst z
      cases ez : H a with
      | none => rfl
      | some o => exact absurd nD (p1.step.dom a (by rw [ez]; exact fun y => nomatch y))
    · rw [hσi] at sb8
      exact racc.anti blk.rel.busy sb8
    · cases ea
      refine ⟨fun s => ?_, h0D⟩
      obtain ⟨o, e, _⟩ := rel1.fb D s
      rw [nD] at e; cases e
end

/-! ### dict comprehensions -/
def dkey : D → Option Key
  | .int i => some (.inl i)
  | .str x => some (.inr x)
  | _ => none
@[simp] theorem dkey_keyD (k : Key) : dkey (keyD k) = some k := by cases k <;> rfl
theorem dkey_eq {d : D} {k : Key} (h : dkey d = some k) : d = keyD k := by
  cases d <;> cases h <;> rfl
theorem dkey_rep {C : Cfg} {H : Hp} {S : Addr → Prop} {d : D} {k : Key} {v : V} (h : dkey d = some k) (p : PRep C H S d v) : v = kV k := by
  cases d <;> cases h
  · exact p.int
  · exact p.str
def putA (acc : List (Key × D)) (k : Key) (y : D) : List (Key × D) := if (acc.any fun p => decide (p.1 = k)) = true then acc.map (fun p => if p.1 = k then (p.1, y) else p) else acc ++ [(k, y)]
section
variable (C : Cfg) (H : Hp) (S : Addr → Prop)
def RepKV : List (Key × D) → List (Key × V) → Prop
  | [], kvs => kvs = []
  | p :: r, kvs => ∃ v s, kvs = (p.1, v) :: s ∧ Rep C H S p.2 v ∧ RepKV r s
end
section
variable {C : Cfg} {H H' : Hp} {S S' : Addr → Prop}
theorem RepKV.keys : ∀ {acc : List (Key × D)} {kvs : List (Key × V)}, RepKV C H S acc kvs → kvs.map (·.1) = acc.map (·.1)
  | [], kvs, h => by rw [RepKV] at h; subst h; rfl
  | p :: r, kvs, h => by
    obtain ⟨v, s, rfl, _, h2⟩ := h
    rw [List.map_cons, List.map_cons, h2.keys]
theorem RepKV.vals : ∀ {acc : List (Key × D)} {kvs : List (Key × V)}, RepKV C H S acc kvs → Reps C H S (acc.map (·.2)) (kvs.map (·.2))
  | [], kvs, h => by rw [RepKV] at h; subst h; exact Reps.nil
  | p :: r, kvs, h => by
    obtain ⟨v, s, rfl, h1, h2⟩ := h
    exact Reps.cons h1 h2.vals
theorem RepKV.mk : ∀ {acc : List (Key × D)} {kvs : List (Key × V)}, kvs.map (·.1) = acc.map (·.1) → Reps C H S (acc.map (·.2)) (kvs.map (·.2)) → RepKV C H S acc kvs
  | [], kvs, h, _ => by
    rw [List.map_nil] at h
    exact List.map_eq_nil_iff.mp h
  | p :: r, [], h, _ => by simp at h
  | p :: r, q :: s, h, t => by
    rw [List.map_cons, List.map_cons, List.cons.injEq] at h
    rw [List.map_cons, List.map_cons, Reps] at t
    obtain ⟨v, u, e, h1, h2⟩ := t
    rw [List.cons.injEq] at e
    obtain ⟨e1, e2⟩ := e
    refine ⟨q.2, s, by rw [← h.1], by rw [e1]; exact h1, RepKV.mk h.2 (by rw [e2]; exact h2)⟩
theorem RepKV.carry (c : Carry H H' S S') : ∀ {acc : List (Key × D)} {kvs : List (Key × V)}, RepKV C H S acc kvs → RepKV C H' S' acc kvs
  | [], kvs, h => h
  | p :: r, kvs, h => by
    obtain ⟨v, s, e, h1, h2⟩ := h
    exact ⟨v, s, e, h1.carry c, h2.carry c⟩
theorem RepKV.anti (ok : SOk H S) (sub : ∀ a, S' a → S a) {acc : List (Key × D)} {kvs : List (Key × V)} (h : RepKV C H S acc kvs) : RepKV C H S' acc kvs := h.carry ⟨ok, fun _ _ e _ => e, fun a s => .inl (sub a s)⟩
theorem RepKV.length {acc : List (Key × D)} {kvs : List (Key × V)} (h : RepKV C H S acc kvs) : acc.length = kvs.length := by
  have := congrArg List.length h.keys
  rw [List.length_map, List.length_map] at this
  exact this.symm
theorem RepKV.any (k : Key) : ∀ {acc : List (Key × D)} {kvs : List (Key × V)}, RepKV C H S acc kvs → (kvs.any fun p => decide (p.1 = k)) = acc.any fun p => decide (p.1 = k)
  | [], kvs, h => by rw [RepKV] at h; subst h; rfl
  | p :: r, kvs, h => by
    obtain ⟨v, s, rfl, _, h2⟩ := h
    rw [List.any_cons, List.any_cons, h2.any k]
theorem RepKV.repl (k : Key) {y : D} {v : V} (hy : Rep C H S y v) : ∀ {acc : List (Key × D)} {kvs : List (Key × V)}, RepKV C H S acc kvs → RepKV C H S (acc.map fun p => if p.1 = k then (p.1, y) else p) (kvs.map fun p => if p.1 = k then (p.1, v) else p)
  | [], kvs, h => by rw [RepKV] at h; subst h; rfl
  | p :: r, kvs, h => by
    obtain ⟨w, s, rfl, h1, h2⟩ := h
    rw [List.map_cons, List.map_cons]
    by_cases z : p.1 = k
    · simp only [if_pos z]
      exact ⟨v, _, rfl, hy, h2.repl k hy⟩
    · simp only [if_neg z]
      exact ⟨w, _, rfl, h1, h2.repl k hy⟩
theorem RepKV.snoc {k : Key} {y : D} {v : V} (hy : Rep C H S y v) : ∀ {acc : List (Key × D)} {kvs : List (Key × V)}, RepKV C H S acc kvs → RepKV C H S (acc ++ [(k, y)]) (kvs ++ [(k, v)])
  | [], kvs, h => by rw [RepKV] at h; subst h; exact ⟨v, [], rfl, hy, rfl⟩
  | p :: r, kvs, h => by
    obtain ⟨w, s, rfl, h1, h2⟩ := h
    exact ⟨w, _, rfl, h1, h2.snoc hy⟩
theorem RepKV.put {k : Key} {y : D} {v : V} (hy : Rep C H S y v) {acc : List (Key × D)} {kvs : List (Key × V)} (h : RepKV C H S acc kvs) : RepKV C H S (putA acc k y) (putK kvs k v) := by
  unfold putA putK
  rw [h.any k]
  split
  · exact h.repl k hy
  · exact h.snoc hy
end
theorem putA_keys (acc : List (Key × D)) (k : Key) (y : D) : (putA acc k y).map (·.1) = if (acc.any fun p => decide (p.1 = k)) = true then acc.map (·.1) else acc.map (·.1) ++ [k] := by
  unfold putA
  split
  · rw [List.map_map]
    refine List.map_congr_left fun p _ => ?_
    show (if p.1 = k then (p.1, y) else p).1 = p.1
    split <;> rfl
  · rw [List.map_append]; rfl
theorem putA_nodup {acc : List (Key × D)} (k : Key) (y : D) (h : (acc.map (·.1)).Nodup) : ((putA acc k y).map (·.1)).Nodup := by
  rw [putA_keys]
  split
  · exact h
  · rename_i z
    rw [List.nodup_append]
    refine ⟨h, by simp, fun a ha b hb e => ?_⟩
    rw [List.mem_singleton] at hb
    subst hb
    subst e
    obtain ⟨p, hp, e⟩ := List.mem_map.mp ha
    exact z (List.any_eq_true.mpr ⟨p, hp, by simpa using e⟩)
theorem putA_len (acc : List (Key × D)) (k : Key) (y : D) : (putA acc k y).length ≤ acc.length + 1 := by
  have := congrArg List.length (putA_keys acc k y)
  rw [List.length_map] at this
  rw [this]
  split
  · rw [List.length_map]; omega
  · rw [List.length_append, List.length_map]; exact Nat.le_refl _
def dctOf (acc : List (Key × D)) : D := .dct (acc.map fun p => keyD p.1) (acc.map (·.2))
theorem keyD_inj {a b : Key} (h : keyD a = keyD b) : a = b := by
  have := congrArg dkey h
  rw [dkey_keyD, dkey_keyD] at this
  exact Option.some.inj this
theorem dctOf_nodup {acc : List (Key × D)} (h : (acc.map (·.1)).Nodup) : (acc.map fun p => keyD p.1).Nodup := by
  have e : (acc.map fun p => keyD p.1) = (acc.map (·.1)).map keyD := by rw [List.map_map]; rfl
  rw [e]
  exact List.Pairwise.map keyD (fun a b n e => n (keyD_inj e)) h
theorem repO_dct {C : Cfg} {H : Hp} {S : Addr → Prop} {a : Addr} {acc : List (Key × D)} {kvs : List (Key × V)} (nd : (acc.map (·.1)).Nodup) (h : H a = some (.dK kvs)) (r : RepKV C H S acc kvs) : RepO C H S (dctOf acc) a := by
  refine ⟨dctOf_nodup nd, .inl ⟨kvs, h, ?_, r.vals⟩⟩
  have e : (acc.map fun p => keyD p.1) = (acc.map (·.1)).map keyD := by rw [List.map_map]; rfl
  rw [e, ← r.keys, List.map_map]; rfl
def dcL (g : GV) (t : ET) (ek ev : EV) (vs : List Nat) : List D → List (Key × D) → SS → Option (List (Key × D) × SS)
  | [], acc, A => some (acc, A)
  | x :: xs, acc, A => match g x A with
    | some A1 => match t A1 with
      | some (false, A2) => dcL g t ek ev vs xs acc (wipeA A2 vs)
      | some (true, A2) => match ek A2 with
        | some (rk, A3) => match peek A3 rk with
          | some dk => match dkey dk with
            | some k => match ev A3 with
              | some (r, A4) => match mv A4 r with
                | some (y, A5) => dcL g t ek ev vs xs (putA acc k y) (wipeA A5 vs)
                | none => none
              | none => none
            | none => none
          | none => none
        | none => none
      | none => none
    | none => none
def evDc (iv : IV) (g : GV) (t : ET) (ek ev : EV) (vs : List Nat) : EV := fun A => match iv A with
  | some (xs, A1) => if xs.length ≤ LIM ∧ noIo A1 vs = true then
      match dcL g t ek ev vs xs [] (wipeA A1 vs) with
      | some (acc, A2) => some (.fr (dctOf acc), backA A1 A2 vs)
      | none => none
    else none
  | none => none
section
variable {iv : IV} {g : GV} {t : ET} {ek e : EV} {ws : List Nat}
theorem dc_body {σ : St} {H H1 : Hp} {Q : VK} {vs : List Nat} {G : Gh} {Fb : Addr → Prop} {A A1 A2 : SS} {xs : List D} {ys : List (Key × D)} {J : It} {T : Hp → (Addr → Prop) → Prop} {D : Addr} (hws : ∀ i, i ∈ ws → i ∈ vs) (p1 : Post G Fb Fb A A1 σ H H1) (okJ : ItOk G.toCfg J xs T) (t1 : T H1 (Busy Fb A1 σ)) (hz : xs.length ≤ LIM) (ni : noIo A1 vs = true)
    (e2 : dcL g t ek e vs xs [] (wipeA A1 vs) = some (ys, A2)) (q : ∀ v H' Fb', Post G Fb Fb' A (backA A1 A2 vs) σ H H' → HV G Fb' (backA A1 A2 vs) σ H' (.fr (dctOf ys)) v → FrOk G Fb (.fr (dctOf ys)) v → Q v H') (nD : H1 D = none) :
    ∃ W : Nat → Nat → Hp → Prop, (∃ m, W 0 m (upd H1 D (.dK []))) ∧ ∀ i m H, W i m H →
      (J.stop i H ∧ Q (.ref D) H) ∨ (J.go i H ∧ ∃ Nx : Hp → Prop, (∀ H', Nx H' → ∃ m', m' < m ∧ W (i + 1) m' H') ∧ ∀ x H', J.yld i H x H' → tSG G.toCfg ws g x (L2.wipe σ vs) H' fun σ2 H2 => L2.wipe σ2 vs = L2.wipe σ vs ∧ tST G.toCfg t σ2 H2 fun b H3 =>
        if b = true then tS G.toCfg ek σ2 H3 fun y H4 => tS G.toCfg e σ2 H4 fun z H5 => ∃ kvs k, y = kV k ∧ H5 D = some (.dK kvs) ∧ kvs.length < sizeLine ∧ Nx (upd H5 D (.dK (putK kvs k z))) else Nx H3) := by
  have rel1 := p1.rel
  have rD := (rel1.laidF (.dK []) nD trivial).wipe ni
  have hio := io_no rel1 ni
  have hl1 := rel1.len
  have σw := wipe_wipe σ vs
  generalize hAi : wipeA A1 vs = Ai at rD e2
  generalize hσi : L2.wipe σ vs = σi at rD σw
  generalize hFi : FbIn (Also Fb D) A1 σ vs = Fi at rD
  have fD : Fi D := by rw [← hFi]; exact .inl (.inr rfl)
  have h0D : G.H0 D = none := rel1.entNone nD
  have unAi : ∀ i : Nat, i ∈ vs → ∀ s, Ai[i]? = some s → s = .un := fun i hv s es => by
    rw [← hAi, wipeA_get] at es
    by_cases z : i ∈ vs ∧ i < A1.length
    · rw [if_pos z] at es; cases es; rfl
    · rw [if_neg z] at es
      exact absurd ⟨hv, (List.getElem?_eq_some_iff.mp es).1⟩ z
  have outAi : ∀ i : Nat, i ∉ vs → Ai[i]? = A1[i]? := fun i hv => by rw [← hAi, wipeA_get, if_neg (fun z => hv z.1)]
  have outσ : ∀ i : Nat, i ∉ vs → σi[i]? = σ[i]? := fun i hv => by rw [← hσi, wipe_get, if_neg (fun z => hv z.1)]
  have ownAi : ∀ {i : Nat} {a : Addr}, OwnAt Ai σi i a → OwnAt A1 σ i a ∧ i ∉ vs := fun {i a} o => by
    rw [← hAi, ← hσi] at o
    exact own_wipe hl1 o
  have cD : Carry H1 (upd H1 D (.dK [])) (Busy Fb A1 σ) (Busy Fi Ai σi) := ⟨rel1.busy, fun a o ea _ => Ext.new nD a o ea, fun a s => by
    rcases s with s | ⟨i, o⟩
    · rw [← hFi] at s
      rcases s with (s | s) | ⟨v, _, o⟩
      · exact .inl (.inl s)
      · subst s; exact .inr nD
      · exact .inl (.inr ⟨v, o⟩)
    · exact .inl (.inr ⟨i, (ownAi o).1⟩)⟩
  have b0 : Blk G Fi vs Ai Ai σi H1 (upd H1 D (.dK [])) := ⟨rD, fun a o ea _ _ => Ext.new nD a o ea, fun a o ea _ => Ext.new nD a o ea, fun a ea => (Ext.new nD).dom a ea, fun _ => SStep.refl _⟩
  refine ⟨fun i m H' => m = xs.length - i ∧ i ≤ xs.length ∧ ∃ B acc vacc, Blk G Fi vs Ai B σi H1 H' ∧ H' D = some (.dK vacc) ∧ RepKV G.toCfg H' (Busy Fi B σi) acc vacc ∧ (acc.length ≤ i ∧ (acc.map (·.1)).Nodup) ∧ dcL g t ek e vs (xs.drop i) acc B = some (ys, A2) ∧ T H' (Busy Fi B σi),
    ⟨xs.length, by simp, Nat.zero_le _, Ai, [], [], b0, upd_same, rfl, ⟨Nat.le_refl _, List.nodup_nil⟩, e2, okJ.carry cD t1⟩, fun i m H2 hw => ?_⟩
  obtain ⟨rfl, hi, B, acc, vacc, blk, hD, racc, ⟨lacc, ndacc⟩, eL, tB⟩ := hw
  by_cases hl : i < xs.length
  · have gx : xs[i]? = some xs[i] := List.getElem?_eq_getElem hl
    obtain ⟨hgo, hy⟩ := okJ.go blk.rel.busy tB gx
    rw [List.drop_eq_getElem_cons hl] at eL
    simp only [dcL] at eL
    refine .inr ⟨hgo, fun H' => i + 1 ≤ xs.length ∧ ∃ B acc vacc, Blk G Fi vs Ai B σi H1 H' ∧ H' D = some (.dK vacc) ∧ RepKV G.toCfg H' (Busy Fi B σi) acc vacc ∧ (acc.length ≤ i + 1 ∧ (acc.map (·.1)).Nodup) ∧ dcL g t ek e vs (xs.drop (i + 1)) acc B = some (ys, A2) ∧ T H' (Busy Fi B σi), fun H' h => ⟨xs.length - (i + 1), by omega, rfl, h⟩, fun v H3 hv => ?_⟩
    obtain ⟨ext, rv⟩ := hy v H3 hv
    have p3 := Post.ext blk.rel ext
    split at eL
    · rename_i A3 e3
      refine ⟨G, Fi, B, xs[i], A3, rfl, p3.rel, rv, e3, fun σ4 H4 p4 o4 => ?_⟩
      have hσ4 : L2.wipe σ4 vs = σi := (wipe_eq o4.len fun j hj => (o4.out j fun z => hj (hws j z)).1).trans σw
      refine ⟨hσ4, ?_⟩
      have sg : SPost G Fi Fi B A3 σi σ4 H2 H4 := p3.s.trans p4
      have mg : ∀ j : Nat, j ∉ vs → SStep B[j]? A3[j]? := fun j hj => by
        rw [(o4.out j fun z => hj (hws j z)).2]
        exact SStep.refl _
      have tg : T H4 (Busy Fi A3 σ4) := okJ.carry (sg.carry blk.rel) tB
      have kD : ∀ {K : Hp} {B' : SS} {σ' : St}, SPost G Fi Fi B B' σi σ' H2 K → K D = some (.dK vacc) := fun {K B' σ'} p => p.keep D _ hD fun j o => by
        obtain ⟨_, _, _, n⟩ := blk.rel.ownO o
        exact n fD
      have kA : ∀ {K : Hp} {B' : SS} {σ' : St}, SPost G Fi Fi B B' σi σ' H2 K → RepKV G.toCfg K (Busy Fi B' σ') acc vacc := fun {K B' σ'} p => RepKV.carry (p.carry blk.rel) racc
      -- behind a turn: the names forgotten
      have wsub : ∀ {B' : SS} {σ' : St}, B'.length = σ'.length → L2.wipe σ' vs = σi → ∀ a, Busy Fi (wipeA B' vs) σi a → Busy Fi B' σ' a := fun {B' σ'} hl hσ a s => s.imp id fun ⟨j, o⟩ => ⟨j, by
        rw [← hσ] at o
        exact (own_wipe hl o).1⟩
      split at eL
      · rename_i A4 e4
        refine ⟨G, Fi, A3, false, A4, rfl, p4.rel, e4, fun H5 p5 => ?_⟩
        refine iteF ?_
        have p := sg.trans p5.s
        have bt := blk.turn σw p hσ4 (fun j hj => (mg j hj).trans (p5.step.mono j)) unAi (noIo_rel p5.rel hio)
        have cw := wsub p5.rel.len hσ4
        refine ⟨hl, wipeA A4 vs, acc, vacc, bt, kD p, (kA p).anti p5.rel.busy cw, ⟨Nat.le_succ_of_le lacc, ndacc⟩, eL, ?_⟩
        exact okJ.carry ⟨p5.rel.busy, fun _ _ e _ => e, fun a s => .inl (cw a s)⟩ (okJ.carry (p5.carry p4.rel) tg)
      · rename_i A4 e4
        split at eL
        · rename_i rk Ak ek1
          split at eL
          · rename_i dk hdk
            split at eL
            · rename_i k hk
              split at eL
              · rename_i r A5 e5
                split at eL
                · rename_i y A6 e6
                  refine ⟨G, Fi, A3, true, A4, rfl, p4.rel, e4, fun H5 p5 => ?_⟩
                  refine iteT ?_
                  refine ⟨G, Fi, A4, rk, Ak, rfl, p5.rel, ek1, fun vk Hk Fbk pk hkv fk => ?_⟩
                  have evk := dkey_rep hk (hkv.peek pk.rel hdk)
                  refine ⟨G, Fbk, Ak, r, A5, rfl, pk.rel, e5, fun v6 H6 Fb6 p6 h6 f6 => ?_⟩
                  have pk6 := pk.trans p6
                  obtain ⟨r6, q6, st6⟩ := h6.mv p6.rel pk6.sub (f6.anti pk.sub) e6
                  have p46 := pk6.then r6 st6
                  have p := (sg.trans p5.s).trans p46.s
                  have hl6 : acc.length < sizeLine := by
                    rw [← lim_line]
                    omega
                  refine ⟨vacc, k, evk, kD p, by rw [← (kA p).length]; exact hl6, ?_⟩
                  have bt := blk.turn σw p hσ4 (fun j hj => ((mg j hj).trans (p5.step.mono j)).trans (p46.step.mono j)) unAi (noIo_rel p46.rel hio)
                  have cw := wsub p46.rel.len hσ4
                  have cU := carry_updF (o := HO.dK (putK vacc k v6)) bt.rel fD
                  have rA := RepKV.carry cU ((kA p).anti p46.rel.busy cw)
                  have rV := Rep.carry cU _ _ (q6.anti p46.rel.busy cw)
                  refine ⟨hl, wipeA A6 vs, putA acc k y, putK vacc k v6, bt.upd nD fD h0D (o := .dK (putK vacc k v6)) trivial, upd_same, rA.put rV, ⟨Nat.le_trans (putA_len _ _ _) (Nat.succ_le_succ lacc), putA_nodup k y ndacc⟩, eL, ?_⟩
                  exact okJ.carry cU (okJ.carry ⟨p46.rel.busy, fun _ _ e _ => e, fun a s => .inl (cw a s)⟩ (okJ.carry (p46.carry p5.rel) (okJ.carry (p5.carry p4.rel) tg)))
                · cases eL
              · cases eL
            · cases eL
          · cases eL
        · cases eL
      · cases eL
    · cases eL
  · have e0 : xs.drop i = [] := List.drop_eq_nil_iff.mpr (by omega)
    rw [e0] at eL
    simp only [dcL] at eL
    cases eL
    refine .inl ⟨okJ.stop blk.rel.busy tB (by omega), ?_⟩
    have unB : ∀ i : Nat, i ∈ vs → ∀ s, A2[i]? = some s → s = .un := fun j hv s es => by
      have m := blk.mono j
      rw [es] at m
      cases z : Ai[j]? with
      | none => rw [z] at m; exact m.elim
      | some u =>
        have := unAi j hv u z
        subst this
        rw [z] at m
        cases s <;> first | rfl | exact m.elim
    have rB := blk.rel
    rw [← hσi] at rB
    obtain ⟨r8, sb8⟩ := RelSt.unwipe (Fi := Fi) (D := D) (H := H2) (A' := A2) rel1 ni rB (fun a s => by rw [← hFi]; exact s) nD unB (fun j hj d ed => by
      have m := blk.mono j
      rw [outAi j hj, ed] at m
      cases z : A2[j]? with
      | none => rw [z] at m; exact m.elim
      | some u =>
        rw [z] at m
        cases u with
        | io d' => exact ⟨d', rfl⟩
        | _ => exact m.elim) (fun a o ea n => by
      by_cases fa : Fi a
      · exact blk.keepF a o ea fa
      · exact blk.keep a o ea fa fun j oj => n j ⟨(ownAi oj).2, (ownAi oj).1⟩) (fun j a oj => by
      rw [hσi] at oj
      have := ownAi (blk.own oj)
      exact .inl ⟨j, this.2, this.1⟩)
    have hlB : A1.length = A2.length := by rw [hl1, blk.rel.len, ← hσi, wipe_length]
    have stp : Step A1 (backA A1 A2 vs) σ H1 H2 := ⟨fun a o ea n => by
      by_cases fa : Fi a
      · exact blk.keepF a o ea fa
      · exact blk.keep a o ea fa fun j oj => n j (ownAi oj).1, fun j => by
      rw [backA_get hlB]
      by_cases hv : j ∈ vs
      · rw [if_pos hv]; exact SStep.refl _
      · rw [if_neg hv, ← outAi j hv]; exact blk.mono j, blk.dom⟩
    refine q _ _ (Also Fb D) ⟨fun _ s => .inl s, fun a s => s.imp id fun z => ?_, r8, p1.step.trans stp⟩ ⟨D, rfl, .inr rfl, repO_dct ndacc hD ?_⟩ fun a ea => ?_
    · subst z
      cases ez : H a with
      | none => rfl
      | some o => exact absurd nD (p1.step.dom a (by rw [ez]; exact fun y => nomatch y))
    · rw [hσi] at sb8
      exact racc.anti blk.rel.busy sb8
    · cases ea
      refine ⟨fun s => ?_, h0D⟩
      obtain ⟨o, e, _⟩ := rel1.fb D s
      rw [nD] at e; cases e
theorem dc_weak {σ : St} {H : Hp} {Q : VK} {C : Cfg} {vs : List Nat} (hws : ∀ i, i ∈ ws → i ∈ vs) (h : tS C (evDc iv g t ek e vs) σ H Q) : tDc (tIS C iv) (tSG C ws g) (tST C t) (tS C ek) (tS C e) vs σ H Q := by
  obtain ⟨G, Fb, A, r, A', hG, rel, he, q⟩ := h
  subst hG
  unfold evDc at he
  split at he
  · rename_i xs A1 e1
    split at he
    · rename_i hz
      split at he
      · rename_i ys A2 e2
        cases he
        exact ⟨G, Fb, A, xs, A1, rfl, rel, e1, fun J T H1 p1 okJ t1 D nD => dc_body hws p1 okJ t1 hz.1 hz.2 e2 q nD⟩
      · cases he
    · cases he
  · cases he
end

/-! ### over a dict's keys -/
def dctAt (A : SS) (i : Nat) : Option (List D × List D) := match A[i]? with
  | some (.own (.dct ks ws)) => some (ks, ws)
  | some (.val (.dct ks ws)) => some (ks, ws)
  | _ => none
/-- the slot's own thing stays as it is from now on -/
def stayD (A : SS) (i : Nat) : SS := match A[i]? with
  | some (.own d) => A.set i (.val d)
  | _ => A
def ivKeys (i : Nat) : IV := fun A => match dctAt A i with
  | some (ks, _) => some (ks, stayD A i)
  | none => none
def wiK (X : Cx) (i : Nat) : TI := fun σ H R => iKeys (tVar i) σ H R ∨ iKeysR X.prog X.w (tVar i) σ H R
theorem stay_ok {G : Gh} {Fb : Addr → Prop} {A : SS} {σ : St} {H : Hp} {i : Nat} {ks ws : List D} (rel : RelSt G Fb A σ H) (e : dctAt A i = some (ks, ws)) : RelSt G Fb (stayD A i) σ H ∧ Step A (stayD A i) σ H H ∧
    ∃ d, σ[i]? = some (some (.ref d)) ∧ ¬ Busy Fb (stayD A i) σ d ∧ Rep G.toCfg H (Busy Fb (stayD A i) σ) (.dct ks ws) (.ref d) := by
  unfold dctAt at e
  split at e
  · rename_i ks' ws' h
    cases e
    obtain ⟨r1, a, e1, n, r⟩ := rel.freeze h
    have es : stayD A i = A.set i (.val (.dct ks ws)) := by unfold stayD; rw [h]
    rw [es]
    exact ⟨r1, .freeze h, a, e1, n, r⟩
  · rename_i ks' ws' h
    cases e
    have es : stayD A i = A := by unfold stayD; rw [h]
    rw [es]
    obtain ⟨v, e1, r⟩ := rel.val i _ h
    have r' := r
    rw [Rep] at r
    obtain ⟨a, rfl, n, _⟩ := r
    exact ⟨rel, .refl _ _ _, a, e1, n, r'⟩
  · cases e
/-- the walk over the keys, locked or not: what the rest asks -/
theorem keys_weak {X : Cx} {σ : St} {H : Hp} {Q : VK} {G : Gh} {Fb : Addr → Prop} {A B : SS} {i : Nat} {ks ws : List D} {r : R} {BODY : It → Hp → VK → Prop} (hG : G.toCfg = cfg X) (rel : RelSt G Fb A σ H) (hi : dctAt A i = some (ks, ws)) (q : ∀ v H' Fb', Post G Fb Fb' A B σ H H' → HV G Fb' B σ H' r v → FrOk G Fb r v → Q v H')
    (body : ∀ (G' : Gh) (H1 : Hp) (J : It) (T : Hp → (Addr → Prop) → Prop) (Q' : VK), G'.toCfg = cfg X → RelSt G' Fb (stayD A i) σ H1 → ItOk (cfg X) J ks T → T H1 (Busy Fb (stayD A i) σ) → (∀ v H' Fb', Post G' Fb Fb' (stayD A i) B σ H1 H' → HV G' Fb' B σ H' r v → FrOk G' Fb r v → Q' v H') → BODY J H1 Q') :
    tLockE (fun σ H Q => wiK X i σ H fun J H1 => BODY J H1 Q) σ H Q ∨ wiK X i σ H (fun J H1 => BODY J H1 Q) := by
  obtain ⟨rel1, st1, d, hd, nb, rr⟩ := stay_ok rel hi
  have p0 : Post G Fb Fb A (stayD A i) σ H H := .still rel1 st1
  have q1 : ∀ v H' Fb', Post G Fb Fb' (stayD A i) B σ H H' → HV G Fb' B σ H' r v → FrOk G Fb r v → Q v H' := fun v H' Fb' p h f => q v H' Fb' (p0.trans p) h f
  have rr0 := rr
  rw [Rep] at rr
  obtain ⟨d', e0, _, nd, h⟩ := rr
  cases e0
  rw [hG] at h
  have lockd : ∀ {u : HO} {od : Obj}, H d = some u → DctO u → RelSt (G.lk d u od) Fb (stayD A i) σ (upd H d (.frz od u)) ∧ (∀ v H' Fb', Post (G.lk d u od) Fb Fb' (stayD A i) B σ (upd H d (.frz od u)) H' → HV (G.lk d u od) Fb' B σ H' r v → FrOk (G.lk d u od) Fb r v → H' d = some (.frz od u) ∧ Q v (upd H' d u)) := fun {u od} hu du => by
    have l : Lk H (upd H d (.frz od u)) d u od := Lk.of hu du
    refine ⟨rel1.lock l nb, fun v H' Fb' p hv f => ?_⟩
    obtain ⟨e2, pu, hvu⟩ := p.unlock rel1 l nb
    exact ⟨e2, q1 v _ Fb' pu (hvu r v hv) f.unlock⟩
  rcases h with ⟨kvs, hh, ek, rw'⟩ | ⟨xs, hh, rk, ek, rw'⟩
  · rcases hh with hh | ⟨o, hh⟩
    · refine .inl ⟨d, _, hh, trivial, fun od => ?_⟩
      obtain ⟨rl, ql⟩ := lockd (od := od) hh (.inl ⟨_, rfl⟩)
      refine .inl ⟨.ref d, hd, d, od, rfl, .inl ⟨kvs, upd_same, ?_⟩⟩
      subst ek
      exact body (G.lk d _ od) _ _ _ _ hG rl itOk_keys ⟨nb, upd_same⟩ ql
    · refine .inr (.inl ⟨.ref d, hd, d, o, rfl, .inl ⟨kvs, hh, ?_⟩⟩)
      subst ek
      exact body G _ _ _ _ hG rel1 itOk_keys ⟨nb, hh⟩ q1
  · rcases hh with hh | ⟨o, hh⟩
    · refine .inl ⟨d, _, hh, trivial, fun od => ?_⟩
      obtain ⟨rl, ql⟩ := lockd (od := od) hh (.inr ⟨_, rfl⟩)
      refine .inr ⟨.ref d, hd, d, od, xs, rfl, upd_same, ?_⟩
      exact body (G.lk d _ od) _ _ _ _ hG rl itOk_keysR ⟨nb, upd_same, ((Lk.of hh (.inr ⟨_, rfl⟩)).reps _ _).mp rk⟩ ql
    · refine .inr (.inr ⟨.ref d, hd, d, o, xs, rfl, hh, ?_⟩)
      exact body G _ _ _ _ hG rel1 itOk_keysR ⟨nb, hh, rk⟩ q1
section
variable {X : Cx} {elt kx vx tg : Expr} {ifs : List Expr} {scope : Scope} {own : List (Str × Nat)} {pos p : Pos} {g : GV} {t : ET} {ek e : EV} {ws : List Nat} {i : Nat} {x : Str}
theorem lcK_weak {σ : St} {H : Hp} {Q : VK} {vs : List Nat} (hws : ∀ i, i ∈ ws → i ∈ vs) (h : tS (cfg X) (evLc (ivKeys i) g t e vs) σ H Q) :
    tLockE (tLc (wiK X i) (tSG (cfg X) ws g) (tST (cfg X) t) (tS (cfg X) e) vs) σ H Q ∨ tLc (wiK X i) (tSG (cfg X) ws g) (tST (cfg X) t) (tS (cfg X) e) vs σ H Q := by
  obtain ⟨G, Fb, A, r, A', hG, rel, he, q⟩ := h
  unfold evLc at he
  split at he
  · rename_i xs A1 e1
    split at he
    · rename_i hz
      split at he
      · rename_i ys A2 e2
        cases he
        unfold ivKeys at e1
        split at e1
        · rename_i ks ws' hi
          cases e1
          refine keys_weak (BODY := fun J H1 Q => tLc (fun _ H R => R J H) (tSG (cfg X) ws g) (tST (cfg X) t) (tS (cfg X) e) vs σ H1 Q) hG rel hi q fun G' H1 J T Q' hG' rel' ok t1 q' => fun D nD => ?_
          rw [← hG'] at ok ⊢
          exact lc_body hws (Post.refl rel') ok t1 hz.1 hz.2 e2 q' nD
        · cases e1
      · cases he
    · cases he
  · cases he
theorem dcK_weak {σ : St} {H : Hp} {Q : VK} {vs : List Nat} (hws : ∀ i, i ∈ ws → i ∈ vs) (h : tS (cfg X) (evDc (ivKeys i) g t ek e vs) σ H Q) :
    tLockE (tDc (wiK X i) (tSG (cfg X) ws g) (tST (cfg X) t) (tS (cfg X) ek) (tS (cfg X) e) vs) σ H Q ∨ tDc (wiK X i) (tSG (cfg X) ws g) (tST (cfg X) t) (tS (cfg X) ek) (tS (cfg X) e) vs σ H Q := by
  obtain ⟨G, Fb, A, r, A', hG, rel, he, q⟩ := h
  unfold evDc at he
  split at he
  · rename_i xs A1 e1
    split at he
    · rename_i hz
      split at he
      · rename_i ys A2 e2
        cases he
        unfold ivKeys at e1
        split at e1
        · rename_i ks ws' hi
          cases e1
          refine keys_weak (BODY := fun J H1 Q => tDc (fun _ H R => R J H) (tSG (cfg X) ws g) (tST (cfg X) t) (tS (cfg X) ek) (tS (cfg X) e) vs σ H1 Q) hG rel hi q fun G' H1 J T Q' hG' rel' ok t1 q' => fun D nD => ?_
          rw [← hG'] at ok ⊢
          exact dc_body hws (Post.refl rel') ok t1 hz.1 hz.2 e2 q' nD
        · cases e1
      · cases he
    · cases he
  · cases he
theorem pi_wiK (hN : X.N[i]? = some x) (hv : Vis X.env.scope x) (hd : (x == ("__debug__" : Str)) = false) (hcd : (x == ("__classdict__" : Str)) = false) : PI X tg (.Name x p) (wiK X i) := pi_either (pi_keys (pe_var hN hv hd hcd)) (pi_keysR (pe_var hN hv hd hcd))
/-- [e for t in d] over the keys of the name's dict -/
theorem sim_lcK (hc : X.calm = true) (hN : X.N.Nodup) (ok : BlkOk X.N X.env.scope scope own)
    (hg : ∀ (s : Shared) (H : Hp) (C : Addr) (cl : List (Str × Addr)) (fp : List Addr), SimG (X.blk s H scope (compEnvC scope cl C X.env) fp) tg ws g) (ht : ∀ (s : Shared) (H : Hp) (C : Addr) (cl : List (Str × Addr)) (fp : List Addr), PTs (X.blk s H scope (compEnvC scope cl C X.env) fp) ifs (tST (cfg X) t))
    (he : ∀ (s : Shared) (H : Hp) (C : Addr) (cl : List (Str × Addr)) (fp : List Addr), SimE (X.blk s H scope (compEnvC scope cl C X.env) fp) elt e) (hws : ∀ i, i ∈ ws → i ∈ own.map (·.2))
    (hx : X.N[i]? = some x := by rfl) (hv : Vis X.env.scope x := by first | exact Or.inl rfl | exact Or.inr (Or.inl rfl) | exact Or.inr (Or.inr rfl)) (hd : (x == ("__debug__" : Str)) = false := by decide) (hcd : (x == ("__classdict__" : Str)) = false := by decide) 
    (hs : ∀ y, foldedSetIterable (.Name x p) X.env y = pure y := by intro _; rfl) :
    SimE X (.ListComp elt [⟨tg, .Name x p, ifs, 0⟩] scope pos) (evLc (ivKeys i) g t e (own.map (·.2))) := by
  have base : PE X (.ListComp elt [⟨tg, .Name x p, ifs, 0⟩] scope pos) (tLc (wiK X i) (tSG (cfg X) ws g) (tST (cfg X) t) (tS (cfg X) e) (own.map (·.2))) := pe_lc hc hN (pi_wiK (tg := tg) (p := p) hx hv hd hcd) ok hg ht he hs (pos := pos)
  exact (pe_either (pe_lock base) base).weak fun _ _ _ h => lcK_weak hws h
theorem sim_dc {iv : IV} {iter : Expr} (hc : X.calm = true) (hN : X.N.Nodup) (hi : SimI X tg iter iv) (ok : BlkOk X.N X.env.scope scope own)
    (hg : ∀ (s : Shared) (H : Hp) (C : Addr) (cl : List (Str × Addr)) (fp : List Addr), SimG (X.blk s H scope (compEnvC scope cl C X.env) fp) tg ws g) (ht : ∀ (s : Shared) (H : Hp) (C : Addr) (cl : List (Str × Addr)) (fp : List Addr), PTs (X.blk s H scope (compEnvC scope cl C X.env) fp) ifs (tST (cfg X) t))
    (hk : ∀ (s : Shared) (H : Hp) (C : Addr) (cl : List (Str × Addr)) (fp : List Addr), SimE (X.blk s H scope (compEnvC scope cl C X.env) fp) kx ek)
    (he : ∀ (s : Shared) (H : Hp) (C : Addr) (cl : List (Str × Addr)) (fp : List Addr), SimE (X.blk s H scope (compEnvC scope cl C X.env) fp) vx e) (hws : ∀ i, i ∈ ws → i ∈ own.map (·.2)) (hs : ∀ x, foldedSetIterable iter X.env x = pure x := by intro _; rfl) :
    SimE X (.DictComp kx vx [⟨tg, iter, ifs, 0⟩] scope pos) (evDc iv g t ek e (own.map (·.2))) := (pe_dc hc hN hi ok hg ht hk he hs).weak fun _ _ _ h => dc_weak hws h
theorem sim_dcK (hc : X.calm = true) (hN : X.N.Nodup) (ok : BlkOk X.N X.env.scope scope own)
    (hg : ∀ (s : Shared) (H : Hp) (C : Addr) (cl : List (Str × Addr)) (fp : List Addr), SimG (X.blk s H scope (compEnvC scope cl C X.env) fp) tg ws g) (ht : ∀ (s : Shared) (H : Hp) (C : Addr) (cl : List (Str × Addr)) (fp : List Addr), PTs (X.blk s H scope (compEnvC scope cl C X.env) fp) ifs (tST (cfg X) t))
    (hk : ∀ (s : Shared) (H : Hp) (C : Addr) (cl : List (Str × Addr)) (fp : List Addr), SimE (X.blk s H scope (compEnvC scope cl C X.env) fp) kx ek)
    (he : ∀ (s : Shared) (H : Hp) (C : Addr) (cl : List (Str × Addr)) (fp : List Addr), SimE (X.blk s H scope (compEnvC scope cl C X.env) fp) vx e) (hws : ∀ i, i ∈ ws → i ∈ own.map (·.2))
    (hx : X.N[i]? = some x := by rfl) (hv : Vis X.env.scope x := by first | exact Or.inl rfl | exact Or.inr (Or.inl rfl) | exact Or.inr (Or.inr rfl)) (hd : (x == ("__debug__" : Str)) = false := by decide) (hcd : (x == ("__classdict__" : Str)) = false := by decide) 
    (hs : ∀ y, foldedSetIterable (.Name x p) X.env y = pure y := by intro _; rfl) :
    SimE X (.DictComp kx vx [⟨tg, .Name x p, ifs, 0⟩] scope pos) (evDc (ivKeys i) g t ek e (own.map (·.2))) := by
  have base : PE X (.DictComp kx vx [⟨tg, .Name x p, ifs, 0⟩] scope pos) (tDc (wiK X i) (tSG (cfg X) ws g) (tST (cfg X) t) (tS (cfg X) ek) (tS (cfg X) e) (own.map (·.2))) := pe_dc hc hN (pi_wiK (tg := tg) (p := p) hx hv hd hcd) ok hg ht hk he hs (pos := pos)
  exact (pe_either (pe_lock base) base).weak fun _ _ _ h => dcK_weak hws h
end
end Z
/-! Z12: dicts: get, put, values. -/
namespace Z
open PySem PySem.Spec L2
open PyProof.Rows hiding St

mutual
theorem nested_of {X : Cx} {pins : List (Addr × Obj)} {σ : St} {H : Hp} {s : Shared} {S : Addr → Prop} (I : Inv X pins σ H s) : ∀ (d : D) (k : NestedKey) (v : V) (u : Value), nkey d = some k → Rep (cfg X) H S d v → RelV v u → NestedIs s.heap k u
  | .int i, k, v, u, e, h, r => by
    simp only [nkey] at e; cases e
    rw [Rep] at h; subst h
    obtain ⟨t, rfl⟩ := r
    exact .int i t
  | .str x, k, v, u, e, h, r => by
    simp only [nkey] at e; cases e
    rw [Rep] at h; subst h
    obtain ⟨t, rfl⟩ := r
    exact .text x t
  | .tup xs, k, v, u, e, h, r => by
    simp only [nkey] at e
    obtain ⟨ks, ek, rfl⟩ := Option.map_eq_some_iff.mp e
    rw [Rep] at h
    obtain ⟨a, vs, rfl, q, rs⟩ := h
    cases r
    obtain ⟨its, rv, ⟨o, ho, hc, n, hd⟩, _⟩ := I.tuple q
    exact .tup ho hc hd (by simpa using nesteds_of I xs ks vs its ek rs rv)
  | .non, k, v, u, e, _, _ => by simp [nkey] at e
  | .bl _, k, v, u, e, _, _ => by simp [nkey] at e
  | .lst _, k, v, u, e, _, _ => by simp [nkey] at e
  | .dct _ _, k, v, u, e, _, _ => by simp [nkey] at e
  | .scr _, k, v, u, e, _, _ => by simp [nkey] at e
theorem nesteds_of {X : Cx} {pins : List (Addr × Obj)} {σ : St} {H : Hp} {s : Shared} {S : Addr → Prop} (I : Inv X pins σ H s) : ∀ (ds : List D) (ks : List NestedKey) (vs : List V) (us : List Value), nkeys ds = some ks → Reps (cfg X) H S ds vs → Vals vs us → NestedAll s.heap ks us
  | [], ks, vs, us, e, h, r => by
    simp only [nkeys] at e; cases e
    rw [Reps] at h; subst h
    cases r
    exact .nil
  | d :: ds, ks, vs, us, e, h, r => by
    simp only [nkeys] at e
    split at e
    · rename_i k ks' e1 e2
      cases e
      rw [Reps] at h
      obtain ⟨v, s, rfl, h1, h2⟩ := h
      cases r with
      | cons r1 r2 => exact .cons (nested_of I d k v _ e1 h1 r1) (nesteds_of I ds ks' s _ e2 h2 r2)
    · cases e
end
mutual
theorem nkey_inj : ∀ (a b : D) (k : NestedKey), nkey a = some k → nkey b = some k → a = b
  | .int i, b, k, e, f => by
    simp only [nkey] at e; cases e
    cases b <;> simp [nkey] at f
    rw [f]
  | .str i, b, k, e, f => by
    simp only [nkey] at e; cases e
    cases b <;> simp [nkey] at f
    rw [f]
  | .tup xs, b, k, e, f => by
    simp only [nkey] at e
    obtain ⟨ks, ek, rfl⟩ := Option.map_eq_some_iff.mp e
    cases b <;> simp [nkey] at f
    rw [nkeys_inj xs _ ks ek f]
  | .non, b, k, e, _ => by simp [nkey] at e
  | .bl _, b, k, e, _ => by simp [nkey] at e
  | .lst _, b, k, e, _ => by simp [nkey] at e
  | .dct _ _, b, k, e, _ => by simp [nkey] at e
  | .scr _, b, k, e, _ => by simp [nkey] at e
theorem nkeys_inj : ∀ (as bs : List D) (ks : List NestedKey), nkeys as = some ks → nkeys bs = some ks → as = bs
  | [], bs, ks, e, f => by
    simp only [nkeys] at e; cases e
    cases bs with
    | nil => rfl
    | cons b bs =>
      simp only [nkeys] at f
      split at f <;> cases f
  | a :: as, bs, ks, e, f => by
    simp only [nkeys] at e
    split at e
    · rename_i k ks' e1 e2
      cases e
      cases bs with
      | nil => simp only [nkeys] at f; cases f
      | cons b bs =>
        simp only [nkeys] at f
        split at f
        · rename_i k2 ks2 f1 f2
          cases f
          rw [nkey_inj a b k e1 f1, nkeys_inj as bs ks' e2 f2]
        · cases f
    · cases e
end

def flatKs (ks : List D) : Bool := ks.all fun k => (dkey k).isSome
def tupKey : D → Option NestedKey
  | .tup xs => match nkey (.tup xs) with
    | some k => if k.depth ≤ 8 then some k else none
    | none => none
  | _ => none
def rawKs (ks : List D) : Bool := ks.all fun k => (tupKey k).isSome
theorem tupKey_eq {d : D} {k : NestedKey} (h : tupKey d = some k) : nkey d = some k ∧ k.depth ≤ 8 ∧ ∃ xs, d = .tup xs := by
  unfold tupKey at h
  split at h
  · split at h
    · rename_i xs k' e
      split at h
      · cases h
        exact ⟨e, by assumption, _, rfl⟩
      · cases h
    · cases h
  · cases h
theorem dkey_tup {d : D} {k : NestedKey} (h : tupKey d = some k) : dkey d = none := by
  obtain ⟨_, _, xs, rfl⟩ := tupKey_eq h
  rfl

/-- at a flat dict -/
structure FlatV (X : Cx) (H : Hp) (s : Shared) (S : Addr → Prop) (a : Addr) (ks ws : List D) where
  kvs : List (Key × V)
  vs : List (Key × Value)
  keys : ks = kvs.map fun p => keyD p.1
  reps : Reps (cfg X) H S ws (kvs.map (·.2))
  sys : (a == sysModules) = false
  size : kvs.length ≤ sizeLine
  kv : KV kvs vs
  dct : s.heap.DictOf (mixKind X.prog X.w) a vs
abbrev PairR (xs : List (NestedKey × Addr × V)) (ys : List (NestedKey × Addr × Value)) : Prop := Paired (fun (p : NestedKey × Addr × V) (q : NestedKey × Addr × Value) => p.1 = q.1 ∧ p.2.1 = q.2.1 ∧ RelV p.2.2 q.2.2) xs ys
structure RawV (X : Cx) (H : Hp) (s : Shared) (S : Addr → Prop) (a : Addr) (ks ws : List D) where
  xs : List (NestedKey × Addr × V)
  ys : List (NestedKey × Addr × Value)
  keys : Reps (cfg X) H S ks (xs.map fun x => .ref x.2.1)
  nk : ks.map nkey = xs.map (fun x => some x.1)
  reps : Reps (cfg X) H S ws (xs.map (·.2.2))
  sys : (a == sysModules) = false
  size : xs.length ≤ sizeLine
  kv : PairR xs ys
  dct : s.heap.DictOfH (nestedKind X.prog X.w) a ys
theorem HD.ok {X : Cx} {pins : List (Addr × Obj)} {σ : St} {H : Hp} {s : Shared} {a : Addr} {u : HO} (I : Inv X pins σ H s) (h : HD H a u) : ObjOk X.prog X.w H s.heap a u := by
  rcases h with h | ⟨o, h⟩
  · exact I.hok a _ h
  · exact (I.hok a _ h).2
theorem raw_is {X : Cx} {pins : List (Addr × Obj)} {σ : St} {H : Hp} {s : Shared} {S : Addr → Prop} (I : Inv X pins σ H s) : ∀ {ks : List D} {xs : List (NestedKey × Addr × V)} {ys : List (NestedKey × Addr × Value)}, rawKs ks = true → Reps (cfg X) H S ks (xs.map fun x => .ref x.2.1) → ks.map nkey = xs.map (fun x => some x.1) → PairR xs ys → ∀ y ∈ ys, (nestedKind X.prog X.w).is s.heap y.1 y.2.1
  | [], xs, ys, _, r, e, p => by
    rw [Reps] at r
    have := List.map_eq_nil_iff.mp r
    subst this
    cases p
    intro y hy
    cases hy
  | k :: ks, [], ys, _, r, e, p => by simp at e
  | k :: ks, x :: xs, _, h, r, e, .cons (b := y) (l₂ := ys) p0 p => by
    unfold rawKs at h
    rw [List.all_cons, Bool.and_eq_true] at h
    rw [List.map_cons, Reps] at r
    obtain ⟨v, s', e1, r1, r2⟩ := r
    rw [List.cons.injEq] at e1
    obtain ⟨e1, e2⟩ := e1
    subst e1
    subst e2
    rw [List.map_cons, List.map_cons, List.cons.injEq] at e
    intro z hz
    rcases List.mem_cons.mp hz with rfl | hz
    · obtain ⟨nk, hk⟩ := Option.isSome_iff_exists.mp h.1
      obtain ⟨h1, h2, _⟩ := tupKey_eq hk
      have e3 : nk = x.1 := by rw [e.1] at h1; exact (Option.some.inj h1).symm
      refine ⟨?_, by rw [← p0.1, ← e3]; exact h2⟩
      rw [← p0.1, ← e3, ← p0.2.1]
      exact nested_of I k nk _ _ h1 r1 rfl
    · exact raw_is I h.2 r2 e.2 p z hz
/-- an empty dict is of either kind -/
theorem empty_flat {P : Program} {w : World} {h : Heap} {a : Addr} {o : Obj} {es : Array DictEntry} {ep : Nat} (ho : h.get? a = some o) (hx : o.ExactDict) (hd : o.data = .dict es ep) (he : es.toList = []) : h.DictOf (mixKind P w) a [] := by
  have : es = #[] := by
    apply Array.toList_inj.mp
    rw [he]
  subst this
  exact ⟨o, #[], ep, ho, hx, hd, (by intro e he; simp at he), by rw [he]; exact .nil, List.nodup_nil⟩
theorem dct_flat {X : Cx} {pins : List (Addr × Obj)} {σ : St} {H : Hp} {s : Shared} {S : Addr → Prop} {a : Addr} {ks ws : List D} (I : Inv X pins σ H s) (h : PRep (cfg X) H S (.dct ks ws) (.ref a)) (hf : flatKs ks = true) : Nonempty (FlatV X H s S a ks ws) := by
  obtain ⟨a', ea, nd, ⟨kvs, hh, ek, r⟩ | ⟨xs, hh, rk, ek, r⟩⟩ := h
  · cases ea
    obtain ⟨z, hs, vs, rel, dd⟩ := HD.ok I hh
    exact ⟨⟨kvs, vs, ek, r, hs, z, rel, dd⟩⟩
  · cases ea
    obtain ⟨⟨z, hs, ys, pr, o, es, ep, ho, hx, hd, he, _⟩, _⟩ := HD.ok I hh
    cases ks with
    | cons k ks =>
      exfalso
      cases xs with
      | nil => simp at ek
      | cons x xs =>
        rw [List.map_cons, Reps] at rk
        obtain ⟨v, s', e1, r1, r2⟩ := rk
        rw [List.cons.injEq] at e1
        obtain ⟨e1, _⟩ := e1
        subst e1
        unfold flatKs at hf
        rw [List.all_cons, Bool.and_eq_true] at hf
        cases k with
        | int i => rw [Rep] at r1; cases r1
        | str i => rw [Rep] at r1; cases r1
        | _ => simp [dkey] at hf
    | nil =>
      have e0 : xs = [] := by simpa using ek.symm
      subst e0
      cases pr
      rw [List.map_nil] at r he
      exact ⟨⟨[], [], rfl, r, hs, Nat.zero_le _, .nil, empty_flat ho hx hd he⟩⟩
theorem dct_raw {X : Cx} {pins : List (Addr × Obj)} {σ : St} {H : Hp} {s : Shared} {S : Addr → Prop} {a : Addr} {ks ws : List D} (I : Inv X pins σ H s) (h : PRep (cfg X) H S (.dct ks ws) (.ref a)) (hf : rawKs ks = true) : Nonempty (RawV X H s S a ks ws) := by
  obtain ⟨a', ea, nd, ⟨kvs, hh, ek, r⟩ | ⟨xs, hh, rk, ek, r⟩⟩ := h
  · cases ea
    obtain ⟨z, hs, vs, rel, dd⟩ := HD.ok I hh
    cases kvs with
    | cons p kvs =>
      exfalso
      subst ek
      unfold rawKs at hf
      rw [List.map_cons, List.all_cons, Bool.and_eq_true] at hf
      obtain ⟨p1, p2⟩ := p
      cases p1 <;> simp [keyD, tupKey] at hf
    | nil =>
      subst ek
      cases rel
      rw [List.map_nil] at r
      obtain ⟨o, es, ep, ho, hx, hd, hk, hp, _⟩ := dd
      have he : es.toList = [] := by
        cases hq : es.toList with
        | nil => rfl
        | cons e r => rw [hq] at hp; cases hp
      exact ⟨⟨[], [], Reps.nil, rfl, r, hs, Nat.zero_le _, .nil, o, es, ep, ho, hx, hd, he, (fun x hx => nomatch hx), List.nodup_nil⟩⟩
  · cases ea
    obtain ⟨⟨z, hs, ys, pr, o, es, ep, ho, hx, hd, he, nd'⟩, _⟩ := HD.ok I hh
    exact ⟨⟨xs, ys, rk, ek, r, hs, z, pr, o, es, ep, ho, hx, hd, he, raw_is I hf rk ek pr, nd'⟩⟩

/-! ### what stands at a key -/
def findD : List D → List D → D → Option D
  | k :: ks, w :: ws, x => if k = x then some w else findD ks ws x
  | _, _, _ => none
theorem find_flat {C : Cfg} {H : Hp} {S : Addr → Prop} {x : D} {k : Key} (hx : dkey x = some k) : ∀ {kvs : List (Key × V)} {ws : List D}, Reps C H S ws (kvs.map (·.2)) →
    (∀ w, findD (kvs.map fun p => keyD p.1) ws x = some w → ∃ v, valV kvs k = some v ∧ Rep C H S w v) ∧ (findD (kvs.map fun p => keyD p.1) ws x = none → valV kvs k = none)
  | [], ws, r => by
    simp only [List.map_nil] at r ⊢
    cases ws with
    | nil => exact ⟨fun w e => (by simp [findD] at e), fun _ => rfl⟩
    | cons w ws => rw [Reps] at r; obtain ⟨_, _, e, _⟩ := r; cases e
  | p :: kvs, [], r => by rw [List.map_cons, Reps] at r; cases r
  | p :: kvs, w :: ws, r => by
    rw [List.map_cons, Reps] at r
    obtain ⟨v, s, e, r1, r2⟩ := r
    rw [List.cons.injEq] at e
    obtain ⟨e1, e2⟩ := e
    subst e1; subst e2
    have ih := find_flat hx (kvs := kvs) (ws := ws) r2
    have ex := dkey_eq hx
    rw [List.map_cons, findD]
    by_cases z : p.1 = k
    · have z2 : keyD p.1 = x := by rw [z, ex]
      rw [if_pos z2, valV_pos z]
      exact ⟨fun w' e => by cases e; exact ⟨_, rfl, r1⟩, fun e => nomatch e⟩
    · have z2 : ¬ keyD p.1 = x := fun y => z (keyD_inj (y.trans ex))
      rw [if_neg z2, valV_neg z]
      exact ih
theorem find_raw {C : Cfg} {H : Hp} {S : Addr → Prop} {x : D} {k : NestedKey} (hx : nkey x = some k) : ∀ {ks ws : List D} {xs : List (NestedKey × Addr × V)} {ys : List (NestedKey × Addr × Value)}, ks.map nkey = xs.map (fun x => some x.1) → Reps C H S ws (xs.map (·.2.2)) → PairR xs ys →
    (∀ w, findD ks ws x = some w → ∃ p v, atKey ys k = some p ∧ RelV v p.2 ∧ Rep C H S w v) ∧ (findD ks ws x = none → atKey ys k = none)
  | [], ws, xs, ys, e, r, p => by
    have := List.map_eq_nil_iff.mp e.symm
    subst this
    cases p
    exact ⟨fun w e => (by simp [findD] at e), fun _ => rfl⟩
  | k0 :: ks, ws, [], ys, e, r, p => by simp at e
  | k0 :: ks, [], y :: xs, ys, e, r, p => by rw [List.map_cons, Reps] at r; cases r
  | k0 :: ks, w :: ws, y :: xs, _, e, r, .cons (b := z) (l₂ := ys) p0 p => by
    rw [List.map_cons, Reps] at r
    obtain ⟨v, s, e1, r1, r2⟩ := r
    rw [List.cons.injEq] at e1
    obtain ⟨e1, e2⟩ := e1
    subst e1; subst e2
    rw [List.map_cons, List.map_cons, List.cons.injEq] at e
    have ih := find_raw hx (ks := ks) (ws := ws) e.2 r2 p
    rw [findD]
    by_cases q : k0 = x
    · rw [if_pos q]
      have hz : z.1 = k := by
        rw [q, hx] at e
        rw [← p0.1]
        exact (Option.some.inj e.1).symm
      have ha : atKey (z :: ys) k = some z.2 := by simp [atKey, List.find?_cons, hz]
      exact ⟨fun w' e' => by cases e'; exact ⟨_, _, ha, p0.2.2, r1⟩, fun e' => nomatch e'⟩
    · rw [if_neg q]
      have hz : ¬ z.1 = k := fun z2 => q (nkey_inj k0 x k (by rw [e.1, p0.1, z2]) hx)
      have ha : atKey (z :: ys) k = atKey ys k := by simp [atKey, List.find?_cons, hz]
      rw [ha]
      exact ih
/-- the value at a key: none if the key does not suit the dict -/
def dgetD (d x : D) : Option (Option D) := match d with
  | .dct ks ws => if (flatKs ks && (dkey x).isSome) || (rawKs ks && (tupKey x).isSome) then some (findD ks ws x) else none
  | _ => none
def gDIx (d x : D) : Option R := match dgetD d x with
  | some (some w) => some (.d w)
  | _ => none
def gIxA (d x : D) : Option R := match d with
  | .dct _ _ => gDIx d x
  | _ => gIx d x
def gIn (x d : D) : Option R := match d with
  | .dct _ _ => match dgetD d x with
    | some o => some (.d (.bl o.isSome))
    | none => none
  | .lst xs => if okE 60 x && xs.all (okE 50) then some (.d (.bl (xs.any fun z => decide (z = x)))) else none
  | _ => none
def gNotIn (x d : D) : Option R := match d with
  | .dct _ _ => match dgetD d x with
    | some o => some (.d (.bl (!o.isSome)))
    | none => none
  | .lst xs => if okE 60 x && xs.all (okE 50) then some (.d (.bl (!xs.any fun z => decide (z = x)))) else none
  | _ => none
section
variable {X : Cx} {pins : List (Addr × Obj)} {σ : St} {H : Hp} {s : Shared} {S : Addr → Prop} {A : Around} {E : Value → Shared → Prop}
theorem dget_split {d x : D} {o : Option D} (h : dgetD d x = some o) : ∃ ks ws, d = .dct ks ws ∧ o = findD ks ws x ∧ ((flatKs ks = true ∧ ∃ k, dkey x = some k) ∨ (rawKs ks = true ∧ ∃ k, tupKey x = some k)) := by
  unfold dgetD at h
  split at h
  · rename_i ks ws
    split at h
    · rename_i hz
      cases h
      rw [Bool.or_eq_true, Bool.and_eq_true, Bool.and_eq_true] at hz
      refine ⟨ks, ws, rfl, rfl, ?_⟩
      rcases hz with ⟨h1, h2⟩ | ⟨h1, h2⟩
      · exact .inl ⟨h1, Option.isSome_iff_exists.mp h2⟩
      · exact .inr ⟨h1, Option.isSome_iff_exists.mp h2⟩
    · cases h
  · cases h
theorem room8 {A : Around} (hu : A.units + 64 < cLine) : (nestedKind X.prog X.w).room A.in1 := by
  show A.in1.units + 8 < cLine
  have : A.in1.units ≤ A.units + 1 := by
    show A.units + 1 ≤ A.units + 1
    exact Nat.le_refl _
  omega
theorem tup_ref {C : Cfg} {x : D} {k : NestedKey} {v : V} (hk : tupKey x = some k) (p : PRep C H S x v) : ∃ b, v = .ref b ∧ Rep C H S x v := by
  obtain ⟨_, _, xs, rfl⟩ := tupKey_eq hk
  obtain ⟨a, vs, rfl, q, r⟩ := p.tup
  exact ⟨a, rfl, .mkTup q r⟩
/-- the key as the model sees it -/
theorem key_is (I : Inv X pins σ H s) {x : D} {k : NestedKey} {b : Addr} (hk : tupKey x = some k) (r : Rep (cfg X) H S x (.ref b)) : (nestedKind X.prog X.w).is s.heap k b := by
  obtain ⟨h1, h2, _⟩ := tupKey_eq hk
  exact ⟨nested_of I x k _ _ h1 r rfl, h2⟩
theorem dct_typeIs (I : Inv X pins σ H s) {ks ws : List D} {a : Addr} (h : PRep (cfg X) H S (.dct ks ws) (.ref a)) : s.TypeIs (.ref a) "dict" ∧ (∀ b, Value.ref a = .ref b → ∃ ob, s.heap.get? b = some ob ∧ ob.dict = none) := by
  obtain ⟨a', ea, nd, ⟨kvs, hh, ek, r⟩ | ⟨xs, hh, rk, ek, r⟩⟩ := h
  · cases ea
    obtain ⟨z, hs, vs, rel, dd⟩ := HD.ok I hh
    refine ⟨dd.typeIs, fun b e => ?_⟩
    cases e
    obtain ⟨ob, _, _, h1, h2, _⟩ := dd
    exact ⟨ob, h1, h2.2.1⟩
  · cases ea
    obtain ⟨⟨z, hs, ys, pr, o, es, ep, ho, hx, hd, he, _⟩, _⟩ := HD.ok I hh
    refine ⟨⟨o, ho, hx.1⟩, fun b e => ?_⟩
    cases e
    exact ⟨o, ho, hx.2.1⟩
theorem dat_getItem {Q : Value → Shared → Prop} (hu : A.units + 64 < cLine) (I : Inv X pins σ H s) {d x w : D} {a : Addr} {y : V} {u : Value} (hd : PRep (cfg X) H S d (.ref a)) (hx : PRep (cfg X) H S x y) (ry : RelV y u) (e : dgetD d x = some (some w))
    (h : ∀ v w' s', Rep (cfg X) H S w v → Inv X pins σ H s' → RelV v w' → Q w' s') : wpAny (model X.prog X.w) A (getItem (.ref a) u) Q E s := by
  obtain ⟨ks, ws, rfl, eo, ⟨hf, k, hk⟩ | ⟨hf, k, hk⟩⟩ := dget_split e
  · obtain ⟨V⟩ := dct_flat I hd hf
    have ey := dkey_rep hk hx
    subst ey
    rw [V.keys] at eo
    obtain ⟨v, hv, rv⟩ := (find_flat hk V.reps).1 w eo.symm
    obtain ⟨w', hw, rw'⟩ := RelO.some_of (v := v) (o := valueAt V.vs k) (by rw [← hv]; exact V.kv.val k)
    exact wpAny_getItem_of (kV_is ry) V.dct.mapOf hw (h v w' _ rv (I.tok _) rw')
  · obtain ⟨V⟩ := dct_raw I hd hf
    obtain ⟨b, rfl, rx⟩ := tup_ref hk hx
    cases (show u = Value.ref b from ry)
    obtain ⟨p, v, hp, rp, rv⟩ := (find_raw (tupKey_eq hk).1 V.nk V.reps V.kv).1 w eo.symm
    exact wpAny_getItem_heap (room8 hu) (key_is I hk rx) V.dct hp (h v p.2 _ rv (I.tok _) rp)
theorem dat_in {Q : Value → Shared → Prop} (hu : A.units + 64 < cLine) (I : Inv X pins σ H s) {d x : D} {o : Option D} {a : Addr} {y : V} {u : Value} (hd : PRep (cfg X) H S d (.ref a)) (hx : PRep (cfg X) H S x y) (ry : RelV y u) (e : dgetD d x = some o)
    (h : ∀ s', Inv X pins σ H s' → Q (.bool o.isSome) s') : wpAny (model X.prog X.w) A (compareOp .In u (.ref a)) Q E s := by
  obtain ⟨ks, ws, rfl, eo, ⟨hf, k, hk⟩ | ⟨hf, k, hk⟩⟩ := dget_split e
  · obtain ⟨V⟩ := dct_flat I hd hf
    have ey := dkey_rep hk hx
    subst ey
    rw [V.keys] at eo
    refine wpAny_in_of (kV_is ry) V.sys V.dct.mapOf ?_
    have : (valueAt V.vs k).isSome = o.isSome := by
      rw [← (V.kv.val k).isSome_eq]
      cases ho : o with
      | none => rw [(find_flat hk V.reps).2 (by rw [← eo, ho])]; rfl
      | some w => obtain ⟨v, hv, _⟩ := (find_flat hk V.reps).1 w (by rw [← eo, ho]); rw [hv]; rfl
    rw [this]
    exact h _ (I.tok _)
  · obtain ⟨V⟩ := dct_raw I hd hf
    obtain ⟨b, rfl, rx⟩ := tup_ref hk hx
    cases (show u = Value.ref b from ry)
    refine wpAny_in_heap (room8 hu) (key_is I hk rx) V.sys V.dct ?_
    have : (atKey V.ys k).isSome = o.isSome := by
      cases ho : o with
      | none => rw [(find_raw (tupKey_eq hk).1 V.nk V.reps V.kv).2 (by rw [← eo, ho])]; rfl
      | some w => obtain ⟨p, v, hp, _⟩ := (find_raw (tupKey_eq hk).1 V.nk V.reps V.kv).1 w (by rw [← eo, ho]); rw [hp]; rfl
    rw [this]
    exact h _ (I.tok _)
theorem dat_notIn {Q : Value → Shared → Prop} (hu : A.units + 64 < cLine) (I : Inv X pins σ H s) {d x : D} {o : Option D} {a : Addr} {y : V} {u : Value} (hd : PRep (cfg X) H S d (.ref a)) (hx : PRep (cfg X) H S x y) (ry : RelV y u) (e : dgetD d x = some o)
    (h : ∀ s', Inv X pins σ H s' → Q (.bool (!o.isSome)) s') : wpAny (model X.prog X.w) A (compareOp .NotIn u (.ref a)) Q E s := by
  obtain ⟨ks, ws, rfl, eo, ⟨hf, k, hk⟩ | ⟨hf, k, hk⟩⟩ := dget_split e
  · obtain ⟨V⟩ := dct_flat I hd hf
    have ey := dkey_rep hk hx
    subst ey
    rw [V.keys] at eo
    refine wpAny_notIn_of (kV_is ry) V.sys V.dct.mapOf ?_
    have : (valueAt V.vs k).isSome = o.isSome := by
      rw [← (V.kv.val k).isSome_eq]
      cases ho : o with
      | none => rw [(find_flat hk V.reps).2 (by rw [← eo, ho])]; rfl
      | some w => obtain ⟨v, hv, _⟩ := (find_flat hk V.reps).1 w (by rw [← eo, ho]); rw [hv]; rfl
    rw [this]
    exact h _ (I.tok _)
  · obtain ⟨V⟩ := dct_raw I hd hf
    obtain ⟨b, rfl, rx⟩ := tup_ref hk hx
    cases (show u = Value.ref b from ry)
    refine wpAny_notIn_heap (room8 hu) (key_is I hk rx) V.sys V.dct ?_
    have : (atKey V.ys k).isSome = o.isSome := by
      cases ho : o with
      | none => rw [(find_raw (tupKey_eq hk).1 V.nk V.reps V.kv).2 (by rw [← eo, ho])]; rfl
      | some w => obtain ⟨p, v, hp, _⟩ := (find_raw (tupKey_eq hk).1 V.nk V.reps V.kv).1 w (by rw [← eo, ho]); rw [hp]; rfl
    rw [this]
    exact h _ (I.tok _)
theorem dat_get1 {Q : Value → Shared → Prop} (hu : A.units + 64 < cLine) (I : Inv X pins σ H s) {d x : D} {o : Option D} {a : Addr} {y : V} {u : Value} (hd : PRep (cfg X) H S d (.ref a)) (hx : PRep (cfg X) H S x y) (ry : RelV y u) (e : dgetD d x = some o)
    (h1 : ∀ w v w' s', o = some w → Rep (cfg X) H S w v → Inv X pins σ H s' → RelV v w' → Q w' s') (h2 : ∀ s', o = none → Inv X pins σ H s' → Q .none s') : wpAny (model X.prog X.w) A (call (.builtin "dict.get") [.ref a, u]) Q E s := by
  obtain ⟨ks, ws, rfl, eo, ⟨hf, k, hk⟩ | ⟨hf, k, hk⟩⟩ := dget_split e
  · obtain ⟨V⟩ := dct_flat I hd hf
    have ey := dkey_rep hk hx
    subst ey
    rw [V.keys] at eo
    refine call_meetsIn PySem.F.slot_dict_get V.dct.typeIs PySem.F.entry_dict_get (PySem.F.args_dict_get_2 _ _) (meets_dict_get (mixKind X.prog X.w) a (kV_is ry) V.sys) ⟨_, V.dct.mapOf, ?_⟩
    have rl := V.kv.val k
    cases ho : o with
    | none =>
      rw [(find_flat hk V.reps).2 (by rw [← eo, ho])] at rl
      rw [RelO.none_of rl]
      exact h2 _ ho (I.tok _)
    | some w =>
      obtain ⟨v, hv, rv⟩ := (find_flat hk V.reps).1 w (by rw [← eo, ho])
      rw [hv] at rl
      obtain ⟨w', hw, rw'⟩ := RelO.some_of rl
      rw [hw]
      exact h1 w v w' _ ho rv (I.tok _) rw'
  · obtain ⟨V⟩ := dct_raw I hd hf
    obtain ⟨b, rfl, rx⟩ := tup_ref hk hx
    cases (show u = Value.ref b from ry)
    refine call_meetsIn PySem.F.slot_dict_get V.dct.typeIs PySem.F.entry_dict_get (PySem.F.args_dict_get_2 _ _) (meetsH_dict_get (nestedKind X.prog X.w) a b V.sys) ⟨room8 hu, k, V.ys, key_is I hk rx, V.dct, ?_⟩
    cases ho : o with
    | none =>
      rw [(find_raw (tupKey_eq hk).1 V.nk V.reps V.kv).2 (by rw [← eo, ho])]
      exact h2 _ ho (I.tok _)
    | some w =>
      obtain ⟨p, v, hp, rp, rv⟩ := (find_raw (tupKey_eq hk).1 V.nk V.reps V.kv).1 w (by rw [← eo, ho])
      rw [hp]
      exact h1 w v p.2 _ ho rv (I.tok _) rp
theorem dat_get2 {Q : Value → Shared → Prop} (hu : A.units + 64 < cLine) (I : Inv X pins σ H s) {d x : D} {o : Option D} {a : Addr} {y : V} {u r : Value} (hd : PRep (cfg X) H S d (.ref a)) (hx : PRep (cfg X) H S x y) (ry : RelV y u) (e : dgetD d x = some o)
    (h1 : ∀ w v w' s', o = some w → Rep (cfg X) H S w v → Inv X pins σ H s' → RelV v w' → Q w' s') (h2 : ∀ s', o = none → Inv X pins σ H s' → Q r s') : wpAny (model X.prog X.w) A (call (.builtin "dict.get") [.ref a, u, r]) Q E s := by
  obtain ⟨ks, ws, rfl, eo, ⟨hf, k, hk⟩ | ⟨hf, k, hk⟩⟩ := dget_split e
  · obtain ⟨V⟩ := dct_flat I hd hf
    have ey := dkey_rep hk hx
    subst ey
    rw [V.keys] at eo
    refine call_meetsIn PySem.F.slot_dict_get V.dct.typeIs PySem.F.entry_dict_get (PySem.F.args_dict_get_3 _ _ _) (meets_dict_get_default (mixKind X.prog X.w) a (kV_is ry) V.sys r) ⟨_, V.dct.mapOf, ?_⟩
    have rl := V.kv.val k
    cases ho : o with
    | none =>
      rw [(find_flat hk V.reps).2 (by rw [← eo, ho])] at rl
      rw [RelO.none_of rl]
      exact h2 _ ho (I.tok _)
    | some w =>
      obtain ⟨v, hv, rv⟩ := (find_flat hk V.reps).1 w (by rw [← eo, ho])
      rw [hv] at rl
      obtain ⟨w', hw, rw'⟩ := RelO.some_of rl
      rw [hw]
      exact h1 w v w' _ ho rv (I.tok _) rw'
  · obtain ⟨V⟩ := dct_raw I hd hf
    obtain ⟨b, rfl, rx⟩ := tup_ref hk hx
    cases (show u = Value.ref b from ry)
    refine call_meetsIn PySem.F.slot_dict_get V.dct.typeIs PySem.F.entry_dict_get (PySem.F.args_dict_get_3 _ _ _) (meetsH_dict_get_default (nestedKind X.prog X.w) a b V.sys r) ⟨room8 hu, k, V.ys, key_is I hk rx, V.dct, ?_⟩
    cases ho : o with
    | none =>
      rw [(find_raw (tupKey_eq hk).1 V.nk V.reps V.kv).2 (by rw [← eo, ho])]
      exact h2 _ ho (I.tok _)
    | some w =>
      obtain ⟨p, v, hp, rp, rv⟩ := (find_raw (tupKey_eq hk).1 V.nk V.reps V.kv).1 w (by rw [← eo, ho])
      rw [hp]
      exact h1 w v p.2 _ ho rv (I.tok _) rp
end
theorem PRep.anti {C : Cfg} {H : Hp} {S S' : Addr → Prop} {d : D} {v : V} (ok : SOk H S) (sub : ∀ a, S' a → S a) (h : PRep C H S d v) : PRep C H S' d v := by
  cases d with
  | lst xs =>
    obtain ⟨a, vs, e, q, r⟩ := h
    exact ⟨a, vs, e, q, r.anti ok sub⟩
  | dct ks ws =>
    obtain ⟨a, e, nd, ⟨kvs, q, ek, r⟩ | ⟨xs, q, rk, ek, r⟩⟩ := h
    · exact ⟨a, e, nd, .inl ⟨kvs, q, ek, r.anti ok sub⟩⟩
    · exact ⟨a, e, nd, .inr ⟨xs, q, rk.anti ok sub, ek, r.anti ok sub⟩⟩
  | _ => exact Rep.anti ok sub h
theorem PRep.dctRef {C : Cfg} {H : Hp} {S : Addr → Prop} {ks ws : List D} {v : V} (h : PRep C H S (.dct ks ws) v) : ∃ a, v = .ref a := by
  obtain ⟨a, e, _⟩ := h
  exact ⟨a, e⟩
section
variable {X : Cx}
theorem ixgD (hu : X.A.units + 64 < cLine) : IxR X (rG2 (cfg X) gDIx) := by
  intro value slice pins s σ H x y v u Q I rx ry h hs
  obtain ⟨S, dx, dy, r, ok, px, py, e, k⟩ := h
  unfold gDIx at e
  split at e
  · rename_i w ew
    cases e
    obtain ⟨ks, ws, rfl, _⟩ := dget_split ew
    obtain ⟨a, rfl⟩ := px.dctRef
    cases rx
    exact tail_any (dct_typeIs I px).1 PySem.F.slot_dict_getitem.lookup (dat_getItem hu I px py ry ew fun v w' s' rv I' r' => ⟨v, H, I', r', resD k rv⟩) hs
  · cases e
theorem ixgA (hu : X.A.units + 64 < cLine) : IxR X (rG2 (cfg X) gIxA) := ((ixg (X := X)).or (ixgD hu)).weakR fun x y H Q h => by
  obtain ⟨S, dx, dy, r, ok, px, py, e, k⟩ := h
  unfold gIxA at e
  split at e
  · exact .inr ⟨S, _, dy, r, ok, px, py, e, k⟩
  · exact .inl ⟨S, dx, dy, r, ok, px, py, e, k⟩
theorem opg_in (hu : X.A.units + 65 < cLine) : OpR X (compareOp .In) (rG2 (cfg X) gIn) := by
  intro pins s σ H x y v u Q I rx ry h
  obtain ⟨S, dx, dy, r, ok, px, py, e, k⟩ := h
  unfold gIn at e
  split at e
  · split at e
    · rename_i ks ws o ew
      cases e
      obtain ⟨a, rfl⟩ := py.dctRef
      cases ry
      exact dat_in (by omega) I py px rx ew fun s' I' => ⟨.bl _, H, I', rfl, resD k .mkBl⟩
    · cases e
  · split at e
    · rename_i xs hz
      rw [Bool.and_eq_true] at hz
      cases e
      have ol : okE 51 (.lst xs) = true := by simp only [okE]; exact hz.2
      refine op_inD hu pins s σ H x y v u Q I rx ry ⟨toP dx, toPs xs, dpP_of hz.1 px, by have := dpP_of ol py; simpa only [toP] using this, okE_shaped hz.1 (by decide), by have := okE_shaped ol (by decide); simpa only [toP] using this, ?_⟩
      have : ((toPs xs).any fun z => PyData.eqv z (toP dx)) = xs.any fun z => decide (z = dx) := by
        have key : ∀ xs : List D, xs.all (okE 50) = true → ((toPs xs).any fun z => PyData.eqv z (toP dx)) = xs.any fun z => decide (z = dx) := by
          intro xs
          induction xs with
          | nil => intro _; rfl
          | cons z xs ih =>
            intro h
            rw [List.all_cons, Bool.and_eq_true] at h
            simp only [toPs, List.any_cons]
            rw [eqv_toP 50 60 z dx h.1 hz.1, beq_dec, ih h.2]
        exact key xs hz.2
      rw [this]
      exact resD k .mkBl
    · cases e
  · cases e
theorem opg_notIn (hu : X.A.units + 65 < cLine) : OpR X (compareOp .NotIn) (rG2 (cfg X) gNotIn) := by
  intro pins s σ H x y v u Q I rx ry h
  obtain ⟨S, dx, dy, r, ok, px, py, e, k⟩ := h
  unfold gNotIn at e
  split at e
  · split at e
    · rename_i ks ws o ew
      cases e
      obtain ⟨a, rfl⟩ := py.dctRef
      cases ry
      exact dat_notIn (by omega) I py px rx ew fun s' I' => ⟨.bl _, H, I', rfl, resD k .mkBl⟩
    · cases e
  · split at e
    · rename_i xs hz
      rw [Bool.and_eq_true] at hz
      cases e
      have ol : okE 51 (.lst xs) = true := by simp only [okE]; exact hz.2
      refine op_notInD hu pins s σ H x y v u Q I rx ry ⟨toP dx, toPs xs, dpP_of hz.1 px, by have := dpP_of ol py; simpa only [toP] using this, okE_shaped hz.1 (by decide), by have := okE_shaped ol (by decide); simpa only [toP] using this, ?_⟩
      have : ((toPs xs).any fun z => PyData.eqv z (toP dx)) = xs.any fun z => decide (z = dx) := by
        have key : ∀ xs : List D, xs.all (okE 50) = true → ((toPs xs).any fun z => PyData.eqv z (toP dx)) = xs.any fun z => decide (z = dx) := by
          intro xs
          induction xs with
          | nil => intro _; rfl
          | cons z xs ih =>
            intro h
            rw [List.all_cons, Bool.and_eq_true] at h
            simp only [toPs, List.any_cons]
            rw [eqv_toP 50 60 z dx h.1 hz.1, beq_dec, ih h.2]
        exact key xs hz.2
      rw [this]
      exact resD k .mkBl
    · cases e
  · cases e
end
end Z
/-! Z13: things of a name's own are changed; dict methods, displays; enumerate, zip, stars. -/
namespace Z
open PySem PySem.Spec L2
open PyProof.Rows hiding St

/-! ### d[k] = v by data -/
def putP (ps : List (D × D)) (x y : D) : List (D × D) := if (ps.any fun p => decide (p.1 = x)) = true then ps.map (fun p => if p.1 = x then (p.1, y) else p) else ps ++ [(x, y)]
def kd (p : Key × D) : D × D := (keyD p.1, p.2)
theorem putP_kd (acc : List (Key × D)) (k : Key) (y : D) : putP (acc.map kd) (keyD k) y = (putA acc k y).map kd := by
  unfold putP putA
  have e1 : ((acc.map kd).any fun p => decide (p.1 = keyD k)) = acc.any fun p => decide (p.1 = k) := by
    rw [List.any_map]
    refine congrArg (fun f => acc.any f) (funext fun p => ?_)
    show decide (keyD p.1 = keyD k) = decide (p.1 = k)
    by_cases z : p.1 = k
    · rw [z]; simp
    · have : ¬ keyD p.1 = keyD k := fun y => z (keyD_inj y)
      simp [z, this]
  rw [e1]
  split
  · rw [List.map_map, List.map_map]
    refine List.map_congr_left fun p _ => ?_
    show (if keyD p.1 = keyD k then (keyD p.1, y) else kd p) = kd (if p.1 = k then (p.1, y) else p)
    by_cases z : p.1 = k
    · rw [if_pos z, if_pos (by rw [z])]; rfl
    · rw [if_neg z, if_neg (fun y => z (keyD_inj y))]
  · rw [List.map_append]; rfl
theorem putP_keys (ps : List (D × D)) (k : D) (y : D) : (putP ps k y).map (·.1) = if (ps.any fun p => decide (p.1 = k)) = true then ps.map (·.1) else ps.map (·.1) ++ [k] := by
  unfold putP
  split
  · rw [List.map_map]
    refine List.map_congr_left fun p _ => ?_
    show (if p.1 = k then (p.1, y) else p).1 = p.1
    split <;> rfl
  · rw [List.map_append]; rfl
theorem putP_nodup {ps : List (D × D)} (k : D) (y : D) (h : (ps.map (·.1)).Nodup) : ((putP ps k y).map (·.1)).Nodup := by
  rw [putP_keys]
  split
  · exact h
  · rename_i z
    rw [List.nodup_append]
    refine ⟨h, by simp, fun a ha b hb e => ?_⟩
    rw [List.mem_singleton] at hb
    subst hb
    subst e
    obtain ⟨p, hp, e⟩ := List.mem_map.mp ha
    exact z (List.any_eq_true.mpr ⟨p, hp, by simpa using e⟩)
theorem putP_len (ps : List (D × D)) (k : D) (y : D) : (putP ps k y).length ≤ ps.length + 1 := by
  have := congrArg List.length (putP_keys ps k y)
  rw [List.length_map] at this
  rw [this]
  split
  · rw [List.length_map]; omega
  · rw [List.length_append, List.length_map]; exact Nat.le_refl _
def putRx (xs : List (NestedKey × Addr × V)) (k : NestedKey) (b : Addr) (v : V) : List (NestedKey × Addr × V) := if (xs.any fun x => decide (x.1 = k)) = true then xs.map (fun x => if x.1 = k then (x.1, x.2.1, v) else x) else xs ++ [(k, b, v)]
section
variable (C : Cfg) (H : Hp) (S : Addr → Prop)
def RepR : List (D × D) → List (NestedKey × Addr × V) → Prop
  | [], xs => xs = []
  | p :: r, xs => ∃ k b v s, xs = (k, b, v) :: s ∧ nkey p.1 = some k ∧ Rep C H S p.1 (.ref b) ∧ Rep C H S p.2 v ∧ RepR r s
end
section
variable {C : Cfg} {H H' : Hp} {S S' : Addr → Prop}
theorem RepR.mk : ∀ {ks ws : List D} {xs : List (NestedKey × Addr × V)}, Reps C H S ks (xs.map fun x => .ref x.2.1) → ks.map nkey = xs.map (fun x => some x.1) → Reps C H S ws (xs.map (·.2.2)) → RepR C H S (ks.zip ws) xs
  | ks, ws, [], r, e, t => by
    have := List.map_eq_nil_iff.mp e
    subst this
    rfl
  | [], ws, x :: xs, r, e, t => by simp at e
  | k :: ks, [], x :: xs, r, e, t => by rw [List.map_cons, Reps] at t; cases t
  | k :: ks, w :: ws, x :: xs, r, e, t => by
    rw [List.map_cons, Reps] at r t
    obtain ⟨v1, s1, e1, r1, r2⟩ := r
    obtain ⟨v2, s2, e2, t1, t2⟩ := t
    rw [List.cons.injEq] at e1 e2
    obtain ⟨e11, e12⟩ := e1
    obtain ⟨e21, e22⟩ := e2
    subst e11; subst e12; subst e21; subst e22
    rw [List.map_cons, List.map_cons, List.cons.injEq] at e
    exact ⟨x.1, x.2.1, x.2.2, xs, rfl, e.1, r1, t1, RepR.mk r2 e.2 t2⟩
theorem RepR.keys : ∀ {ps : List (D × D)} {xs : List (NestedKey × Addr × V)}, RepR C H S ps xs → Reps C H S (ps.map (·.1)) (xs.map fun x => .ref x.2.1)
  | [], xs, h => by rw [RepR] at h; subst h; exact Reps.nil
  | p :: r, xs, h => by
    obtain ⟨k, b, v, s, rfl, e, h1, h2, h3⟩ := h
    exact Reps.cons h1 h3.keys
theorem RepR.vals : ∀ {ps : List (D × D)} {xs : List (NestedKey × Addr × V)}, RepR C H S ps xs → Reps C H S (ps.map (·.2)) (xs.map (·.2.2))
  | [], xs, h => by rw [RepR] at h; subst h; exact Reps.nil
  | p :: r, xs, h => by
    obtain ⟨k, b, v, s, rfl, e, h1, h2, h3⟩ := h
    exact Reps.cons h2 h3.vals
theorem RepR.nk : ∀ {ps : List (D × D)} {xs : List (NestedKey × Addr × V)}, RepR C H S ps xs → (ps.map (·.1)).map nkey = xs.map (fun x => some x.1)
  | [], xs, h => by rw [RepR] at h; subst h; rfl
  | p :: r, xs, h => by
    obtain ⟨k, b, v, s, rfl, e, h1, h2, h3⟩ := h
    rw [List.map_cons, List.map_cons, List.map_cons, h3.nk, e]
theorem RepR.carry (c : Carry H H' S S') : ∀ {ps : List (D × D)} {xs : List (NestedKey × Addr × V)}, RepR C H S ps xs → RepR C H' S' ps xs
  | [], xs, h => h
  | p :: r, xs, h => by
    obtain ⟨k, b, v, s, e0, e, h1, h2, h3⟩ := h
    exact ⟨k, b, v, s, e0, e, h1.carry c, h2.carry c, h3.carry c⟩
theorem RepR.any {x : D} {k : NestedKey} (hx : nkey x = some k) : ∀ {ps : List (D × D)} {xs : List (NestedKey × Addr × V)}, RepR C H S ps xs → (xs.any fun y => decide (y.1 = k)) = ps.any fun p => decide (p.1 = x)
  | [], xs, h => by rw [RepR] at h; subst h; rfl
  | p :: r, xs, h => by
    obtain ⟨k', b, v, s, rfl, e, h1, h2, h3⟩ := h
    rw [List.any_cons, List.any_cons, h3.any hx]
    have : decide (k' = k) = decide (p.1 = x) := by
      by_cases z : p.1 = x
      · have : k' = k := by rw [z, hx] at e; exact (Option.some.inj e).symm
        simp [z, this]
      · have : ¬ k' = k := fun y => z (nkey_inj p.1 x k (by rw [e, y]) hx)
        simp [z, this]
    rw [this]
theorem RepR.repl {x y : D} {k : NestedKey} {v : V} (hx : nkey x = some k) (hy : Rep C H S y v) : ∀ {ps : List (D × D)} {xs : List (NestedKey × Addr × V)}, RepR C H S ps xs → RepR C H S (ps.map fun p => if p.1 = x then (p.1, y) else p) (xs.map fun z => if z.1 = k then (z.1, z.2.1, v) else z)
  | [], xs, h => by rw [RepR] at h; subst h; rfl
  | p :: r, xs, h => by
    obtain ⟨k', b, w, s, rfl, e, h1, h2, h3⟩ := h
    rw [List.map_cons, List.map_cons]
    by_cases z : p.1 = x
    · have z2 : k' = k := by rw [z, hx] at e; exact (Option.some.inj e).symm
      simp only [if_pos z, if_pos z2]
      exact ⟨k', b, v, _, rfl, e, h1, hy, h3.repl hx hy⟩
    · have z2 : ¬ k' = k := fun y => z (nkey_inj p.1 x k (by rw [e, y]) hx)
      simp only [if_neg z, if_neg z2]
      exact ⟨k', b, w, _, rfl, e, h1, h2, h3.repl hx hy⟩
theorem RepR.snoc {x y : D} {k : NestedKey} {b : Addr} {v : V} (hx : nkey x = some k) (hb : Rep C H S x (.ref b)) (hy : Rep C H S y v) : ∀ {ps : List (D × D)} {xs : List (NestedKey × Addr × V)}, RepR C H S ps xs → RepR C H S (ps ++ [(x, y)]) (xs ++ [(k, b, v)])
  | [], xs, h => by rw [RepR] at h; subst h; exact ⟨k, b, v, [], rfl, hx, hb, hy, rfl⟩
  | p :: r, xs, h => by
    obtain ⟨k', b', w, s, rfl, e, h1, h2, h3⟩ := h
    exact ⟨k', b', w, _, rfl, e, h1, h2, h3.snoc hx hb hy⟩
theorem RepR.put {x y : D} {k : NestedKey} {b : Addr} {v : V} (hx : nkey x = some k) (hb : Rep C H S x (.ref b)) (hy : Rep C H S y v) {ps : List (D × D)} {xs : List (NestedKey × Addr × V)} (h : RepR C H S ps xs) : RepR C H S (putP ps x y) (putRx xs k b v) := by
  unfold putP putRx
  rw [h.any hx]
  split
  · exact h.repl hx hy
  · exact h.snoc hx hb hy
theorem RepR.length : ∀ {ps : List (D × D)} {xs : List (NestedKey × Addr × V)}, RepR C H S ps xs → ps.length = xs.length
  | [], xs, h => by rw [RepR] at h; subst h; rfl
  | p :: r, xs, h => by
    obtain ⟨k', b', w, s, rfl, e, h1, h2, h3⟩ := h
    rw [List.length_cons, List.length_cons, h3.length]
end
theorem PairR.any {xs : List (NestedKey × Addr × V)} {ys : List (NestedKey × Addr × Value)} (k : NestedKey) (h : PairR xs ys) : (xs.any fun x => decide (x.1 = k)) = (atKey ys k).isSome := by
  induction h with
  | nil => rfl
  | @cons x y l₁ l₂ p t ih =>
    rw [List.any_cons, ih]
    by_cases z : y.1 = k
    · have ha : atKey (y :: l₂) k = some y.2 := by simp [atKey, List.find?_cons, z]
      rw [ha]
      simp [p.1, z]
    · have ha : atKey (y :: l₂) k = atKey l₂ k := by simp [atKey, List.find?_cons, z]
      rw [ha]
      simp [p.1, z]
theorem PairR.put {xs : List (NestedKey × Addr × V)} {ys : List (NestedKey × Addr × Value)} {k : NestedKey} {b : Addr} {v : V} {u : Value} (r : RelV v u) (h : PairR xs ys) : PairR (putRx xs k b v) (storedH ys k b u) := by
  have ha := PairR.any k h
  unfold putRx storedH
  rw [ha]
  split
  · rename_i hsome
    clear ha hsome
    induction h with
    | nil => exact .nil
    | @cons x y l₁ l₂ p t ih =>
      rw [List.map_cons, List.map_cons]
      refine .cons ?_ ih
      unfold putAt
      by_cases z : y.1 = k
      · rw [if_pos z, if_pos (p.1.trans z)]
        exact ⟨p.1, p.2.1, r⟩
      · rw [if_neg z, if_neg (fun q => z (p.1.symm.trans q))]
        exact p
  · exact Paired.snoc h ⟨rfl, rfl, r⟩

def gPut (d x y : D) : Option D := match d with
  | .lst xs => match x with
    | .int i => match ixN xs.length i with
      | some j => some (.lst (xs.set j y))
      | none => none
    | _ => none
  | .dct ks ws => if ((flatKs ks && (dkey x).isSome) || (rawKs ks && (tupKey x).isSome)) = true ∧ ks.length < LIM then some (.dct ((putP (ks.zip ws) x y).map (·.1)) ((putP (ks.zip ws) x y).map (·.2))) else none
  | _ => none
def rPutD (C : Cfg) : TSet := fun o i v H Q => ∃ S a d x y d', SOk H S ∧ S a ∧ o = .ref a ∧ RepO C H S d a ∧ PRep C H S x i ∧ Rep C H S y v ∧ gPut d x y = some d' ∧ ∀ H', (∀ b u, H b = some u → b ≠ a → H' b = some u) → RepO C H' S d' a → Q H'
theorem carry_upd {H : Hp} {S : Addr → Prop} {a : Addr} (ok : SOk H S) (s : S a) (o : HO) : Carry H (upd H a o) S S := ⟨ok, fun b u e n => by rw [upd_ne (fun z => n (by rw [z]; exact s))]; exact e, fun _ s => .inl s⟩
theorem keep_upd {H : Hp} {a : Addr} (o : HO) : ∀ b u, H b = some u → b ≠ a → upd H a o b = some u := fun b u e n => by rw [upd_ne n]; exact e
theorem zip_fst {α β : Type} : ∀ {as : List α} {bs : List β}, as.length = bs.length → (as.zip bs).map (·.1) = as
  | [], [], _ => rfl
  | a :: as, b :: bs, h => by
    rw [List.zip_cons_cons, List.map_cons, zip_fst (by simpa using h)]
  | [], _ :: _, h => by simp at h
  | _ :: _, [], h => by simp at h
theorem zip_snd {α β : Type} : ∀ {as : List α} {bs : List β}, as.length = bs.length → (as.zip bs).map (·.2) = bs
  | [], [], _ => rfl
  | a :: as, b :: bs, h => by
    rw [List.zip_cons_cons, List.map_cons, zip_snd (by simpa using h)]
  | [], _ :: _, h => by simp at h
  | _ :: _, [], h => by simp at h
theorem psetD {X : Cx} (hu : X.A.units + 64 < cLine) : PSet X (rPutD (cfg X)) := by
  intro pins s σ H o i v ov iv u Q I ro ri rv h
  obtain ⟨S, a, d, x, y, d', ok, sa, rfl, hd, hx, hy, e, q⟩ := h
  cases ro
  unfold gPut at e
  split at e
  · rename_i xs
    split at e
    · rename_i k
      split at e
      · rename_i j hj
        cases e
        obtain ⟨vs, h1, h2⟩ := hd
        have := hx.int
        subst this
        rw [h2.length] at hj
        refine set_list pins s σ H (.ref a) (.int k) v (.ref a) iv u Q I rfl ri rv ⟨a, vs, k, j, rfl, rfl, h1, hj, ?_⟩
        have c := carry_upd ok sa (.lst (vs.set j v))
        exact q _ (keep_upd _) ⟨_, upd_same, (h2.carry c).set j (hy.carry c)⟩
      · cases e
    · cases e
  · rename_i ks ws
    split at e
    · rename_i hz
      obtain ⟨hz, hlen⟩ := hz
      cases e
      rw [Bool.or_eq_true, Bool.and_eq_true, Bool.and_eq_true] at hz
      have hp : PRep (cfg X) H S (.dct ks ws) (.ref a) := .ofO hd
      have nd : ks.Nodup := hd.1
      obtain ⟨om, hom, mom⟩ := hd.mut
      have mu : Mut (H a) := by
        rw [hom]
        cases om <;> first | exact mom.elim | trivial
      rcases hz with ⟨hf, hk⟩ | ⟨hf, hk⟩
      · obtain ⟨k, hk⟩ := Option.isSome_iff_exists.mp hk
        obtain ⟨W0⟩ := dct_flat I hp hf
        have ei := dkey_rep hk hx
        subst ei
        have hl : W0.kvs.length < sizeLine := by
          have := congrArg List.length W0.keys
          rw [List.length_map] at this
          rw [← this, ← lim_line]
          exact hlen
        have hzv : W0.vs.length ≤ sizeLine := by rw [← W0.kv.length]; exact W0.size
        refine wpAny_setItem_pairs (hsz := hzv) (kV_is ri) W0.dct fun h' dd' hs => ?_
        have he : ∃ q, h'.get? a = some q := let ⟨q, _, _, hq, _⟩ := dd'; ⟨q, hq⟩
        have hl2 : (putK W0.kvs k v).length ≤ sizeLine := by have := length_putK W0.kvs k v; omega
        refine ⟨_, d_write I mu hs he (dk_new hl2 W0.sys (W0.kv.put k rv) dd'), q _ (keep_upd _) ?_⟩
        have c := carry_upd ok sa (.dK (putK W0.kvs k v))
        have lw : W0.kvs.length = ws.length := by
          have := W0.reps.length
          rw [List.length_map] at this
          exact this.symm
        have lk : (W0.kvs.map (·.1)).length = ws.length := by rw [List.length_map]; exact lw
        have rk : RepKV (cfg X) H S ((W0.kvs.map (·.1)).zip ws) W0.kvs := RepKV.mk (zip_fst lk).symm (by rw [zip_snd lk]; exact W0.reps)
        have ez : ks.zip ws = ((W0.kvs.map (·.1)).zip ws).map kd := by
          have : ∀ (l : List (Key × V)) (ws : List D), (l.map fun p => keyD p.1).zip ws = ((l.map (·.1)).zip ws).map kd := by
            intro l
            induction l with
            | nil => intro ws; rfl
            | cons p l ih =>
              intro ws
              cases ws with
              | nil => rfl
              | cons w ws => rw [List.map_cons, List.map_cons, List.zip_cons_cons, List.zip_cons_cons, List.map_cons, ih]; rfl
          exact (congrArg (fun l => l.zip ws) W0.keys).trans (this W0.kvs ws)
        have ndk : (((W0.kvs.map (·.1)).zip ws).map (·.1)).Nodup := by
          rw [zip_fst lk]
          rw [W0.keys] at nd
          have e2 : (W0.kvs.map fun p => keyD p.1) = (W0.kvs.map (·.1)).map keyD := by rw [List.map_map]; rfl
          rw [e2] at nd
          exact List.Pairwise.of_map keyD (fun a b n e => n (congrArg keyD e)) nd
        have fin := repO_dct (putA_nodup k y ndk) (C := cfg X) (S := S) (a := a) upd_same ((rk.carry c).put (hy.carry c) (k := k))
        rw [dkey_eq hk, ez, putP_kd, List.map_map, List.map_map]
        exact fin
      · obtain ⟨k, hk⟩ := Option.isSome_iff_exists.mp hk
        obtain ⟨W0⟩ := dct_raw I hp hf
        obtain ⟨b, rfl, rx⟩ := tup_ref hk hx
        cases (show iv = Value.ref b from ri)
        have nk := (tupKey_eq hk).1
        have hzv : W0.ys.length ≤ sizeLine := by rw [← Paired.length W0.kv]; exact W0.size
        refine wpAny_setItem_heap (hsz := hzv) (room8 hu) (key_is I hk rx) W0.dct fun h' dd' hs => ?_
        obtain ⟨q', es, ep, hq, h2, h3, h4, _, h5⟩ := dd'
        have rr : RepR (cfg X) H S (ks.zip ws) W0.xs := RepR.mk W0.keys W0.nk W0.reps
        have rr2 := rr.put nk rx hy
        have lw : ks.length = ws.length := by
          have h1 := W0.keys.length
          have h2 := W0.reps.length
          rw [List.length_map] at h1 h2
          omega
        have hl2 : (putRx W0.xs k b v).length ≤ sizeLine := by
          rw [← rr2.length]
          have h1 := putP_len (ks.zip ws) x y
          have h2 : (ks.zip ws).length = ks.length := by rw [List.length_zip, lw, Nat.min_self]
          rw [← lim_line]
          omega
        have new : RawD X.prog X.w a (putRx W0.xs k b v) h' := ⟨hl2, W0.sys, _, W0.kv.put rv, q', es, ep, hq, h2, h3, h4, h5⟩
        refine ⟨_, d_write (ob := rawO X.prog X.w a (putRx W0.xs k b v)) I mu hs ⟨q', hq⟩ ⟨new, ⟨q', hq⟩, fun g1 g2 w1 hg => ?_⟩, q _ (keep_upd _) ?_⟩
        · obtain ⟨z1, z2, ys, z3, o', es', ep', z4, z5⟩ := w1
          exact ⟨z1, z2, ys, z3, o', es', ep', hg _ z4, z5⟩
        · have c := carry_upd ok sa (rawO X.prog X.w a (putRx W0.xs k b v))
          have r3 := rr2.carry c
          refine ⟨putP_nodup x y (by rw [zip_fst lw]; exact nd), .inr ⟨_, upd_same, r3.keys, r3.nk, r3.vals⟩⟩
    · cases e
  · cases e
/-! ### x[i] = e, x a name -/
def bPut (n : Nat) (ek ev : EV) : BV := fun A => match ev A with
  | some (r, A1) => match getO A1 n with
    | some _ => match ek A1 with
      | some (rk, A2) => match peek A2 rk with
        | some dk => match mv A2 r with
          | some (y, A3) => match getO A3 n with
            | some d => match gPut d dk y with
              | some d' => match putO A3 n d' with
                | some A4 => some (.nx, A4)
                | none => none
              | none => none
            | none => none
          | none => none
        | none => none
      | none => none
    | none => none
  | none => none
theorem Busy.of_step {Fb Fb' : Addr → Prop} {A A' : SS} {σ : St} {H H' : Hp} (sub : ∀ a, Fb a → Fb' a) (s : Step A A' σ H H') : ∀ a, Busy Fb A' σ a → Busy Fb' A σ a := fun a b => b.imp (sub a) fun ⟨i, o⟩ => ⟨i, s.own o⟩
theorem put_weak {X : Cx} {n : Nat} {ek ev : EV} {D : Ends} {σ : St} {H : Hp} (h : tSS (cfg X) (bPut n ek ev) D σ H) : tAsg (tS (cfg X) ev) (L2.gSub (tVar n) (tS (cfg X) ek) (rPutD (cfg X))) D σ H := by
  obtain ⟨G, Fb, A, f, A', hG, rel, he, q⟩ := h
  unfold bPut at he
  split at he
  · rename_i r A1 e1
    split at he
    · rename_i d0 e0
      split at he
      · rename_i rk A2 e2
        split at he
        · rename_i dk edk
          split at he
          · rename_i y A3 e3
            split at he
            · rename_i d ed
              split at he
              · rename_i d' ed'
                split at he
                · rename_i A4 e4
                  cases he
                  refine ⟨G, Fb, A, r, A1, hG, rel, e1, fun v H1 Fb1 p1 h1 f1 => ?_⟩
                  obtain ⟨a0, ea0, _⟩ := p1.rel.getO e0
                  refine ⟨.ref a0, ea0, G, Fb1, A1, rk, A2, hG, p1.rel, e2, fun i H2 Fb2 p2 h2 f2 => ?_⟩
                  have p12 := p1.trans p2
                  obtain ⟨r3, ry, s3⟩ := (h1.carry p1.rel p2).mv p2.rel p12.sub f1 e3
                  have p3 := p12.then r3 s3
                  obtain ⟨a, ea, oa, ro, nf⟩ := p3.rel.getO ed
                  have : a0 = a := by rw [ea0] at ea; cases ea; rfl
                  subst this
                  have hk := h2.peek p2.rel edk
                  rw [hG] at hk ry ro
                  refine ⟨Busy Fb A3 σ, a0, d, dk, y, d', p3.rel.busy, .inr ⟨n, oa⟩, rfl, ro, hk.anti p2.rel.busy (Busy.of_step p12.sub s3), ry, ed', fun H' keep ro' => ?_⟩
                  rw [← hG] at ro'
                  obtain ⟨r4, s4, _⟩ := p3.rel.mutate e4 ea keep ro'
                  exact q _ _ (p3.trans ⟨fun _ s => s, fun _ s => .inl s, r4, s4⟩).s
                · cases he
              · cases he
            · cases he
          · cases he
        · cases he
      · cases he
    · cases he
  · cases he
section
variable {X : Cx} {i e : Expr} {ek ev : EV} {n : Nat} {x : Str} {pos p p2 : Pos}
theorem simS_put (hu : X.A.units + 64 < cLine) (he : SimE X e ev) (hi : SimE X i ek) (hN : X.N[n]? = some x := by rfl) (hv : Vis X.env.scope x := by first | exact Or.inl rfl | exact Or.inr (Or.inl rfl) | exact Or.inr (Or.inr rfl)) (hd : (x == ("__debug__" : Str)) = false := by decide) (hcd : (x == ("__classdict__" : Str)) = false := by decide)
    (ha : ∀ v, assign (.Subscript (.Name x p) i p2) X.env v = (do
      let ov ← holding [v] (eval (.Name x p) X.env)
      let iv ← holding [v, ov] (eval i X.env)
      standAt p2
      holding [v, ov, iv] (setItem ov iv v)
      release [v, ov, iv] []) := by intro _; rfl)
    (hs : swapsWithSole [.Subscript (.Name x p) i p2] e pos.line X.env = pure false := by rfl) (hw : swappedStores [.Subscript (.Name x p) i p2] e X.env = pure none := by rfl)
    (h1 : (assignEach [.Subscript (.Name x p) i p2] X.env).map (·.2) = [assign (.Subscript (.Name x p) i p2) X.env] := by rfl) : SimS X (.Assign [.Subscript (.Name x p) i p2] e pos) (bPut n ek ev) :=
  (ps_asg he (pg_sub (pe_var hN hv hd hcd) hi (psetD hu) ha) hs hw h1).weak fun _ _ _ h => put_weak h
end

/-! ### x.append(e), x.pop(e), x.extend(e) -/
/-- a method of a name's own list: the argument is kept (mv) or read (peek) -/
def evMt (n : Nat) (f : List D → D → Option (D × List D)) (keep : Bool) (ev : EV) : EV := fun A => match getO A n with
  | some (.lst _) => match ev A with
    | some (r, A1) => match (if keep then mv A1 r else (peek A1 r).map fun x => (x, A1)) with
      | some (y, A2) => match getO A2 n with
        | some (.lst xs) => match f xs y with
          | some (z, ys) => match putO A2 n (.lst ys) with
            | some A3 => some (.d z, A3)
            | none => none
          | none => none
        | _ => none
      | none => none
    | none => none
  | _ => none
def fAppend (xs : List D) (y : D) : Option (D × List D) := if xs.length < LIM then some (.non, xs ++ [y]) else none
def fPop (xs : List D) (y : D) : Option (D × List D) := match y with
  | .int i => if -(2 ^ 63) ≤ i ∧ i < 2 ^ 63 then match seqIndex? i xs.length with
      | some k => match xs[k]? with
        | some z => some (z, xs.eraseIdx k)
        | none => none
      | none => none
    else none
  | _ => none
def fExtend (xs : List D) (y : D) : Option (D × List D) := match y with
  | .lst ys => if xs.length + ys.length ≤ LIM then some (.non, xs ++ ys) else none
  | _ => none
/-- what a method's rule has to say -/
def MtOk (X : Cx) (r : V → List V → Hp → VK → Prop) (f : List D → D → Option (D × List D)) (keep : Bool) : Prop :=
  ∀ (H : Hp) (S : Addr → Prop) (a : Addr) (xs ys : List D) (y z : D) (v : V) (Q : VK), SOk H S → S a → RepO (cfg X) H S (.lst xs) a → (if keep then Rep (cfg X) H S y v else PRep (cfg X) H S y v) → f xs y = some (z, ys) →
    (∀ w H', (∀ b u, H b = some u → b ≠ a → H' b = some u) → RepO (cfg X) H' S (.lst ys) a → Rep (cfg X) H' S z w → Q w H') → r (.ref a) [v] H Q
theorem mtok_append {X : Cx} : MtOk X rAppend fAppend true := by
  intro H S a xs ys y z v Q ok sa ro ry e q
  unfold fAppend at e
  split at e
  · rename_i hz
    cases e
    obtain ⟨vs, h1, h2⟩ := ro
    have c := carry_upd ok sa (.lst (vs ++ [v]))
    exact ⟨a, vs, v, rfl, rfl, h1, by rw [← h2.length, ← lim_line]; exact hz, q _ _ (keep_upd _) ⟨_, upd_same, (h2.carry c).append (.cons (Rep.carry c _ _ (show Rep (cfg X) H S y v from ry)) .nil)⟩ .mkNon⟩
  · cases e
theorem mtok_pop {X : Cx} : MtOk X rPopAt fPop false := by
  intro H S a xs ys y z v Q ok sa ro ry e q
  unfold fPop at e
  split at e
  · rename_i i
    split at e
    · rename_i hz
      split at e
      · rename_i k hk
        split at e
        · rename_i z' hz'
          cases e
          obtain ⟨vs, h1, h2⟩ := ro
          have ry : PRep (cfg X) H S (.int i) v := ry
          have ev : v = .int i := ry.int
          subst ev
          obtain ⟨w, hw, rw'⟩ := h2.get hz'
          have c := carry_upd ok sa (.lst (vs.eraseIdx k))
          rw [h2.length] at hk
          exact ⟨a, vs, i, k, w, rfl, rfl, h1, hz.1, hz.2, hk, hw, q _ _ (keep_upd _) ⟨_, upd_same, (h2.carry c).eraseIdx k⟩ (rw'.carry c)⟩
        · cases e
      · cases e
    · cases e
  · cases e
theorem mtok_extend {X : Cx} : MtOk X rExtend fExtend false := by
  intro H S a xs ys y z v Q ok sa ro ry e q
  unfold fExtend at e
  split at e
  · rename_i us
    split at e
    · rename_i hz
      cases e
      obtain ⟨vs, h1, h2⟩ := ro
      have ry : PRep (cfg X) H S (.lst us) v := ry
      obtain ⟨b, ws, rfl, hb, rb⟩ := ry.lst
      have c := carry_upd ok sa (.lst (vs ++ ws))
      exact ⟨a, b, vs, ws, rfl, rfl, h1, hb, by rw [← h2.length, ← rb.length, ← lim_line]; exact hz, q _ _ (keep_upd _) ⟨_, upd_same, (h2.carry c).append (rb.carry c)⟩ .mkNon⟩
    · cases e
  · cases e
theorem mt_weak {X : Cx} {n : Nat} {ev : EV} {r : V → List V → Hp → VK → Prop} {f : List D → D → Option (D × List D)} {keep : Bool} {σ : St} {H : Hp} {Q : VK} (mo : MtOk X r f keep) (h : tS (cfg X) (evMt n f keep ev) σ H Q) : tBM X.K "list" r (tVar n) (tCons (tS (cfg X) ev) tNil) σ H Q := by
  obtain ⟨G, Fb, A, r0, A', hG, rel, he, q⟩ := h
  unfold evMt at he
  split at he
  · rename_i xs0 e0
    obtain ⟨a0, ea0, _, ro0, _⟩ := rel.getO e0
    split at he
    · rename_i r1 A1 e1
      split at he
      · rename_i y A2 e2
        split at he
        · rename_i xs e3
          split at he
          · rename_i z ys e4
            split at he
            · rename_i A3 e5
              cases he
              refine ⟨.ref a0, ea0, ?_, G, Fb, A, r1, A1, hG, rel, e1, fun v H1 Fb1 p1 h1 f1 => ?_⟩
              · obtain ⟨vs, h1, _⟩ := ro0
                exact .inl ⟨rfl, vs, .inl (.inl h1)⟩
              · have key : ∃ (r2 : RelSt G Fb1 A2 σ H1) (s2 : Step A1 A2 σ H1 H1), if keep then Rep (cfg X) H1 (Busy Fb A2 σ) y v else PRep (cfg X) H1 (Busy Fb A2 σ) y v := by
                  cases keep with
                  | true =>
                    have e2 : mv A1 r1 = some (y, A2) := e2
                    obtain ⟨r2, ry, s2⟩ := h1.mv p1.rel p1.sub f1 e2
                    rw [hG] at ry
                    exact ⟨r2, s2, ry⟩
                  | false =>
                    have e2 : (peek A1 r1).map (fun x => (x, A1)) = some (y, A2) := e2
                    obtain ⟨x, ex, e2⟩ := Option.map_eq_some_iff.mp e2
                    cases e2
                    have := h1.peek p1.rel ex
                    rw [hG] at this
                    exact ⟨p1.rel, .refl _ _ _, this.anti p1.rel.busy (Busy.mono p1.sub)⟩
                obtain ⟨r2, s2, hy⟩ := key
                have p2 := p1.then r2 s2
                obtain ⟨a, ea, oa, ro, nf⟩ := p2.rel.getO e3
                have : a0 = a := by rw [ea0] at ea; cases ea; rfl
                subst this
                rw [hG] at ro
                refine mo H1 (Busy Fb A2 σ) a0 xs ys y z v Q p2.rel.busy (.inr ⟨n, oa⟩) ro hy e4 fun w H' kp ro' rz => ?_
                rw [← hG] at ro' rz
                obtain ⟨r4, s4, bz⟩ := p2.rel.mutate e5 ea kp ro'
                refine q w H' Fb (p2.trans ⟨fun _ s => s, fun _ s => .inl s, r4, s4⟩) ?_ trivial
                have : Busy Fb A' σ = Busy Fb A2 σ := funext fun b => propext (bz b)
                show Rep _ _ _ _ _
                rw [this]
                exact rz
            · cases he
          · cases he
        · cases he
      · cases he
    · cases he
  · cases he
section
variable {X : Cx} {e : Expr} {ev : EV} {n : Nat} {x : Str} {p apos cpos : Pos}
theorem sim_append (ha : SimE X e ev) (hN : X.N[n]? = some x := by rfl) (hv : Vis X.env.scope x := by first | exact Or.inl rfl | exact Or.inr (Or.inl rfl) | exact Or.inr (Or.inr rfl)) (hd : (x == ("__debug__" : Str)) = false := by decide) (hcd : (x == ("__classdict__" : Str)) = false := by decide)
    (hbase : attributeBase (.Name x p) "append" X.env (eval (.Name x p) X.env) = eval (.Name x p) X.env := by rfl)
    (hfew : ((backTo cpos (starEach [e] X.env)).all (fun x => !x.1) && (backToKw cpos (keywordEach [] X.env)).all (fun x => x.1.isSome)
      && decide (([e] : List Expr).length + ([] : List Keyword).length + (if ([] : List Keyword).isEmpty then 0 else 1) < 30)) = true := by rfl)
    (hline : (apos.endLine == cpos.line) = true := by rfl) (hs : starEach [e] X.env = (false, eval e X.env) :: starEach [] X.env := by rfl) :
    SimE X (.Call (.Attribute (.Name x p) "append" apos) [e] [] cpos) (evMt n fAppend true ev) :=
  (pe_bm F.plainAttrs_list F.slot_list_append F.type_list_append mt_append (pe_var hN hv hd hcd) (pa_cons ha pa_nil hs) hbase hfew hline hs rfl).weak fun _ _ _ h => mt_weak mtok_append h
theorem sim_popAt (ha : SimE X e ev) (hN : X.N[n]? = some x := by rfl) (hv : Vis X.env.scope x := by first | exact Or.inl rfl | exact Or.inr (Or.inl rfl) | exact Or.inr (Or.inr rfl)) (hd : (x == ("__debug__" : Str)) = false := by decide) (hcd : (x == ("__classdict__" : Str)) = false := by decide)
    (hbase : attributeBase (.Name x p) "pop" X.env (eval (.Name x p) X.env) = eval (.Name x p) X.env := by rfl)
    (hfew : ((backTo cpos (starEach [e] X.env)).all (fun x => !x.1) && (backToKw cpos (keywordEach [] X.env)).all (fun x => x.1.isSome)
      && decide (([e] : List Expr).length + ([] : List Keyword).length + (if ([] : List Keyword).isEmpty then 0 else 1) < 30)) = true := by rfl)
    (hline : (apos.endLine == cpos.line) = true := by rfl) (hs : starEach [e] X.env = (false, eval e X.env) :: starEach [] X.env := by rfl) :
    SimE X (.Call (.Attribute (.Name x p) "pop" apos) [e] [] cpos) (evMt n fPop false ev) :=
  (pe_bm F.plainAttrs_list F.slot_list_pop F.type_list_pop mt_popAt (pe_var hN hv hd hcd) (pa_cons ha pa_nil hs) hbase hfew hline hs rfl).weak fun _ _ _ h => mt_weak mtok_pop h
theorem sim_extend (ha : SimE X e ev) (hN : X.N[n]? = some x := by rfl) (hv : Vis X.env.scope x := by first | exact Or.inl rfl | exact Or.inr (Or.inl rfl) | exact Or.inr (Or.inr rfl)) (hd : (x == ("__debug__" : Str)) = false := by decide) (hcd : (x == ("__classdict__" : Str)) = false := by decide)
    (hbase : attributeBase (.Name x p) "extend" X.env (eval (.Name x p) X.env) = eval (.Name x p) X.env := by rfl)
    (hfew : ((backTo cpos (starEach [e] X.env)).all (fun x => !x.1) && (backToKw cpos (keywordEach [] X.env)).all (fun x => x.1.isSome)
      && decide (([e] : List Expr).length + ([] : List Keyword).length + (if ([] : List Keyword).isEmpty then 0 else 1) < 30)) = true := by rfl)
    (hline : (apos.endLine == cpos.line) = true := by rfl) (hs : starEach [e] X.env = (false, eval e X.env) :: starEach [] X.env := by rfl) :
    SimE X (.Call (.Attribute (.Name x p) "extend" apos) [e] [] cpos) (evMt n fExtend false ev) :=
  (pe_bm F.plainAttrs_list F.slot_list_extend F.type_list_extend mt_extend (pe_var hN hv hd hcd) (pa_cons ha pa_nil hs) hbase hfew hline hs rfl).weak fun _ _ _ h => mt_weak mtok_extend h
end
end Z
/-! Z14: dict methods, displays, index, enumerate, zip, stars, augmented names. -/
namespace Z
open PySem PySem.Spec L2
open PyProof.Rows hiding St

/-! ### d.get(k), d.get(k, x) -/
def tGet2 (C : Cfg) (td ty tx : TE) : TE := fun σ H Q => td σ H fun x H1 => (∃ S ks ws, PRep C H1 S (.dct ks ws) x) ∧ ty σ H1 fun y H2 => tx σ H2 fun z H3 => ∃ S d dk o, PRep C H3 S d x ∧ PRep C H3 S dk y ∧ dgetD d dk = some o ∧ (∀ w v, o = some w → Rep C H3 S w v → Q v H3) ∧ (o = none → Q z H3)
def tGet1 (C : Cfg) (td ty : TE) : TE := fun σ H Q => td σ H fun x H1 => (∃ S ks ws, PRep C H1 S (.dct ks ws) x) ∧ ty σ H1 fun y H3 => ∃ S d dk o, PRep C H3 S d x ∧ PRep C H3 S dk y ∧ dgetD d dk = some o ∧ (∀ w v, o = some w → Rep C H3 S w v → Q v H3) ∧ (o = none → Q .non H3)
section
variable {X : Cx} {o e f : Expr} {apos cpos : Pos} {td ty tx : TE}
theorem dget_dct {d x : D} {o : Option D} (h : dgetD d x = some o) : ∃ ks ws, d = .dct ks ws := by
  obtain ⟨ks, ws, e, _⟩ := dget_split h
  exact ⟨ks, ws, e⟩
theorem pe_get2 (hu : X.A.units + 64 < cLine) (ho : PE X o td) (he : PE X e ty) (hf : PE X f tx) (m : M2 X o "get" apos e f cpos) : PE X (.Call (.Attribute o "get" apos) [e, f] [] cpos) (tGet2 (cfg X) td ty tx) := by
  refine ⟨fun pins s σ H Q I h => ?_⟩
  refine wpAny_Call_method m.base m.few m.line PySem.F.plainAttrs_dict PySem.F.slot_dict_get PySem.F.type_dict_get (thn (ho.run pins s σ H _ I h) fun u s1 ⟨x, H1, I1, rx, ⟨S, ks, ws, d⟩, q1⟩ => ?_)
  obtain ⟨a, rfl⟩ := d.dctRef
  obtain rfl : u = Value.ref a := rx
  obtain ⟨t1, t2⟩ := dct_typeIs I1 d
  refine ⟨t1, t2, ?_⟩
  rw [m.trees]
  refine Calls.callWith_builtin rfl (Calls.evalArgs_plain (Calls.spliced_cons (thn (he.run pins s1 σ H1 _ I1 q1) fun iv s2 ⟨y, H2, I2, ry, q2⟩ =>
    Calls.spliced_cons (thn (hf.run pins s2 σ H2 _ I2 q2) fun fv s3 ⟨z, H3, I3, rz, S', dd, dk, ov, pd, pk, g, q3, q4⟩ => Calls.spliced_nil ?_))))
  exact dat_get2 hu I3 pd pk ry g (fun w v w' s' ew rw' I' rv => ⟨v, H3, I', rv, q3 w v ew rw'⟩) fun s' en I' => ⟨z, H3, I', rz, q4 en⟩
theorem pe_get1 (hu : X.A.units + 64 < cLine) (ho : PE X o td) (he : PE X e ty) (m : M1 X o "get" apos e cpos) : PE X (.Call (.Attribute o "get" apos) [e] [] cpos) (tGet1 (cfg X) td ty) := by
  refine ⟨fun pins s σ H Q I h => ?_⟩
  refine wpAny_Call_method m.base m.few m.line PySem.F.plainAttrs_dict PySem.F.slot_dict_get PySem.F.type_dict_get (thn (ho.run pins s σ H _ I h) fun u s1 ⟨x, H1, I1, rx, ⟨S, ks, ws, d⟩, q1⟩ => ?_)
  obtain ⟨a, rfl⟩ := d.dctRef
  obtain rfl : u = Value.ref a := rx
  obtain ⟨t1, t2⟩ := dct_typeIs I1 d
  refine ⟨t1, t2, ?_⟩
  rw [m.trees]
  refine Calls.callWith_builtin rfl (Calls.evalArgs_plain (Calls.spliced_cons (thn (he.run pins s1 σ H1 _ I1 q1) fun iv s2 ⟨y, H2, I2, ry, S', dd, dk, ov, pd, pk, g, q3, q4⟩ => Calls.spliced_nil ?_)))
  exact dat_get1 hu I2 pd pk ry g (fun w v w' s' ew rw' I' rv => ⟨v, H2, I', rv, q3 w v ew rw'⟩) fun s' en I' => ⟨.non, H2, I', rfl, q4 en⟩
end
def evGet2 (ea ek ex : EV) : EV := fun A => match ea A with
  | some (r1, A1) => match peek A1 r1 with
    | some (.dct _ _) => match ek A1 with
      | some (r2, A2) => match ex A2 with
        | some (r3, A3) => match peek A3 r1, peek A3 r2 with
          | some d, some k => match dgetD d k with
            | some (some w) => some (.d w, A3)
            | some none => some (r3, A3)
            | none => none
          | _, _ => none
        | none => none
      | none => none
    | _ => none
  | none => none
def evGet1 (ea ek : EV) : EV := fun A => match ea A with
  | some (r1, A1) => match peek A1 r1 with
    | some (.dct _ _) => match ek A1 with
      | some (r2, A3) => match peek A3 r1, peek A3 r2 with
          | some d, some k => match dgetD d k with
            | some (some w) => some (.d w, A3)
            | some none => some (.d .non, A3)
            | none => none
          | _, _ => none
      | none => none
    | _ => none
  | none => none
section
variable {X : Cx} {o e f : Expr} {apos cpos : Pos} {ea ek ex : EV}
theorem sim_get2 (hu : X.A.units + 64 < cLine) (ho : SimE X o ea) (he : SimE X e ek) (hf : SimE X f ex) (m : M2 X o "get" apos e f cpos := by exact ⟨rfl, rfl, rfl, rfl⟩) : SimE X (.Call (.Attribute o "get" apos) [e, f] [] cpos) (evGet2 ea ek ex) := (pe_get2 hu ho he hf m).weak fun σ H Q h => by
  obtain ⟨G, Fb, A, r, A', hG, rel, he, q⟩ := h
  unfold evGet2 at he
  split at he
  · rename_i r1 A1 e1
    split at he
    · rename_i ks0 ws0 e0
      split at he
      · rename_i r2 A2 e2
        split at he
        · rename_i r3 A3 e3
          split at he
          · rename_i d k ed ek'
            refine ⟨G, Fb, A, r1, A1, hG, rel, e1, fun v1 H1 Fb1 p1 h1 f1 => ⟨?_, G, Fb1, A1, r2, A2, hG, p1.rel, e2, fun v2 H2 Fb2 p2 h2 f2 => ⟨G, Fb2, A2, r3, A3, hG, p2.rel, e3, fun v3 H3 Fb3 p3 h3 f3 => ?_⟩⟩⟩
            · have := h1.peek p1.rel e0
              rw [hG] at this
              exact ⟨_, _, _, this⟩
            · have P := (p1.trans p2).trans p3
              have pd := ((h1.carry p1.rel p2).carry p2.rel p3).peek p3.rel ed
              have pk := (h2.carry p2.rel p3).peek p3.rel ek'
              rw [hG] at pd pk
              split at he
              · rename_i w ew
                cases he
                refine ⟨_, d, k, _, pd, pk, ew, fun w' v e' rv => ?_, fun z => nomatch z⟩
                cases e'
                rw [← (show G.toCfg = cfg X from hG)] at rv
                exact q v H3 Fb (P.then P.rel (.refl _ _ _)) (Rep.anti P.rel.busy (Busy.mono P.sub) rv) trivial
              · rename_i ew
                cases he
                refine ⟨_, d, k, _, pd, pk, ew, (fun w v z => nomatch z), fun _ => q v3 H3 Fb3 P h3 (f3.anti fun a s => p2.sub a (p1.sub a s))⟩
              · cases he
          · cases he
        · cases he
      · cases he
    · cases he
  · cases he
theorem sim_get1 (hu : X.A.units + 64 < cLine) (ho : SimE X o ea) (he : SimE X e ek) (m : M1 X o "get" apos e cpos := by exact ⟨rfl, rfl, rfl, rfl⟩) : SimE X (.Call (.Attribute o "get" apos) [e] [] cpos) (evGet1 ea ek) := (pe_get1 hu ho he m).weak fun σ H Q h => by
  obtain ⟨G, Fb, A, r, A', hG, rel, he, q⟩ := h
  unfold evGet1 at he
  split at he
  · rename_i r1 A1 e1
    split at he
    · rename_i ks0 ws0 e0
      split at he
      · rename_i r2 A2 e2
        split at he
        · rename_i d k ed ek'
          refine ⟨G, Fb, A, r1, A1, hG, rel, e1, fun v1 H1 Fb1 p1 h1 f1 => ⟨?_, G, Fb1, A1, r2, A2, hG, p1.rel, e2, fun v2 H2 Fb2 p2 h2 f2 => ?_⟩⟩
          · have := h1.peek p1.rel e0
            rw [hG] at this
            exact ⟨_, _, _, this⟩
          · have P := p1.trans p2
            have pd := (h1.carry p1.rel p2).peek p2.rel ed
            have pk := h2.peek p2.rel ek'
            rw [hG] at pd pk
            split at he
            · rename_i w ew
              cases he
              refine ⟨_, d, k, _, pd, pk, ew, fun w' v e' rv => ?_, fun z => nomatch z⟩
              cases e'
              rw [← (show G.toCfg = cfg X from hG)] at rv
              exact q v H2 Fb (P.then P.rel (.refl _ _ _)) (Rep.anti P.rel.busy (Busy.mono P.sub) rv) trivial
            · rename_i ew
              cases he
              refine ⟨_, d, k, _, pd, pk, ew, (fun w v z => nomatch z), fun _ => q .non H2 Fb (P.then P.rel (.refl _ _ _)) (by show Rep _ _ _ _ _; rw [Rep]) trivial⟩
            · cases he
        · cases he
      · cases he
    · cases he
  · cases he
end

/-! ### {}, {k: v} -/
def evD0 : EV := fun A => some (.fr (.dct [] []), A)
def evD1 (ek ev : EV) : EV := fun A => match ek A with
  | some (rk, A1) => match peek A1 rk with
    | some dk => match dkey dk with
      | some _ => match ev A1 with
        | some (r, A2) => match mv A2 r with
          | some (y, A3) => some (.fr (.dct [dk] [y]), A3)
          | none => none
        | none => none
      | none => none
    | none => none
  | none => none
section
variable {X : Cx} {k v : Expr} {pos : Pos} {ek ev : EV}
theorem sim_d0 : SimE X (.Dict [] [] pos) evD0 := pe_dnewK.weak fun σ H Q h => by
  obtain ⟨G, Fb, A, r, A', hG, rel, he, q⟩ := h
  cases he
  intro p n
  have pf := Post.extF (H' := upd H p (.dK [])) rel (Ext.new n) n upd_same trivial
  refine q _ _ (Also Fb p) pf ⟨p, rfl, .inr rfl, List.nodup_nil, .inl ⟨[], upd_same, rfl, Reps.nil⟩⟩ fun a ea => ?_
  cases ea
  refine ⟨fun s => ?_, rel.entNone n⟩
  obtain ⟨o, e, _⟩ := rel.fb p s
  rw [n] at e; cases e
theorem sim_d1 (hk : SimE X k ek) (hv : SimE X v ev) : SimE X (.Dict [some k] [v] pos) (evD1 ek ev) := (pe_disp (pps_cons hk hv pps_nil) rfl rfl (by simp) (by simp)).weak fun σ H Q h => by
  obtain ⟨G, Fb, A, r, A', hG, rel, he, q⟩ := h
  unfold evD1 at he
  split at he
  · rename_i rk A1 e1
    split at he
    · rename_i dk edk
      split at he
      · rename_i kk ekk
        split at he
        · rename_i rv A2 e2
          split at he
          · rename_i y A3 e3
            cases he
            intro p n
            have rel0 := rel.laidF (.dK []) n trivial
            have h0 := rel.entNone n
            refine ⟨G, Also Fb p, A, rk, A1, hG, rel0, e1, fun v1 H1 Fb1 p1 h1 f1 => ⟨G, Fb1, A1, rv, A2, hG, p1.rel, e2, fun v2 H2 Fb2 p2 h2 f2 => ?_⟩⟩
            have P := p1.trans p2
            obtain ⟨r3, ry, s3⟩ := h2.mv p2.rel P.sub (f2.anti p1.sub) e3
            have p3 := P.then r3 s3
            have hp : H2 p = some (.dK []) := p3.step.keep p _ upd_same fun i o => by
              obtain ⟨_, _, _, nn⟩ := rel0.ownO o
              exact nn (.inr rfl)
            have evk := dkey_rep ekk (h1.peek p1.rel edk)
            refine ⟨hp, [(kk, v2)], by rw [evk]; rfl, by simp, ?_⟩
            have em : mergeK [] [(kk, v2)] = [(kk, v2)] := rfl
            rw [em]
            have r4 := p3.rel.updF (o := .dK [(kk, v2)]) (.inr rfl) h0 trivial
            have cU := carry_updF (o := HO.dK [(kk, v2)]) p3.rel (D := p) (.inr rfl)
            have nF : ∀ a, Fb a → a ≠ p := fun a s z => by
              subst z
              obtain ⟨o, e, _⟩ := rel.fb a s
              rw [n] at e; cases e
            have nI : ∀ i, ¬ OwnAt A σ i p := fun i o => by
              obtain ⟨_, _, _, nn⟩ := rel0.ownO o
              exact nn (.inr rfl)
            have fin : Post G Fb (Also Fb p) A A' σ H (upd H2 p (.dK [(kk, v2)])) := by
              refine ⟨fun _ s => .inl s, fun a s => s.imp id fun z => by rw [z]; exact n, r4, ⟨fun a o ea na => ?_, p3.step.mono, fun a ea => ?_⟩⟩
              · have : a ≠ p := fun z => by rw [z, n] at ea; cases ea
                rw [upd_ne this]
                exact p3.step.keep a o (by rw [upd_ne this]; exact ea) na
              · by_cases z : a = p
                · subst z; exact absurd n ea
                · rw [upd_ne z]
                  exact p3.step.dom a (by rw [upd_ne z]; exact ea)
            refine q _ _ (Also Fb p) fin ⟨p, rfl, .inr rfl, by simp, .inl ⟨[(kk, v2)], upd_same, ?_, ?_⟩⟩ fun a ea => ?_
            · rw [dkey_eq ekk]; rfl
            · exact Reps.cons (Rep.carry cU _ _ ry) Reps.nil
            · cases ea
              refine ⟨fun s => nF p s rfl, h0⟩
          · cases he
        · cases he
      · cases he
    · cases he
  · cases he
end

/-! ### list(d.values()) -/
def gVals : D → Option R
  | .dct ks ws => if flatKs ks ∧ ks.length = ws.length then some (.fr (.lst ws)) else none
  | _ => none
section
variable {X : Cx} {o : Expr} {ea : EV} {p pos apos cpos : Pos} {to : TE}
theorem pe_listVals (hc : X.calm = true) (hg : Gl X "list") (hm : X.mg "list" = none) (ho : PE X o to) (hbase : attributeBase o "values" X.env (eval o X.env) = eval o X.env := by rfl) (hline : (apos.endLine == cpos.line) = true := by rfl)
    (na : starEach [.Call (.Attribute o "values" apos) [] [] cpos] X.env = (false, eval (.Call (.Attribute o "values" apos) [] [] cpos) X.env) :: starEach [] X.env := by rfl) :
    PE X (.Call (.Name "list" p) [.Call (.Attribute o "values" apos) [] [] cpos] [] pos) (fun σ H Q => to σ H fun x H1 => rG1 (cfg X) gVals x H1 Q) := by
  refine ⟨fun pins s σ H Q I h => ?_⟩
  refine Call_ (ld_blt I hg hm boot_list (PyProof.Rows.callWith_type1 (PyProof.Rows.args_cons ?_ na) na))
  refine wpAny_Call_method (T := "dict") (id := "dict.values") hbase rfl hline F.plainAttrs_dict F.slot_dict_values F.type_dict_values (thn (ho.run pins s σ H _ I h) fun u s1 ⟨x, H1, I1, rx, S, dx, r, ok, px, e, k⟩ => ?_)
  unfold gVals at e
  split at e
  · rename_i ks ws
    split at e
    · rename_i hz
      cases e
      obtain ⟨a, rfl⟩ := px.dctRef
      obtain rfl : u = Value.ref a := rx
      obtain ⟨W0⟩ := dct_flat I1 px hz.1
      obtain ⟨t1, t2⟩ := dct_typeIs I1 px
      refine ⟨t1, t2, ?_⟩
      have I2 : Inv X pins σ H1 { s1 with heap := s1.heap.push { cls := .type "dict_values", data := .fields #[.ref a] } } := I1.kept (t' := s1.toks) fun b ob q => Heap.get?_push_of_some _ q
      refine method_meetsIn F.slot_dict_values F.entry_dict_values rfl (PySem.evalArgs_none ⟨rfl, t1, F.args_dict_values_1 _, _, meets_dict_values (mixKind X.prog X.w) a W0.sys, ⟨W0.vs, W0.dct⟩, PyProof.Rows.args_nil ?_⟩)
      obtain ⟨ep, hat⟩ := W0.dct.dictAt
      have hl : W0.kvs.length = W0.vs.length := W0.kv.length
      refine PySem.W.kdl_call (PySem.W.kdl_values (r := s1.heap.objs.size) (knd := mixKind X.prog X.w) (kvs := W0.vs) (ep := ep)) (I2.ok.hd hc) ⟨⟨_, Heap.get?_push_size _ rfl, rfl, rfl⟩, hat.push _⟩ (by rw [← hl]; exact W0.size) fun h' tk acc' c' hkeep hS hacc => ?_
      have el : acc'.toList.length = acc'.size := by simp
      have rv : Vals (W0.kvs.map (·.2)) acc'.toList := by
        refine vals_of_at (by rw [List.length_map, el, hacc.1, hl]) fun j x w h1 h2 => ?_
        obtain ⟨ky, hky⟩ := hacc.2 j w (by rw [← Array.getElem?_toList]; exact h2)
        rw [List.getElem?_map] at h1
        cases hq : W0.kvs[j]? with
        | none => rw [hq] at h1; cases h1
        | some p =>
          rw [hq] at h1
          cases h1
          obtain ⟨u, hu, ru⟩ := kv_get (kvs := W0.kvs) (vs := W0.vs) W0.kv (i := j) (k := p.1) (v := p.2) (by rw [hq])
          rw [hky] at hu
          cases hu
          exact ru
      refine ⟨V.ref _, upd H1 _ (.lst (W0.kvs.map (·.2))), I2.laid hkeep (Nat.le_refl _) (show ObjOk X.prog X.w _ _ _ (.lst (W0.kvs.map (·.2))) from ⟨by rw [List.length_map]; exact W0.size, acc'.toList, c', rv, ?_⟩), rfl, ?_⟩
      · rw [Array.toArray_toList]; exact hS
      · exact resLst ok k W0.reps _ (I2.hok.fresh (Nat.le_refl _))
    · cases e
  · cases e
theorem sim_listVals (hc : X.calm = true) (hg : Gl X "list") (hm : X.mg "list" = none) (ha : SimE X o ea) (hbase : attributeBase o "values" X.env (eval o X.env) = eval o X.env := by rfl) (hline : (apos.endLine == cpos.line) = true := by rfl)
    (na : starEach [.Call (.Attribute o "values" apos) [] [] cpos] X.env = (false, eval (.Call (.Attribute o "values" apos) [] [] cpos) X.env) :: starEach [] X.env := by rfl) :
    SimE X (.Call (.Name "list" p) [.Call (.Attribute o "values" apos) [] [] cpos] [] pos) (ev1 gVals ea) := (pe_listVals hc hg hm ha hbase hline na).weak fun _ _ _ h => weak1 h
end

/-! ### xs.index(y) -/
def idxD (xs : List D) (y : D) : Option Nat := xs.findIdx? fun x => decide (x = y)
def gIndex : D → D → Option R
  | .lst xs, y => if xs.all (okE 50) && okE 60 y then (idxD xs y).map fun j => .d (.int (j : Nat)) else none
  | _, _ => none
def evM2 (g : D → D → Option R) (ea eb : EV) : EV := fun A => match ea A with
  | some (r1, A1) => match peek A1 r1 with
    | some (.lst _) => match eb A1 with
      | some (r2, A2) => match peek A2 r1, peek A2 r2 with
        | some x, some y => match g x y with
          | some (.d z) => some (.d z, A2)
          | some (.fr z) => some (.fr z, A2)
          | _ => none
        | _, _ => none
      | none => none
    | _ => none
  | none => none
def rM2 (C : Cfg) (g : D → D → Option R) : V → List V → Hp → VK → Prop := fun x vs H Q => ∃ y, vs = [y] ∧ rG2 C g x y H Q
section
variable {X : Cx} {o e : Expr} {ea eb : EV} {apos cpos : Pos} {g : D → D → Option R}
theorem m2_weak {σ : St} {H : Hp} {Q : VK} (h : tS (cfg X) (evM2 g ea eb) σ H Q) : tBM X.K "list" (rM2 (cfg X) g) (tS (cfg X) ea) (tCons (tS (cfg X) eb) tNil) σ H Q := by
  obtain ⟨G, Fb, A, r, A', hG, rel, he, q⟩ := h
  unfold evM2 at he
  split at he
  · rename_i r1 A1 e1
    split at he
    · rename_i xs0 e0
      split at he
      · rename_i r2 A2 e2
        split at he
        · rename_i x y hx hy
          refine ⟨G, Fb, A, r1, A1, hG, rel, e1, fun v H1 Fb1 p1 h1 f1 => ⟨?_, G, Fb1, A1, r2, A2, hG, p1.rel, e2, fun u H2 Fb2 p2 h2 f2 => ⟨u, rfl, ?_⟩⟩⟩
          · obtain ⟨a, vs, rfl, hl, _⟩ := (h1.peek p1.rel e0).lst
            exact .inl ⟨rfl, vs, hl.sql⟩
          · have P := p1.trans p2
            have k1 := (h1.carry p1.rel p2).peek p2.rel hx
            have k2 := h2.peek p2.rel hy
            rw [hG] at k1 k2
            split at he
            · rename_i z hz
              cases he
              have := resK_of (r := .d z) P (fun i e => nomatch e) q
              rw [hG] at this
              exact ⟨_, x, y, _, p2.rel.busy, k1, k2, hz, this⟩
            · rename_i z hz
              cases he
              have := resK_of (r := .fr z) P (fun i e => nomatch e) q
              rw [hG] at this
              exact ⟨_, x, y, _, p2.rel.busy, k1, k2, hz, this⟩
            · cases he
        · cases he
      · cases he
    · cases he
  · cases he
theorem toPs_get : ∀ (xs : List D) (j : Nat), (toPs xs)[j]? = (xs[j]?).map toP
  | [], j => by simp [toPs]
  | x :: xs, 0 => by simp [toPs]
  | x :: xs, j + 1 => by simp [toPs, toPs_get xs j]
theorem mtg_index (hu : X.A.units + 65 < cLine) : MtR X "list.index" (rM2 (cfg X) gIndex) := by
  intro pins s σ H x vs v us Q I rx rv h
  obtain ⟨y, rfl, S, dx, dy, r, ok, px, py, e, k⟩ := h
  unfold gIndex at e
  split at e
  · rename_i xs
    split at e
    · rename_i hz
      rw [Bool.and_eq_true] at hz
      obtain ⟨j, hj, rfl⟩ := Option.map_eq_some_iff.mp e
      obtain ⟨a, ws, rfl, hl, hr⟩ := px.lst
      have ol : okE 51 (.lst xs) = true := by simp only [okE]; exact hz.1
      have dl : Dp X.K H (.ref a) (.list (toPs xs)) := by
        have := dpP_of (C := cfg X) ol (show PRep (cfg X) H S (.lst xs) (.ref a) from ⟨a, ws, rfl, hl, hr⟩)
        simpa only [toP] using this
      unfold idxD at hj
      rw [List.findIdx?_eq_some_iff_getElem] at hj
      obtain ⟨hlt, h1, h2⟩ := hj
      have okAt : ∀ (m : Nat) (h : m < xs.length), okE 50 xs[m] = true := fun m h => List.all_eq_true.mp hz.1 _ (List.getElem_mem h)
      refine mt_indexD hu pins s σ H _ _ _ _ Q I rx rv ⟨a, y, toP dy, toPs xs, j, toP xs[j], rfl, rfl, dl, dpP_of hz.2 py, by have := okE_shaped ol (by decide); simpa only [toP] using this, okE_shaped hz.2 (by decide), ?_, ?_, fun m z' hm hz' => ?_, resD k .mkInt⟩
      · rw [toPs_get, List.getElem?_eq_getElem hlt]; rfl
      · rw [eqv_toP 50 60 _ _ (okAt j hlt) hz.2, beq_dec]
        exact h1
      · rw [toPs_get, List.getElem?_eq_getElem (Nat.lt_trans hm hlt)] at hz'
        cases hz'
        rw [eqv_toP 50 60 _ _ (okAt m (Nat.lt_trans hm hlt)) hz.2, beq_dec]
        have := h2 m hm
        simpa using this
    · cases e
  · cases e
theorem sim_index (hu : X.A.units + 65 < cLine) (ha : SimE X o ea) (hb : SimE X e eb) (hbase : attributeBase o "index" X.env (eval o X.env) = eval o X.env := by rfl)
    (hfew : ((backTo cpos (starEach [e] X.env)).all (fun x => !x.1) && (backToKw cpos (keywordEach [] X.env)).all (fun x => x.1.isSome)
      && decide (([e] : List Expr).length + ([] : List Keyword).length + (if ([] : List Keyword).isEmpty then 0 else 1) < 30)) = true := by rfl)
    (hline : (apos.endLine == cpos.line) = true := by rfl) (hs : starEach [e] X.env = (false, eval e X.env) :: starEach [] X.env := by rfl) :
    SimE X (.Call (.Attribute o "index" apos) [e] [] cpos) (evM2 gIndex ea eb) :=
  (pe_bm F.plainAttrs_list F.slot_list_index F.type_list_index (mtg_index hu) ha (pa_cons hb pa_nil hs) hbase hfew hline hs rfl).weak fun _ _ _ h => m2_weak h
end

/-! ### enumerate, zip -/
def enumL : Nat → List D → List D
  | _, [] => []
  | n, x :: xs => .tup [.int (n : Nat), x] :: enumL (n + 1) xs
def zipL : List D → List D → List D
  | x :: xs, y :: ys => .tup [x, y] :: zipL xs ys
  | _, _ => []
theorem enumL_get : ∀ (xs : List D) (n i : Nat), (enumL n xs)[i]? = (xs[i]?).map fun x => D.tup [.int ((n + i : Nat) : Int), x]
  | [], n, i => by simp [enumL]
  | x :: xs, n, 0 => by simp [enumL]
  | x :: xs, n, i + 1 => by
    rw [enumL, List.getElem?_cons_succ, List.getElem?_cons_succ, enumL_get xs (n + 1) i]
    have : n + 1 + i = n + (i + 1) := by omega
    rw [this]
theorem enumL_len : ∀ (xs : List D) (n : Nat), (enumL n xs).length = xs.length
  | [], n => rfl
  | x :: xs, n => by rw [enumL, List.length_cons, List.length_cons, enumL_len]
theorem zipL_get : ∀ (xs ys : List D) (i : Nat) (z : D), (zipL xs ys)[i]? = some z → ∃ x y, xs[i]? = some x ∧ ys[i]? = some y ∧ z = .tup [x, y]
  | [], ys, i, z, h => by simp [zipL] at h
  | x :: xs, [], i, z, h => by simp [zipL] at h
  | x :: xs, y :: ys, 0, z, h => by simp [zipL] at h; exact ⟨x, y, rfl, rfl, h.symm⟩
  | x :: xs, y :: ys, i + 1, z, h => by
    rw [zipL, List.getElem?_cons_succ] at h
    obtain ⟨a, b, h1, h2, h3⟩ := zipL_get xs ys i z h
    exact ⟨a, b, by simpa using h1, by simpa using h2, h3⟩
theorem zipL_len : ∀ (xs ys : List D), (zipL xs ys).length = min xs.length ys.length
  | [], ys => by simp [zipL]
  | x :: xs, [] => by simp [zipL]
  | x :: xs, y :: ys => by rw [zipL, List.length_cons, zipL_len, List.length_cons, List.length_cons]; omega
def ivEnum (ev : EV) : IV := fun A => match ev A with
  | some (r, A1) => match mv A1 r with
    | some (.lst xs, A2) => some (enumL 0 xs, A2)
    | _ => none
  | none => none
def ivZip (ea eb : EV) : IV := fun A => match ea A with
  | some (r1, A1) => match eb A1 with
    | some (r2, A2) => match mvs A2 [r1, r2] with
      | some ([.lst xs, .lst ys], A3) => some (zipL xs ys, A3)
      | some ([.tup xs, .tup ys], A3) => some (zipL xs ys, A3)
      | _ => none
    | none => none
  | none => none
theorem itOk_enum {C : Cfg} {a : Addr} {xs : List D} : ItOk C (Ite C.K a) (enumL 0 xs) (fun H S => ∃ vs, ¬ S a ∧ HL H a vs ∧ Reps C H S xs vs) where
  carry := fun c ⟨vs, n, h, r⟩ => ⟨vs, c.ne n h.there, h.carry c n, Reps.carry c _ _ r⟩
  go := fun {i x H S} ok ⟨vs, n, h, r⟩ e => by
    rw [enumL_get] at e
    cases q : xs[i]? with
    | none => rw [q] at e; cases e
    | some d =>
      rw [q] at e
      obtain ⟨v, ev, rv⟩ := r.get q
      refine ⟨⟨vs, v, h.sql, ev⟩, fun u H' hy => ?_⟩
      obtain ⟨T, y, rfl, nT, rfl, hu⟩ := hy
      have := hu vs h.sql
      rw [ev] at this; cases this
      cases e
      refine ⟨Ext.new nT, .mkTup (.of upd_same) (.cons ?_ (.cons (rv.ext ok (Ext.new nT)) .nil))⟩
      have : ((0 + i : Nat) : Int) = (i : Int) := by omega
      rw [this]
      exact .mkInt
  stop := fun ok ⟨vs, n, h, r⟩ l => ⟨vs, h.sql, by rw [enumL_len] at l; rw [← r.length]; exact l⟩
theorem itOk_zip {C : Cfg} {a b : Addr} {xs ys : List D} : ItOk C (Itz C.K a b) (zipL xs ys) (fun H S => ∃ vs us, ¬ S a ∧ ¬ S b ∧ HL H a vs ∧ HL H b us ∧ Reps C H S xs vs ∧ Reps C H S ys us) where
  carry := fun c ⟨vs, us, n, m, h, k, r, t⟩ => ⟨vs, us, c.ne n h.there, c.ne m k.there, h.carry c n, k.carry c m, Reps.carry c _ _ r, Reps.carry c _ _ t⟩
  go := fun {i x H S} ok ⟨vs, us, n, m, h, k, r, t⟩ e => by
    obtain ⟨d1, d2, e1, e2, rfl⟩ := zipL_get _ _ _ _ e
    obtain ⟨v, ev, rv⟩ := r.get e1
    obtain ⟨u, eu, ru⟩ := t.get e2
    refine ⟨⟨vs, us, v, u, h.sql, k.sql, ev, eu⟩, fun w H' hy => ?_⟩
    obtain ⟨T, x, y, rfl, nT, rfl, h1, h2⟩ := hy
    have := h1 vs h.sql
    rw [ev] at this; cases this
    have := h2 us k.sql
    rw [eu] at this; cases this
    exact ⟨Ext.new nT, .mkTup (.of upd_same) (.cons (rv.ext ok (Ext.new nT)) (.cons (ru.ext ok (Ext.new nT)) .nil))⟩
  stop := fun ok ⟨vs, us, n, m, h, k, r, t⟩ l => ⟨vs, us, h.sql, k.sql, by rw [zipL_len, r.length, t.length] at l; omega⟩
theorem itOk_zipT {C : Cfg} {a b : Addr} {xs ys : List D} : ItOk C (RZ.ItzT C.K a b) (zipL xs ys) (fun H S => ∃ vs us, SqT C.K H a vs ∧ SqT C.K H b us ∧ Reps C H S xs vs ∧ Reps C H S ys us) where
  carry := fun c ⟨vs, us, h, k, r, t⟩ => ⟨vs, us, sqT_carry c h, sqT_carry c k, Reps.carry c _ _ r, Reps.carry c _ _ t⟩
  go := fun {i x H S} ok ⟨vs, us, h, k, r, t⟩ e => by
    obtain ⟨d1, d2, e1, e2, rfl⟩ := zipL_get _ _ _ _ e
    obtain ⟨v, ev, rv⟩ := r.get e1
    obtain ⟨u, eu, ru⟩ := t.get e2
    refine ⟨⟨vs, us, v, u, h, k, ev, eu⟩, fun w H' hy => ?_⟩
    obtain ⟨T, x, y, rfl, nT, rfl, h1, h2⟩ := hy
    have := h1 vs h
    rw [ev] at this; cases this
    have := h2 us k
    rw [eu] at this; cases this
    exact ⟨Ext.new nT, .mkTup (.of upd_same) (.cons (rv.ext ok (Ext.new nT)) (.cons (ru.ext ok (Ext.new nT)) .nil))⟩
  stop := fun ok ⟨vs, us, h, k, r, t⟩ l => ⟨vs, us, h, k, by rw [zipL_len, r.length, t.length] at l; omega⟩
section
variable {X : Cx} {e a b : Expr} {ev ea eb : EV} {pos p tpos : Pos} {elts : List Expr} {kk : Nat}
theorem simI_enum (hg : Gl X "enumerate") (hm : X.mg "enumerate" = none) (h : SimE X e ev) (hs : starEach [e] X.env = [(false, eval e X.env)] := by rfl) (hs2 : starEach [e] X.env = (false, eval e X.env) :: starEach [] X.env := by rfl) :
    SimI X (.Tuple elts kk tpos) (.Call (.Name "enumerate" p) [e] [] pos) (ivEnum ev) := (pi_enum hg hm (pa_cons h pa_nil hs2) hs).weak fun σ H Q h => by
  obtain ⟨G, Fb, A, xs, A', hG, rel, he, q⟩ := h
  unfold ivEnum at he
  split at he
  · rename_i r A1 e1
    split at he
    · rename_i ys A2 e2
      cases he
      refine ⟨G, Fb, A, r, A1, hG, rel, e1, fun v H1 Fb1 p1 h1 f1 => ?_⟩
      obtain ⟨r2, rx, st⟩ := h1.mv p1.rel p1.sub f1 e2
      rw [hG] at rx
      rw [Rep] at rx
      obtain ⟨a, vs, rfl, n, hd, rs⟩ := rx
      exact ⟨a, vs, rfl, hd.sql, q _ _ _ (p1.then r2 st) itOk_enum ⟨vs, n, hd, rs⟩⟩
    · cases he
  · cases he
theorem simI_zip (hg : Gl X "zip") (hm : X.mg "zip" = none) (ha : SimE X a ea) (hb : SimE X b eb) (hs : starEach [a, b] X.env = (false, eval a X.env) :: starEach [b] X.env := by rfl) (hs2 : starEach [b] X.env = (false, eval b X.env) :: starEach [] X.env := by rfl) :
    SimI X (.Tuple elts kk tpos) (.Call (.Name "zip" p) [a, b] [] pos) (ivZip ea eb) := (RZ.pi_zipA hg hm (simA_cons ha (simA_cons hb simA_nil hs2) hs) hs (by rw [hs2] <;> rfl)).weak fun σ H Q h => by
  obtain ⟨G, Fb, A, xs, A', hG, rel, he, q⟩ := h
  unfold ivZip at he
  split at he
  · rename_i r1 A1 e1
    split at he
    · rename_i r2 A2 e2
      refine ⟨G, Fb, A, [r1, r2], A2, hG, rel, by simp only [evCons, e1, e2, evNil], fun vs H1 Fb1 p1 h1 f1 => ?_⟩
      split at he
      · rename_i us ys A3 e3
        cases he
        obtain ⟨r3, rx, st⟩ := h1.mv p1.sub p1.rel f1 e3
        rw [hG] at rx
        rw [Reps] at rx
        obtain ⟨v1, s1, rfl, rx1, rx⟩ := rx
        rw [Reps] at rx
        obtain ⟨v2, s2, rfl, rx2, rx⟩ := rx
        rw [Reps] at rx
        subst rx
        rw [Rep] at rx1 rx2
        obtain ⟨a, v1s, rfl, n1, l1, q1⟩ := rx1
        obtain ⟨b, v2s, rfl, n2, l2, q2⟩ := rx2
        exact ⟨a, b, v1s, v2s, rfl, .inl ⟨l1.sql, l2.sql, q _ _ _ (p1.then r3 st) itOk_zip ⟨v1s, v2s, n1, n2, l1, l2, q1, q2⟩⟩⟩
      · rename_i us ys A3 e3
        cases he
        obtain ⟨r3, rx, st⟩ := h1.mv p1.sub p1.rel f1 e3
        rw [hG] at rx
        rw [Reps] at rx
        obtain ⟨v1, s1, rfl, rx1, rx⟩ := rx
        rw [Reps] at rx
        obtain ⟨v2, s2, rfl, rx2, rx⟩ := rx
        rw [Reps] at rx
        subst rx
        rw [Rep] at rx1 rx2
        obtain ⟨a, v1s, rfl, l1, q1⟩ := rx1
        obtain ⟨b, v2s, rfl, l2, q2⟩ := rx2
        exact ⟨a, b, v1s, v2s, rfl, .inr ⟨l1, l2, q _ _ _ (p1.then r3 st) itOk_zipT ⟨v1s, v2s, l1, l2, q1, q2⟩⟩⟩
      · cases he
    · cases he
  · cases he
end

/-! ### stars in displays -/
def evStar (e : EV) (es : EVs) : EVs := fun A => match e A with
  | some (r, A1) => match mv A1 r with
    | some (.tup xs, A2) => match es A2 with
      | some (rs, A3) => some (xs.map R.d ++ rs, A3)
      | none => none
    | some (.lst xs, A2) => match es A2 with
      | some (rs, A3) => some (xs.map R.d ++ rs, A3)
      | none => none
    | _ => none
  | none => none
theorem hvs_ds {G : Gh} {Fb : Addr → Prop} {A : SS} {σ : St} {H : Hp} {rs : List R} {us : List V} (t : HVs G Fb A σ H rs us) : ∀ {xs : List D} {vs : List V}, Reps G.toCfg H (Busy Fb A σ) xs vs → HVs G Fb A σ H (xs.map R.d ++ rs) (vs ++ us)
  | [], vs, h => by rw [Reps] at h; subst h; exact t
  | x :: xs, vs, h => by
    rw [Reps] at h
    obtain ⟨v, s, rfl, h1, h2⟩ := h
    exact ⟨v, s ++ us, rfl, h1, hvs_ds t h2⟩
theorem froks_ds {G : Gh} {Fb : Addr → Prop} {rs : List R} {us : List V} (t : FrOks G Fb rs us) : ∀ {xs : List D} {vs : List V}, xs.length = vs.length → FrOks G Fb (xs.map R.d ++ rs) (vs ++ us)
  | [], [], _ => t
  | x :: xs, v :: vs, h => ⟨v, vs ++ us, rfl, trivial, (froks_ds t (by simpa using h)).anti fun a s => s.elim id fun ⟨⟨_, e⟩, _⟩ => nomatch e⟩
  | [], _ :: _, h => by simp at h
  | _ :: _, [], h => by simp at h
section
variable {X : Cx} {e : Expr} {es : List Expr} {ev : EV} {evs : EVs} {p : Pos}
theorem simA_star (h : SimE X e ev) (hs : SimA X es evs) (st : starEach (.Starred e p :: es) X.env = (true, eval e X.env) :: starEach es X.env := by rfl) : SimA X (.Starred e p :: es) (evStar ev evs) := (StX.pa_star h hs st).weak fun σ H Q h => by
  obtain ⟨G, Fb, A, r, A', hG, rel, he, q⟩ := h
  unfold evStar at he
  split at he
  · rename_i r1 A1 e1
    have main : ∀ {x : D} {xs : List D} {A2 : SS} {rs : List R}, mv A1 r1 = some (x, A2) → (x = .tup xs ∨ x = .lst xs) → evs A2 = some (rs, A') → r = xs.map R.d ++ rs →
        StX.tStar X.K (tS (cfg X) ev) (tSA (cfg X) evs) σ H Q := by
      intro x xs A2 rs e2 hx e3 er
      subst er
      refine ⟨G, Fb, A, r1, A1, hG, rel, e1, fun v H1 Fb1 p1 h1 f1 => ?_⟩
      obtain ⟨r2, rx, st⟩ := h1.mv p1.rel p1.sub f1 e2
      rw [hG] at rx
      have sq : ∃ a vs, v = .ref a ∧ (SqT X.K H1 a vs ∨ SqL X.K H1 a vs) ∧ Reps (cfg X) H1 (Busy Fb A2 σ) xs vs := by
        rcases hx with rfl | rfl
        · rw [Rep] at rx
          obtain ⟨a, vs, rfl, h1, h2⟩ := rx
          exact ⟨a, vs, rfl, .inl h1, h2⟩
        · rw [Rep] at rx
          obtain ⟨a, vs, rfl, _, h1, h2⟩ := rx
          exact ⟨a, vs, rfl, .inr h1.sql, h2⟩
      obtain ⟨a, vs, rfl, sq, rs2⟩ := sq
      refine ⟨a, vs, rfl, sq, ?_⟩
      have p2 := p1.then r2 st
      refine ⟨G, Fb, A2, rs, A', hG, p2.rel, e3, fun us H2 Fb2 p3 h3 f3 => ?_⟩
      rw [← (show G.toCfg = cfg X from hG)] at rs2
      exact q _ H2 Fb2 (p2.trans p3) (hvs_ds h3 (rs2.carry (p3.carry p2.rel))) (froks_ds f3 rs2.length)
    split at he
    · rename_i xs A2 e2
      split at he
      · rename_i rs A3 e3
        cases he
        exact main e2 (.inl rfl) e3 rfl
      · cases he
    · rename_i xs A2 e2
      split at he
      · rename_i rs A3 e3
        cases he
        exact main e2 (.inr rfl) e3 rfl
      · cases he
    · cases he
  · cases he
end

/-! ### name += e, whole numbers -/
def bAug (n : Nat) (f : Int → Int → Int) (ev : EV) : BV := fun A => match A[n]? with
  | some (.val (.int i)) => match ev A with
    | some (r, A1) => match peek A1 r with
      | some (.int j) => match putR n (.d (.int (f i j))) A1 with
        | some A2 => some (.nx, A2)
        | none => none
      | _ => none
    | none => none
  | _ => none
section
variable {X : Cx} {e : Expr} {ev : EV} {n : Nat} {x : Str} {op : Operator} {f : Int → Int → Int} {pos pos' : Pos}
theorem simS_aug (ho : PIp X op (ipI f)) (hN : X.N.Nodup) (he : SimE X e ev) (hi : X.N[n]? = some x := by rfl) (hx : Loc X.env.scope x := by first | exact Or.inl rfl | exact Or.inr rfl) 
    (hf : X.fn x = true ∨ X.env.scope.names.lookup x = some .local := by first | exact .inl rfl | exact .inr rfl | assumption) : SimS X (.AugAssign (.Name x pos') op e pos) (bAug n f ev) := (ps_aug hN hi hx he ho hf).weak fun D σ H h => by
  obtain ⟨G, Fb, A, fl, A', hG, rel, he, q⟩ := h
  unfold bAug at he
  split at he
  · rename_i i hi
    obtain ⟨v, ev', rv⟩ := rel.val n _ hi
    rw [Rep] at rv
    subst rv
    split at he
    · rename_i r A1 e1
      split at he
      · rename_i j hj
        split at he
        · rename_i A2 e2
          cases he
          refine ⟨_, ev', G, Fb, A, r, A1, hG, rel, e1, fun v H1 Fb1 p1 h1 f1 => ?_⟩
          have hv := (h1.peek p1.rel hj).int
          subst hv
          refine ⟨i, j, rfl, rfl, ?_⟩
          have p2 := p1.then p1.rel (.refl _ _ _)
          exact q _ _ (putR_ok (r := .d (.int (f i j))) p2 (by show Rep _ _ _ _ _; rw [Rep]) trivial e2)
        · cases he
      · cases he
    · cases he
  · cases he
end
end Z
/-! Z15: sets of tuples of whole numbers, nested to any depth up to eight: what a set holds after it took some. The table's own laws are the library's (L2.TabOk); here the keys are nested. -/
namespace ZS
open PySem PySem.Spec L2
open PyProof.Rows hiding St

/-! ### keys -/
mutual
/-- whole numbers and tuples of such -/
def numK : NestedKey → Bool
  | .num _ => true
  | .tup ks => numKs ks
  | _ => false
def numKs : List NestedKey → Bool
  | [] => true
  | k :: ks => numK k && numKs ks
end
def IsN (P : Program) (w : World) (h : Heap) (k : NestedKey) (b : Addr) : Prop := (nestedKind P w).is h k b ∧ numK k = true
section
variable {P : Program} {w : World} {A : Around} {E : Value → Shared → Prop} {s : Shared}
theorem IsN.obj {h : Heap} {k : NestedKey} {b : Addr} (x : IsN P w h k b) : ∃ o vs n ks, k = .tup ks ∧ h.get? b = some o ∧ o.cls = .type "tuple" ∧ o.data = .seq vs n ∧ NestedAll h ks vs.toList := by
  obtain ⟨⟨x, _⟩, _⟩ := x
  cases x with
  | tup h1 h2 h3 h4 => exact ⟨_, _, _, _, rfl, h1, h2, h3, h4⟩
theorem IsN.keep {h h' : Heap} {k : NestedKey} {b : Addr} (x : IsN P w h k b) (hk : ∀ c o vs n, h.get? c = some o → o.data = .seq vs n → h'.get? c = some o) : IsN P w h' k b := ⟨nestedKind_stays.stays hk x.1, x.2⟩
mutual
theorem noClass : ∀ (n : Nat) (k : NestedKey) (v : Value) (s : Shared), NestedIs s.heap k v → k.depth ≤ n → ∀ {A : Around} {E : Value → Shared → Prop} {Q : Bool → Shared → Prop}, Q false s → wpAny (model P w) A (ofAClassStatement n v) Q E s
  | n, .none, _, s, x, _, A, E, Q, h => by cases x; cases n <;> exact wpAny_pure h
  | n, .num i, _, s, x, _, A, E, Q, h => by cases x <;> cases n <;> exact wpAny_pure h
  | n, .text y, _, s, x, _, A, E, Q, h => by cases x; cases n <;> exact wpAny_pure h
  | 0, .tup ks, _, s, x, hn, A, E, Q, h => by simp only [NestedKey.depth] at hn; omega
  | n + 1, .tup ks, _, s, x, hn, A, E, Q, h => by
    cases x with
    | @tup a o vs m ks hg hc hd hk =>
      simp only [NestedKey.depth] at hn
      have hT : s.TypeIs (.ref a) "tuple" := ⟨o, hg, hc⟩
      unfold ofAClassStatement
      refine wpAny_bind (wpAny_typeOf hT ?_)
      dsimp only
      have e : (("tuple" : String) == "tuple") = true := by decide
      simp only [e, if_true, Bool.not_true, Bool.false_eq_true, if_false]
      try refine wpAny_bind (wpAny_pure ?_)
      try simp only [Bool.not_true, Bool.false_eq_true, if_false]
      show wpAny _ _ (seqItems? (.ref a) >>= _) _ _ s
      refine wpAny_bind (wpAny_seqItems hg hd ?_)
      dsimp only
      refine wpAny_bind ?_
      show wpAny _ _ (forIn vs _ _) _ _ s
      rw [← Array.forIn_toList]
      have all := noClasses n ks vs.toList s hk (by omega)
      refine wpAny_forIn_list _ (fun rest r s' => r.1 = none ∧ s' = s ∧ ∀ v ∈ rest, v ∈ vs.toList) _ ?_ ?_ _ _ ⟨rfl, rfl, fun v hv => hv⟩
      · rintro v rest r s' ⟨hr, rfl, hall⟩
        refine wpAny_bind (all v (hall v List.mem_cons_self) ?_)
        simp only [Bool.false_eq_true, if_false]
        exact wpAny_pure ⟨rfl, rfl, fun u hu => hall u (List.mem_cons_of_mem _ hu)⟩
      · rintro ⟨r1, r2⟩ s' ⟨hr, rfl, _⟩
        simp only at hr
        subst hr
        exact wpAny_pure h
theorem noClasses : ∀ (n : Nat) (ks : List NestedKey) (vs : List Value) (s : Shared), NestedAll s.heap ks vs → NestedKey.depthAll ks ≤ n → ∀ v ∈ vs, ∀ {A : Around} {E : Value → Shared → Prop} {Q : Bool → Shared → Prop}, Q false s → wpAny (model P w) A (ofAClassStatement n v) Q E s
  | n, [], _, s, x, _, v, hv => by cases x; cases hv
  | n, k :: ks, _, s, x, hn, v, hv => by
    intro h
    cases x with
    | cons x1 x2 =>
      simp only [NestedKey.depthAll] at hn
      rcases List.mem_cons.mp hv with e | hv
      · rw [e]; exact noClass n k _ s x1 (by omega) h
      · exact noClasses n ks _ s x2 (by omega) v hv h
end
mutual
theorem byVal : ∀ (n : Nat) (k : NestedKey) (v : Value) (s : Shared), NestedIs s.heap k v → numK k = true → k.depth ≤ n → ∀ {A : Around} {E : Value → Shared → Prop} {Q : Bool → Shared → Prop}, Q true s → wpAny (model P w) A (hashByValue n v) Q E s
  | n, .none, _, s, x, hq, _, A, E, Q, h => by simp [numK] at hq
  | n, .num i, _, s, x, _, _, A, E, Q, h => by cases x <;> cases n <;> exact wpAny_pure h
  | n, .text y, _, s, x, hq, _, A, E, Q, h => by simp [numK] at hq
  | 0, .tup ks, _, s, x, hq, hn, A, E, Q, h => by simp only [NestedKey.depth] at hn; omega
  | n + 1, .tup ks, _, s, x, hq, hn, A, E, Q, h => by
    cases x with
    | @tup a o vs m ks hg hc hd hk =>
      simp only [NestedKey.depth] at hn
      simp only [numK] at hq
      have hT : s.TypeIs (.ref a) "tuple" := ⟨o, hg, hc⟩
      unfold hashByValue
      refine wpAny_bind (wpAny_specialOf hT F.slot_tuple_hash.lookup ?_)
      show wpAny _ _ (seqItems? (.ref a) >>= _) _ _ s
      refine wpAny_bind (wpAny_seqItems hg hd ?_)
      refine wpAny_bind ?_
      show wpAny _ _ (forIn vs _ _) _ _ s
      rw [← Array.forIn_toList]
      have all := byVals n ks vs.toList s hk hq (by omega)
      refine wpAny_forIn_list _ (fun rest r s' => r.1 = none ∧ s' = s ∧ ∀ v ∈ rest, v ∈ vs.toList) _ ?_ ?_ _ _ ⟨rfl, rfl, fun v hv => hv⟩
      · rintro v rest r s' ⟨hr, rfl, hall⟩
        refine wpAny_bind (all v (hall v List.mem_cons_self) ?_)
        simp only [Bool.not_true, Bool.false_eq_true, if_false]
        exact wpAny_pure ⟨rfl, rfl, fun u hu => hall u (List.mem_cons_of_mem _ hu)⟩
      · rintro ⟨r1, r2⟩ s' ⟨hr, rfl, _⟩
        simp only at hr
        subst hr
        exact wpAny_pure h
theorem byVals : ∀ (n : Nat) (ks : List NestedKey) (vs : List Value) (s : Shared), NestedAll s.heap ks vs → numKs ks = true → NestedKey.depthAll ks ≤ n → ∀ v ∈ vs, ∀ {A : Around} {E : Value → Shared → Prop} {Q : Bool → Shared → Prop}, Q true s → wpAny (model P w) A (hashByValue n v) Q E s
  | n, [], _, s, x, _, _, v, hv => by cases x; cases hv
  | n, k :: ks, _, s, x, hq, hn, v, hv => by
    intro h
    cases x with
    | cons x1 x2 =>
      simp only [NestedKey.depthAll] at hn
      simp only [numKs, Bool.and_eq_true] at hq
      rcases List.mem_cons.mp hv with e | hv
      · rw [e]; exact byVal n k _ s x1 hq.1 (by omega) h
      · exact byVals n ks _ s x2 hq.2 (by omega) v hv h
end
theorem unseen {k : NestedKey} {b : Addr} {Q : Bool → Shared → Prop} (hk : IsN P w s.heap k b) {ys : List Value} (hy : ∀ y ∈ ys, ∃ k' c, y = Value.ref c ∧ IsN P w s.heap k' c) (h : Q false s) : wpAny (model P w) A (searchCouldBeSeen (.ref b) ys) Q E s := by
  unfold searchCouldBeSeen
  refine wpAny_bind ?_
  refine wpAny_forIn_list _ (fun rest r s' => r.1 = none ∧ s' = s ∧ ∀ y ∈ rest, ∃ k' c, y = Value.ref c ∧ IsN P w s.heap k' c) _ ?_ ?_ _ _ ⟨rfl, rfl, hy⟩
  · rintro v rest r s' ⟨hr, rfl, hall⟩
    obtain ⟨k', c, rfl, hc⟩ := hall v List.mem_cons_self
    have rest' : ∀ y ∈ rest, ∃ k' c, y = Value.ref c ∧ IsN P w s'.heap k' c := fun u hu => hall u (List.mem_cons_of_mem _ hu)
    dsimp only
    by_cases hv : (b == c || (carriedByValue (.ref b) && carriedByValue (.ref c))) = true
    · exact wp_if_pos hv (wpAny_pure ⟨rfl, rfl, rest'⟩)
    · refine wp_if_neg hv ?_
      refine wpAny_bind ((nestedKind P w).quiet hk.1 ?_)
      simp only [Bool.not_true, Bool.false_eq_true, if_false]
      refine wpAny_bind ((nestedKind P w).quiet hc.1 ?_)
      simp only [Bool.not_true, Bool.false_eq_true, if_false]
      refine wpAny_bind (noClass 8 k _ s' hk.1.1 hk.1.2 ?_)
      simp only [Bool.false_eq_true, if_false]
      refine wpAny_bind (noClass 8 k' _ s' hc.1.1 hc.1.2 ?_)
      simp only [Bool.false_eq_true, if_false]
      exact wpAny_pure ⟨rfl, rfl, rest'⟩
  · rintro ⟨r1, r2⟩ s' ⟨hr, rfl, _⟩
    simp only at hr
    subst hr
    exact wpAny_pure h
end

/-! ### the set -/
abbrev Mem := List (Addr × NestedKey)
def hOf (w : World) (k : NestedKey) : Int := k.hash w
def rows (w : World) (L : Mem) : List (Int × Value) := L.map fun p => (hOf w p.2, Value.ref p.1)
def hashes (w : World) (L : Mem) : List Int := L.map fun p => hOf w p.2
/-- at a stands a set of these tuples, its table in good order -/
structure SetN (P : Program) (w : World) (h : Heap) (a : Addr) (L : Mem) (es : Array (Int × Value)) (ep : Nat) (t : SetTable) : Prop where
  ob : ∃ o, h.get? a = some o ∧ o.ExactSet ∧ o.data = .set es ep t
  rows : es.toList = rows w L
  tab : TabOk t (hashes w L)
  nd : (L.map (·.2)).Nodup
  keys : ∀ p ∈ L, IsN P w h p.2 p.1
  plain : t.plain = true
  led : w.params.followText "set-order" = true ∨ t.led = true
  room : L.length * 5 < t.mask * 3
  few : L.length < 64
section
variable {P : Program} {w : World} {A : Around} {E : Value → Shared → Prop} {s : Shared} {a : Addr} {L : Mem} {es : Array (Int × Value)} {ep : Nat} {t : SetTable}
theorem rows_len {L : Mem} {es : Array (Int × Value)} (h : es.toList = rows w L) : es.size = L.length := by
  have := congrArg List.length h
  unfold rows at this
  rw [Array.length_toList, List.length_map] at this
  exact this
theorem rows_at {L : Mem} {es : Array (Int × Value)} (h : es.toList = rows w L) {i : Nat} {p : Addr × NestedKey} (hp : L[i]? = some p) : es[i]? = some (hOf w p.2, Value.ref p.1) := by
  rw [← Array.getElem?_toList, h]
  unfold rows
  rw [List.getElem?_map, hp] <;> rfl
theorem SetN.fits (R : SetN P w s.heap a L es ep t) : t.fits es.size = true := by
  have h1 := R.tab.sz
  unfold hashes at h1
  rw [List.length_map] at h1
  have h2 := rows_len R.rows
  have h3 := R.room
  unfold SetTable.fits SetTable.fill
  rw [R.tab.dm, Bool.and_eq_true, beq_iff_eq, decide_eq_true_eq]
  show t.place.size = es.size ∧ t.place.size + 0 ≤ t.mask
  omega
theorem SetN.whole (R : SetN P w s.heap a L es ep t) : ¬ t.gaveWay = true := by
  unfold SetTable.gaveWay
  rw [mask_odd R.tab.mok]
  decide
/-- the c-th station of a hash's way -/
abbrev sta (t : SetTable) (h : Int) (c : Nat) : SetTable.Probe := nth t.mask (runAt t.mask (SetTable.bits h % (t.mask + 1)) (SetTable.bits h)) c
theorem sta_add (t : SetTable) (h : Int) (c q : Nat) : nth t.mask (sta t h c) q = sta t h (c + q) := (nth_add t.mask c _ q).symm
theorem sta_dummy (t : SetTable) (h : Int) (c : Nat) : (sta t h c).dummy = none := by
  have key : ∀ (n : Nat) (p : SetTable.Probe), p.dummy = none → (nth t.mask p n).dummy = none := by
    intro n
    induction n with
    | zero => exact fun p h => h
    | succ n ih =>
      intro p h
      refine ih (adv t.mask p) ?_
      unfold adv
      split <;> exact h
  exact key c _ rfl
/-- the search for a key: there already, or at the first empty place of its way -/
theorem seek (R : SetN P w s.heap a L es ep t) {x : Addr} {k : NestedKey} (hx : IsN P w s.heap k x) (hu : (nestedKind P w).room A) {K : Nat} (hKf : K < 10 * SetTable.turns t.mask)
    (hK : way t.mask (hOf w k) K ∉ t.place.toList) (hKb : ∀ c, c < K → way t.mask (hOf w k) c ∈ t.place.toList) {Q : SetFound → Shared → Prop}
    (yes : k ∈ L.map (·.2) → Q (.there none) s) (no : k ∉ L.map (·.2) → Q (.free (way t.mask (hOf w k) K) false) s) :
    ∀ (f c : Nat) (stand : Option SetTable.Probe), stand.getD (t.probeStart (hOf w k)) = sta t (hOf w k) c → c ≤ K → K - c < f →
      (∀ (i : Nat) p, L[i]? = some p → p.2 = k → ∃ c', c ≤ c' ∧ c' < K ∧ t.place.toList[i]? = some (way t.mask (hOf w k) c')) →
      wpAny (model P w) A (setSearchFrom a (.ref x) (hOf w k) true f stand) Q E s := by
  intro f
  induction f with
  | zero => exact fun c _ _ _ hf => absurd hf (Nat.not_lt_zero _)
  | succ f ih =>
    intro c stand hst hc hf behind
    obtain ⟨o, ho, hex, hd⟩ := R.ob
    rw [setSearchFrom_succ]
    refine wpAny_bind (wpAny_setState_of ho hd R.fits ?_)
    dsimp only
    refine wp_if_neg R.whole ?_
    try refine wpAny_bind (wpAny_pure ?_)
    have wj : ∀ q, (nth t.mask (sta t (hOf w k) c) q).j = way t.mask (hOf w k) (c + q) := fun q => congrArg SetTable.Probe.j (sta_add t _ c q)
    have atHash : ∀ (i : Nat) p, L[i]? = some p → (es[i]?.map (·.1)).getD 0 = hOf w p.2 := fun i p hp => by rw [rows_at R.rows hp] <;> rfl
    rcases go_spec t R.tab.ris R.tab.dm (fun i => (es[i]?.map (·.1)).getD 0) (hOf w k) (10 * SetTable.turns t.mask) (K - c) (sta t (hOf w k) c) (sta_dummy t _ c) (by omega)
        (fun q hq => by rw [wj]; exact hKb (c + q) (by omega)) (by rw [wj, show c + (K - c) = K by omega]; exact hK) with ⟨q, i, hq, hi, hh, pass, pr⟩ | ⟨pass, pr⟩
    · -- one of this hash stands there
      have pr2 : t.probe (fun i => (es[i]?.map (·.1)).getD 0) (hOf w k) (stand.getD (t.probeStart (hOf w k))) = some (.candidate (way t.mask (hOf w k) (c + q)) i (sta t (hOf w k) (c + (q + 1)))) := by
        rw [hst, ← wj, ← sta_add]
        exact pr
      rw [pr2]
      dsimp only
      rw [wj] at hi
      have hil : i < L.length := by
        have h1 := (List.getElem?_eq_some_iff.mp hi).1
        have h2 := R.tab.sz
        unfold hashes at h2
        rw [List.length_map] at h2
        rw [Array.length_toList] at h1
        omega
      obtain ⟨p, hp⟩ : ∃ p, L[i]? = some p := ⟨_, List.getElem?_eq_getElem hil⟩
      have hm : p ∈ L := List.mem_of_getElem? hp
      have rest : wpAny (model P w) A (searchRest a (.ref x) (hOf w k) true f es t (way t.mask (hOf w k) (c + q)) i (sta t (hOf w k) (c + (q + 1)))) Q E s := by
        unfold searchRest
        rw [rows_at R.rows hp]
        dsimp only
        refine wpAny_bind (wpAny_holding ((nestedKind P w).eqBool hu (R.keys p hm).1 hx.1 ?_))
        refine wpAny_bind (wpAny_setState_of ho hd R.fits ?_)
        dsimp only
        by_cases z : p.2 = k
        · refine wp_if_pos (by simp [z]) ?_
          exact wpAny_pure (yes (List.mem_map.mpr ⟨p, hm, z⟩))
        · refine wp_if_neg (by simp [z]) ?_
          try refine wpAny_bind (wpAny_pure ?_)
          rw [sameMem]
          dsimp only
          have sl : t.slot (way t.mask (hOf w k) (c + q)) = .live i := slot_live R.tab.ris hi
          simp only [if_true, sl, rows_at R.rows hp]
          refine wpAny_bind (wpAny_isSame_ref_self (wpAny_bind (wpAny_pure ?_)))
          simp only [if_true]
          refine wp_if_neg (by simp [z]) ?_
          refine ih (c + (q + 1)) _ rfl (by omega) (by omega) fun i0 p0 h0 hk0 => ?_
          obtain ⟨c', g1, g2, g3⟩ := behind i0 p0 h0 hk0
          refine ⟨c', ?_, g2, g3⟩
          by_cases lt : c' < c + q
          · exfalso
            refine pass (c' - c) i0 (by omega) (by rw [wj, show c + (c' - c) = c' by omega]; exact g3) ?_
            exact (atHash i0 p0 h0).trans (by rw [hk0])
          · by_cases eq : c' = c + q
            · exfalso
              rw [eq] at g3
              have s0 := slot_live R.tab.ris g3
              rw [sl] at s0
              injection s0 with s0
              rw [← s0, hp] at h0
              exact z ((congrArg Prod.snd (Option.some.inj h0)).trans hk0)
            · omega
      by_cases hl : t.led = true
      · refine wp_if_neg (by simp [hl]) ?_
        try refine wpAny_bind (wpAny_pure ?_)
        exact rest
      · refine wp_if_pos (by simp [hl]) ?_
        refine wpAny_bind (unseen hx (fun y hy => ?_) ?_)
        · obtain ⟨e, he, ee⟩ := List.mem_map.mp hy
          have he2 : e ∈ es.toList := by
            have : e ∈ es ∧ e.1 = hOf w k := by simpa using he
            simpa using this.1
          rw [R.rows] at he2
          obtain ⟨p2, hp2, e2⟩ := List.mem_map.mp he2
          exact ⟨p2.2, p2.1, by rw [← ee, ← e2], R.keys p2 hp2⟩
        · refine wp_if_neg (by decide) ?_
          try refine wpAny_bind (wpAny_pure ?_)
          exact rest
    · -- an empty place
      have pr2 : t.probe (fun i => (es[i]?.map (·.1)).getD 0) (hOf w k) (stand.getD (t.probeStart (hOf w k))) = some (.empty (way t.mask (hOf w k) K) none) := by
        have e2 : way t.mask (hOf w k) K = (nth t.mask (sta t (hOf w k) c) (K - c)).j := by rw [wj, show c + (K - c) = K by omega]
        rw [hst, e2]
        exact pr
      rw [pr2]
      dsimp only
      refine wpAny_pure (no fun hm => ?_)
      obtain ⟨p0, h0, hk0⟩ := List.mem_map.mp hm
      obtain ⟨i0, h00⟩ := List.mem_iff_getElem?.mp h0
      obtain ⟨c', g1, g2, g3⟩ := behind i0 p0 h00 hk0
      refine pass (c' - c) i0 (by omega) (by rw [wj, show c + (c' - c) = c' by omega]; exact g3) ?_
      exact (atHash i0 p0 h00).trans (by rw [hk0])
theorem seek0 (R : SetN P w s.heap a L es ep t) {x : Addr} {k : NestedKey} (hx : IsN P w s.heap k x) (hu : (nestedKind P w).room A) {Q : SetFound → Shared → Prop} (yes : k ∈ L.map (·.2) → Q (.there none) s)
    (no : ∀ K, k ∉ L.map (·.2) → way t.mask (hOf w k) K ∉ t.place.toList → (∀ c, c < K → way t.mask (hOf w k) c ∈ t.place.toList) → Q (.free (way t.mask (hOf w k) K) false) s) :
    wpAny (model P w) A (setSearch a (.ref x) (hOf w k) true) Q E s := by
  have hroom := R.room
  have hlen : (hashes w L).length = L.length := by unfold hashes; rw [List.length_map]
  obtain ⟨K, hKf, hK, hKb⟩ := R.tab.first (by rw [hlen]; omega) (hOf w k)
  have hbig : K < 100000 := by
    have : 10 * SetTable.turns t.mask ≤ 1420 := by
      unfold SetTable.turns
      rcases R.tab.mok with e | e | e <;> omega
    omega
  unfold setSearch
  refine seek R hx hu hKf hK hKb yes (fun hn => no K hn hK hKb) 100000 0 none rfl (Nat.zero_le _) (by omega) fun i p hp hk => ?_
  have hi : (hashes w L)[i]? = some (hOf w k) := by
    unfold hashes
    rw [List.getElem?_map, hp, ← hk] <;> rfl
  have hil : i < t.place.toList.length := by
    have h1 := (List.getElem?_eq_some_iff.mp hp).1
    have h2 := R.tab.sz
    rw [hlen] at h2
    rw [Array.length_toList]
    omega
  have hj := List.getElem?_eq_getElem hil
  obtain ⟨c, hc, e⟩ := R.tab.before hK hi hj
  exact ⟨c, Nat.zero_le _, hc, by rw [hj, e]⟩
theorem isN_same {h h' : Heap} {k : NestedKey} {a b : Addr} {o : Obj} {es : Array (Int × Value)} {ep : Nat} {t : SetTable} (x : IsN P w h k b) (ho : h.get? a = some o) (hd : o.data = .set es ep t) (hs : Heap.SameBut a h h') : IsN P w h' k b :=
  x.keep fun c oc vs n hc hdc => by
    have hne : c ≠ a := fun z => by
      rw [z, ho] at hc
      cases hc
      rw [hd] at hdc
      cases hdc
    exact (hs.2 c hne).trans hc
/-- rows in another order -/
theorem reorder (L : Mem) (es : Array (Int × Value)) (order : Array Nat) (hr : es.toList = rows w L) (hp : order.toList.Perm (List.range L.length)) :
    ∃ L2 : Mem, (order.filterMap (es[·]?)).toList = rows w L2 ∧ L2.Perm L ∧ hashes w L2 = order.toList.map fun i => (es.map (·.1)).getD i 0 := by
  have hsz := rows_len hr
  have key : ∀ l : List Nat, (∀ i ∈ l, i < L.length) → l.filterMap (fun i => es[i]?) = rows w (l.filterMap fun i => L[i]?) ∧ hashes w (l.filterMap fun i => L[i]?) = l.map fun i => (es.map (·.1)).getD i 0 := by
    intro l
    induction l with
    | nil => intro _; exact ⟨rfl, rfl⟩
    | cons i l ih =>
      intro hl
      have hi := hl i List.mem_cons_self
      obtain ⟨e1, e2⟩ := ih fun j hj => hl j (List.mem_cons_of_mem _ hj)
      have h1 : L[i]? = some L[i] := List.getElem?_eq_getElem hi
      have h2 := rows_at hr h1
      rw [List.filterMap_cons_some h2, List.filterMap_cons_some h1, e1]
      refine ⟨rfl, ?_⟩
      have h3 : (es.map (·.1)).getD i 0 = hOf w (L[i]).2 := by
        have h4 : (es.map (·.1))[i]? = some (hOf w (L[i]).2) := by rw [Array.getElem?_map, h2] <;> rfl
        simp [Array.getD_eq_getD_getElem?, h4]
      rw [List.map_cons, ← e2, h3]
      rfl
  obtain ⟨e1, e2⟩ := key order.toList fun i hi => List.mem_range.mp (hp.mem_iff.mp hi)
  refine ⟨order.toList.filterMap fun i => L[i]?, by first | (rw [Array.toList_filterMap]; exact e1) | simpa using e1, ?_, e2⟩
  have h1 := hp.filterMap (fun i => L[i]?)
  have h2 : (List.range L.length).filterMap (fun i => L[i]?) = L := by
    apply List.ext_getElem?
    intro j
    have : ∀ n, n ≤ L.length → (List.range n).filterMap (fun i => L[i]?) = L.take n := by
      intro n
      induction n with
      | zero => intro _; rfl
      | succ n ih =>
        intro hn
        have hlt : n < L.length := hn
        rw [List.range_succ, List.filterMap_append, ih (Nat.le_of_lt hlt), List.take_succ, List.getElem?_eq_getElem hlt, List.filterMap_cons_some (List.getElem?_eq_getElem hlt)] <;> rfl
    rw [this L.length (Nat.le_refl _), List.take_length]
  rw [h2] at h1
  exact h1
/-- a larger table -/
theorem enlarge {o : Obj} (ho : s.heap.get? a = some o) (hex : o.ExactSet) (hd : o.data = .set es ep t) (hr : es.toList = rows w L) (hsz : t.place.size = es.size) (hdm : t.dummies = #[]) (hfl : es.size ≤ t.mask)
    (nd : (L.map (·.2)).Nodup) (keys : ∀ p ∈ L, IsN P w s.heap p.2 p.1) (pl : t.plain = true) (ld : w.params.followText "set-order" = true ∨ t.led = true) (few : L.length < 64) {wanted M : Nat}
    (hw : SetTable.sizeAbove wanted - 1 = M) (hM : MaskOk M) (hw2 : SetTable.sizeAbove wanted ≤ 128) (hn : L.length * 5 < M * 3) {Q : Unit → Shared → Prop}
    (hQ : ∀ h' L' es' ep' t', Heap.SameBut a s.heap h' → SetN P w h' a L' es' ep' t' → L'.Perm L → Q () { s with heap := h' }) : wpAny (model P w) A (setRelay a wanted) Q E s := by
  have hsl := rows_len hr
  have hfits : t.fits es.size = true := by
    unfold SetTable.fits SetTable.fill
    rw [hdm, Bool.and_eq_true, beq_iff_eq, decide_eq_true_eq]
    show t.place.size = es.size ∧ t.place.size + 0 ≤ t.mask
    omega
  obtain ⟨t', order, e, hp, T, em, el, ep', ed⟩ := relaid_ok t (hs := es.map (·.1)) (wanted := wanted) hw hM (by rw [Array.size_map, hsl]; omega)
  rw [Array.size_map, hsl] at hp
  obtain ⟨L2, r1, r2, r3⟩ := reorder L es order hr hp
  rw [← r3] at T
  have hs2 : (order.filterMap (es[·]?)).size = es.size := by rw [rows_len r1, r2.length_eq, hsl]
  rw [setRelay_eq]
  refine wpAny_bind (wpAny_setState_of ho hd hfits ?_)
  dsimp only
  refine wp_if_neg (by rw [sizeLine_eq]; omega) ?_
  try refine wpAny_bind (wpAny_pure ?_)
  rw [e]
  dsimp only
  refine wpAny_bind ?_
  refine wp_if_neg (by rw [hs2]; simp) ?_
  try refine wpAny_bind (wpAny_pure ?_)
  refine wpAny_pure ?_
  dsimp only
  refine wpAny_storeSet_of ho hd ?_ (by rw [hs2, hsl, sizeLine_eq]; omega)
  have sb : Heap.SameBut a s.heap (s.heap.update a (Obj.putSet (order.filterMap (es[·]?)) t')) := Heap.SameBut.update ..
  refine hQ _ L2 (order.filterMap (es[·]?)) (ep + 1) t' sb ⟨⟨_, store_at ho hd, ⟨hex.1, hex.2.1, hex.2.2⟩, rfl⟩, r1, T, (r2.map (·.2)).nodup_iff.mpr nd, fun p hpm => isN_same (keys p (r2.mem_iff.mp hpm)) ho hd sb, by rw [ep']; exact pl, by rw [el]; exact ld, ?_, by rw [r2.length_eq]; exact few⟩ r2
  rw [r2.length_eq, em]
  exact hn
/-- one more -/
theorem adds (R : SetN P w s.heap a L es ep t) {x : Addr} {k : NestedKey} (hx : IsN P w s.heap k x) (hu : (nestedKind P w).room A) (hfew : L.length + 1 < 64) {Q : Bool → Shared → Prop}
    (hQ : ∀ b h' L' es' ep' t', Heap.SameBut a s.heap h' → SetN P w h' a L' es' ep' t' → (k ∈ L.map (·.2) → L' = L) → (k ∉ L.map (·.2) → L'.Perm ((x, k) :: L)) → Q b { s with heap := h' }) :
    wpAny (model P w) A (setAddHashed a (.ref x) (hOf w k)) Q E s := by
  obtain ⟨o, ho, hex, hd⟩ := R.ob
  have hsl := rows_len R.rows
  have hroom := R.room
  have hlenH : (hashes w L).length = L.length := by unfold hashes; rw [List.length_map]
  unfold setAddHashed
  refine wpAny_holding ?_
  rw [show (100000 : Nat) = 99999 + 1 from rfl, setAddHashedIn_succ]
  refine wpAny_bind (wpAny_setState_of ho hd R.fits ?_)
  dsimp only
  refine wp_if_neg (by simp [byScan, Value.scannable]) ?_
  try refine wpAny_bind (wpAny_pure ?_)
  refine wpAny_bind (seek0 R hx hu (fun hm => ?_) fun K hm hK hb => ?_)
  · dsimp only
    exact wpAny_pure (hQ false s.heap L es ep t (Heap.SameBut.refl a s.heap) R (fun _ => rfl) fun z => absurd hm z)
  · dsimp only
    refine wpAny_bind (wpAny_setState_of ho hd R.fits ?_)
    dsimp only
    obtain ⟨q1, q2, q3, q4, q5, q6, q7, q8, q9⟩ := R.tab.put hK hb
    have hp1 : (t.put (way t.mask (hOf w k) K)).1.plain = true := by rw [q6]; exact R.plain
    generalize hpt : t.put (way t.mask (hOf w k) K) = pt at q1 q3 q4 q5 q6 q7 q8 q9 hp1 ⊢
    obtain ⟨t1, pp⟩ := pt
    dsimp only at q1 q3 q4 q5 q6 q7 q8 q9 hp1 ⊢
    subst q1
    first
      | (refine wpAny_bind ?_; refine wp_if_pos hp1 ?_; refine byVal 8 k _ s hx.1.1 hx.2 hx.1.2 ?_)
      | refine wp_if_pos hp1 (wpAny_bind (byVal 8 k _ s hx.1.1 hx.2 hx.1.2 ?_))
    simp only [if_true]
    generalize hpp : SetTable.below t.place (way t.mask (hOf w k) K) = p at q2 q3 ⊢
    have hin : (SetTable.insertAt es p (hOf w k, Value.ref x)).toList = rows w (L.take p ++ (x, k) :: L.drop p) := by
      rw [SetTable.toList_insertAt, R.rows]
      unfold rows
      rw [List.map_append, List.map_cons, List.map_take, List.map_drop]
    have pm : (L.take p ++ (x, k) :: L.drop p).Perm ((x, k) :: L) := by
      have h : (L.take p ++ (x, k) :: L.drop p).Perm ((x, k) :: (L.take p ++ L.drop p)) := List.perm_middle
      rw [List.take_append_drop] at h
      exact h
    have hlen : (L.take p ++ (x, k) :: L.drop p).length = L.length + 1 := pm.length_eq
    have hhs : hashes w (L.take p ++ (x, k) :: L.drop p) = (hashes w L).take p ++ hOf w k :: (hashes w L).drop p := by
      unfold hashes
      rw [List.map_append, List.map_cons, List.map_take, List.map_drop]
    rw [← hhs] at q3
    have nd1 : ((L.take p ++ (x, k) :: L.drop p).map (·.2)).Nodup := (pm.map (·.2)).nodup_iff.mpr (by rw [List.map_cons]; exact List.nodup_cons.mpr ⟨hm, R.nd⟩)
    have hes : (SetTable.insertAt es p (hOf w k, Value.ref x)).size = L.length + 1 := by rw [rows_len hin, hlen]
    generalize SetTable.insertAt es p (hOf w k, Value.ref x) = es1 at hin hes ⊢
    generalize L.take p ++ (x, k) :: L.drop p = L1 at pm hlen q3 nd1 hin
    refine wpAny_bind (wpAny_storeSet_of ho hd ?_ (by rw [hes, sizeLine_eq]; omega))
    have sb : Heap.SameBut a s.heap (s.heap.update a (Obj.putSet es1 t1)) := Heap.SameBut.update ..
    have ho1 := store_at (es' := es1) (t' := t1) ho hd
    generalize s.heap.update a (Obj.putSet es1 t1) = h1 at sb ho1 ⊢
    have keys1 : ∀ p ∈ L1, IsN P w h1 p.2 p.1 := fun p hp => by
      rcases List.mem_cons.mp (pm.mem_iff.mp hp) with e | hp
      · rw [e]; exact isN_same hx ho hd sb
      · exact isN_same (R.keys p hp) ho hd sb
    have ld1 : w.params.followText "set-order" = true ∨ t1.led = true := by rw [q5]; exact R.led
    rw [hlenH] at q9
    by_cases hf : t1.tooFull = true
    · first
        | (refine wpAny_bind ?_; refine wp_if_pos (by simp [hf]) ?_)
        | (refine wp_if_pos (by simp [hf]) ?_; refine wpAny_bind ?_)
      have hfull : (L.length + 1) * 5 ≥ t1.mask * 3 := by
        have h := hf
        unfold SetTable.tooFull at h
        rw [decide_eq_true_eq, q9] at h
        exact h
      rw [hsl]
      have hsz1 : t1.place.size = es1.size := by
        have h := q3.sz
        unfold hashes at h
        rw [List.length_map, hlen] at h
        rw [h, hes]
      have two : (t.mask = 7 ∧ L.length = 4) ∨ (t.mask = 31 ∧ L.length = 18) := by
        rcases R.tab.mok with e | e | e
        · left; rw [q4, e] at hfull; rw [e] at hroom; exact ⟨e, by omega⟩
        · right; rw [q4, e] at hfull; rw [e] at hroom; exact ⟨e, by omega⟩
        · exfalso; rw [q4, e] at hfull; omega
      have go : ∀ M, SetTable.sizeAbove (SetTable.grown (L.length + 1)) - 1 = M → MaskOk M → SetTable.sizeAbove (SetTable.grown (L.length + 1)) ≤ 128 → (L.length + 1) * 5 < M * 3 →
          wpAny (model P w) A (setRelay a (SetTable.grown (L.length + 1))) (fun _ s' => wpAny (model P w) A (pure true) Q E s') E { s with heap := h1 } := fun M g1 g2 g3 g4 => by
        refine enlarge (s := { s with heap := h1 }) ho1 ⟨hex.1, hex.2.1, hex.2.2⟩ rfl hin hsz1 q3.dm (by rw [hes, q4]; rcases two with ⟨e, e2⟩ | ⟨e, e2⟩ <;> omega) nd1 keys1 hp1 ld1 (by rw [hlen]; exact hfew) g1 g2 g3 (by rw [hlen]; exact g4) ?_
        exact fun h2 L2 es2 ep2 t2 sb2 R2 pm2 => wpAny_pure (hQ true h2 L2 es2 ep2 t2 (sb.trans sb2) R2 (fun z => absurd z hm) fun _ => pm2.trans pm)
      rcases two with ⟨_, e2⟩ | ⟨_, e2⟩
      · exact go 31 (by rw [e2, size_20]) (.inr (.inl rfl)) (by rw [e2, size_20]; decide) (by omega)
      · exact go 127 (by rw [e2, size_76]) (.inr (.inr rfl)) (by rw [e2, size_76]; decide) (by omega)
    · first
        | refine wp_if_neg (by simp [hf]) ?_
        | (refine wpAny_bind ?_; refine wp_if_neg (by simp [hf]) ?_; refine wpAny_pure ?_)
      refine wpAny_pure (hQ true h1 L1 es1 (ep + 1) t1 sb ⟨⟨_, ho1, ⟨hex.1, hex.2.1, hex.2.2⟩, rfl⟩, hin, q3, nd1, keys1, hp1, ld1, ?_, by rw [hlen]; exact hfew⟩ (fun z => absurd z hm) fun _ => pm)
      have h := hf
      unfold SetTable.tooFull at h
      rw [decide_eq_true_eq, q9] at h
      rw [hlen]
      omega
end
end ZS
/-! Z16: set(xs): its items are added one by one. -/
namespace ZS
open PySem PySem.Spec L2
open PyProof.Rows hiding St

/-- the set as it is made -/
def freshSet (w : World) : Obj := { cls := .type "set", dict := none, data := .set #[] 0 (.fresh 0 0 (!w.params.followText "set-order")) }
section
variable {P : Program} {w : World} {A : Around} {s : Shared}
/-- the loop of set.update: I holds of the set (at S) after i items -/
theorem upd_loop {It : Addr} {fp wr : List Addr} {G : Array GenState → Array GenState → Prop} {n : Nat} {Pv : Nat → Value → Prop} {St : Nat → Shared → Prop} {R : Result → Shared → Prop} (W : WalksS P w A.in1 It fp wr G n Pv St) (S : Addr) (hSf : S ∉ fp) (h0 : Heap) (hS0 : h0.get? S = none) (hw0 : ∀ b ∈ wr, h0.get? b = none)
    (I : Nat → Heap → Prop) (stay : ∀ i h h', I i h → (∀ o, h.get? S = some o → h'.get? S = some o) → (∀ b o, h0.get? b = some o → h.get? b = some o) → (∀ b o, h0.get? b = some o → h'.get? b = some o) → I i h')
    (step : ∀ (i : Nat) (v : Value) (s' : Shared) (E : Value → Shared → Prop) (Q : Bool → Shared → Prop), i < n → Pv i v → I i s'.heap → (∀ b o, h0.get? b = some o → s'.heap.get? b = some o) →
      (∀ b h' tk, Heap.SameBut S s'.heap h' → I (i + 1) h' → s'.toks ≤ tk → Q b { s' with heap := h', toks := tk }) → wpAny (model P w) A.in1 (setAdd S v) Q E s') :
    ∀ (k i : Nat) (s : Shared), n - i = k → i ≤ n → St i s → (∀ b o, h0.get? b = some o → s.heap.get? b = some o) → I i s.heap →
      (∀ s', Moved (S :: wr) G s s' → I n s'.heap → (∀ b o, h0.get? b = some o → s'.heap.get? b = some o) → R (.ok (.ret .none)) s') →
      codeAny (model P w) A (.builtin "set.update.loop" ⟨[.ref S, .ref It], []⟩) R s := by
  have hSw : S ∉ wr := fun h => hSf (W.sub _ h)
  have hsub : ∀ b ∈ wr, b ∈ S :: wr := fun b hb => List.mem_cons_of_mem _ hb
  have keepM : ∀ {s s' : Shared}, Moved wr G s s' → (∀ b o, h0.get? b = some o → s.heap.get? b = some o) → ∀ b o, h0.get? b = some o → s'.heap.get? b = some o := fun hm hkp b o e =>
    hm.heap b o (fun hb => by rw [hw0 b hb] at e; cases e) (hkp b o e)
  intro k
  induction k with
  | zero =>
    intro i s hk' hi hst hkp hI hR
    have hin : i = n := by omega
    subst hin
    refine codeAny_builtin F.entry_set_update_loop ?_
    rw [Around.under_plainId F.plain_set_update_loop _]
    show wpAny _ A.in1 (pyNext (.ref It) >>= _) _ _ s
    refine wpAny_bind (W.done s _ _ hst fun s' hm => ?_)
    show wpAny _ A.in1 (ret Value.none) _ _ s'
    have hkp' := keepM hm hkp
    exact wpAny_pure (hR s' (hm.mono hsub) (stay _ _ _ hI (fun o e => hm.heap S o hSw e) hkp hkp') hkp')
  | succ k ih =>
    intro i s hk' hi hst hkp hI hR
    have hlt : i < n := by omega
    refine codeAny_builtin F.entry_set_update_loop ?_
    rw [Around.under_plainId F.plain_set_update_loop _]
    show wpAny _ A.in1 (pyNext (.ref It) >>= _) _ _ s
    refine wpAny_bind (W.item i s _ _ hlt hst fun v s' hP hst' hm => ?_)
    have hkp' := keepM hm hkp
    have hI' := stay _ _ _ hI (fun o e => hm.heap S o hSw e) hkp hkp'
    show wpAny _ A.in1 (holding [v] (setAdd S v) >>= _) _ _ s'
    refine wpAny_bind (wpAny_holding ?_)
    refine step i v s' _ _ hlt hP hI' hkp' fun b h' tk hsb hI2 htk => ?_
    have hkp2 : ∀ b o, h0.get? b = some o → h'.get? b = some o := fun b o e => (hsb.2 b (fun z => by rw [z, hS0] at e; cases e)).trans (hkp' b o e)
    refine wpAny_pure ⟨plainId_quiet F.plain_set_update_loop _, ih (i + 1) _ (by omega) hlt (W.frame _ s' _ _ hst' htk fun b hb o e => ?_) hkp2 hI2 fun s'' hm'' hI'' hkp'' => ?_⟩
    · rw [hsb.2 b (fun h : b = S => hSf (by rw [← h]; exact hb))]; exact e
    · refine hR s'' (Moved.trans W.gtrans ((hm.mono hsub).then_heap htk fun b o hb e => ?_) hm'') hI'' hkp''
      rw [hsb.2 b (fun h : b = S => hb (by rw [h]; exact List.mem_cons_self))]; exact e

set_option maxHeartbeats 3200000 in
/-- set(xs), xs a list -/
theorem call_set_with {E : Value → Shared → Prop} {l : Addr} {items : Array Value} {Q : Value → Shared → Prop} (hh : A.handled = none) (hl : s.heap.IsList l items) (I : Nat → Heap → Prop)
    (start : ∀ h : Heap, h.get? s.heap.objs.size = some (freshSet w) → I 0 h)
    (stay : ∀ i h h', I i h → (∀ o, h.get? s.heap.objs.size = some o → h'.get? s.heap.objs.size = some o) → (∀ b o, s.heap.get? b = some o → h.get? b = some o) → (∀ b o, s.heap.get? b = some o → h'.get? b = some o) → I i h')
    (step : ∀ (i : Nat) (v : Value) (s' : Shared) (E : Value → Shared → Prop) (Q : Bool → Shared → Prop), i < items.size → items[i]? = some v → I i s'.heap → (∀ b o, s.heap.get? b = some o → s'.heap.get? b = some o) →
      (∀ b h' tk, Heap.SameBut s.heap.objs.size s'.heap h' → I (i + 1) h' → s'.toks ≤ tk → Q b { s' with heap := h', toks := tk }) → wpAny (model P w) A.in1.in1.in1 (setAdd s.heap.objs.size v) Q E s')
    (h : ∀ (h' : Heap) (tk : Nat), I items.size h' → (∀ b o, s.heap.get? b = some o → h'.get? b = some o) → Q (.ref s.heap.objs.size) { s with heap := h', toks := tk }) :
    wpAny (model P w) A (call (.type "set") [.ref l]) Q E s := by
  obtain ⟨c, tl, hmro⟩ := F.called_set.mro
  have hmade := F.called_set.made
  have hsub := F.called_set.sub
  refine wpAny_call (codeAny_of_tree ?_)
  show wpAny _ _ (callAny (.type "set") _) _ _ _
  refine wpAny_pure ⟨Code.quiet_builtin _ (by decide +kernel), codeAny_builtin F.entry_type_call ?_⟩
  rw [Around.under_plain (weight_type_call_type "set" [.ref l] []) rfl]
  have h1 := F.called_set.notType
  have h2 := F.called_set.canCreate
  have hct := F.typeCall_set_1 (.ref l)
  repeat (any_goals (first | assumption | wp_step))
  refine codeAny_mono (code_set_led1 (.ref l) (E := E) (Q₁ := fun obj s₁ => obj = .ref s.heap.objs.size ∧ s₁ = { s with heap := s.heap.push (freshSet w) }) ⟨rfl, rfl⟩) fun r s₁ hr => ?_
  cases r with
  | error e => exact hr
  | ok fl =>
    cases fl with
    | ret obj =>
      obtain ⟨rfl, rfl⟩ := hr
      have hS : (s.heap.push (freshSet w)).get? s.heap.objs.size = some (freshSet w) := Heap.get?_push_size _ rfl
      have hT : Shared.TypeIs { s with heap := s.heap.push (freshSet w) } (.ref s.heap.objs.size) "set" := ⟨_, hS, rfl⟩
      have hli := F.called_set.init.lookup
      have hbi := F.called_set.init.bind (.ref s.heap.objs.size)
      repeat (any_goals (first | assumption | wp_step))
      refine codeAny_mono (codeAny_call_builtin (R := wants (fun r s₂ => r = .none ∧ ∃ h' tk, s₂ = { s with heap := h', toks := tk } ∧ I items.size h' ∧ (∀ b o, s.heap.get? b = some o → h'.get? b = some o)) E) F.called_set.init.plain F.entry_set_init (check_set_init_1 hT ?_)) fun r₂ s₂ hr₂ => ?_
      · obtain ⟨ol, hol, hcl, nl, hdl⟩ := hl
        obtain ⟨ocls, odict, odata, oslots⟩ := ol
        simp only at hcl hdl
        subst hcl; subst hdl
        have hol' : (s.heap.push (freshSet w)).get? l = some { cls := .type "list", dict := odict, data := .seq items nl, slots := oslots } := Heap.get?_push_of_some _ hol
        have hsls := F.sub_list_set
        have hslf := F.sub_list_frozenset
        have hne : (Value.type "list" == Value.type "dict") = false := by decide
        have hl1 : (s.heap.push (freshSet w)).IsList l items := ⟨_, hol', rfl, nl, rfl⟩
        unfold Builtin.«set.__init__» noKeywords Builtin.Frozenset.updateFrom
        generalize hPI : pyIter = PI
        wp_walk
        subst hPI
        refine wpAny_pyIter_list hl1 ?_
        refine wpAny_bind (wpAny_runValue ?_)
        have hlS : l < s.heap.objs.size := Heap.lt_size hol
        have hh3 : A.in1.in1.in1.handled = none := by simp [hh]
        have hneI : l ≠ (s.heap.push (freshSet w)).objs.size := by
          rw [Heap.size_push]; exact Nat.ne_of_lt (Nat.lt_succ_of_lt hlS)
        have hSf : s.heap.objs.size ∉ [(s.heap.push (freshSet w)).objs.size, l] := by
          rw [Heap.size_push]; simp only [List.mem_cons, List.mem_singleton, List.not_mem_nil, or_false, not_or]
          exact ⟨Nat.ne_of_lt (Nat.lt_succ_self _), Nat.ne_of_gt hlS⟩
        have none_of : ∀ b, s.heap.objs.size ≤ b → s.heap.get? b = none := fun b hb => by
          cases q : s.heap.get? b with
          | none => rfl
          | some o => exact absurd (Nat.lt_of_lt_of_le (Heap.lt_size q) hb) (Nat.lt_irrefl _)
        refine upd_loop ((Walks.list hh3 _ l hneI items).toS) s.heap.objs.size hSf s.heap (none_of _ (Nat.le_refl _)) (fun b hb => none_of b (by
            rw [List.mem_singleton.mp hb, Heap.size_push]
            exact Nat.le_succ _)) I stay step (items.size - 0) 0 _ (by omega) (Nat.zero_le _)
          ⟨⟨_, Heap.get?_push_size _ rfl, rfl, rfl⟩, (hl1.push _)⟩ (fun b o e => Heap.get?_push_of_some _ (Heap.get?_push_of_some _ e)) ?hS0 ?hR
        case hS0 => exact start _ (Heap.get?_push_of_some _ hS)
        case hR =>
          intro s' hm hI' hkp
          obtain ⟨h', g2, d', tk', os'⟩ := s'
          have eg : g2 = s.gens := hm.gens
          have ed : d' = s.drawn := hm.drawn
          have eo : os' = s.os := hm.os
          subst eg; subst ed; subst eo
          show wpAny _ _ _ _ _ _
          refine wpAny_pure ?_
          show wpAny _ _ (ret Value.none) _ _ _
          exact wpAny_pure ⟨rfl, h', tk', rfl, hI', hkp⟩
      · cases r₂ with
        | error e => exact hr₂
        | ok fl₂ =>
          cases fl₂ with
          | ret r =>
            obtain ⟨rfl, h', tk, rfl, hI', hk'⟩ := hr₂
            repeat (any_goals (first | assumption | wp_step))
            exact h _ _ hI' hk'
          | _ => exact hr₂.elim
    | _ => exact hr.elim
end
end ZS
/-! Z17: sorted, min; sets by their sorted items or their number. -/
namespace Z
open PySem PySem.Spec L2 PySem.W
open PyProof.Rows hiding St

/-! ### the order of data -/
def dleD (a b : D) : Bool := PySem.W.dataLe false toP a b
def sortD (xs : List D) : List D := xs.mergeSort dleD
def alikeD (xs : List D) : Bool := xs.all fun x => xs.all fun y => PySem.W.alike (toP x) (toP y)
def tup1 : D → Bool
  | .tup (_ :: _) => true
  | _ => false
def noTup : D → Bool
  | .tup _ => false
  | .non => false
  | .dct _ _ => false
  | .scr _ => false
  | _ => true
def sortOk (xs : List D) : Bool := xs.all (okE 50) && alikeD xs && (xs.all tup1 || xs.all noTup) && decide (xs.length ≤ LIM)
theorem toPs_map : ∀ xs : List D, toPs xs = xs.map toP
  | [] => rfl
  | x :: xs => by rw [toPs, toPs_map xs]; rfl
theorem toP_inj {n m : Nat} {a b : D} (ha : okE n a = true) (hb : okE m b = true) (h : toP a = toP b) : a = b := by
  have h1 := eqv_toP n m a b ha hb
  have h2 := eqv_toP n n a a ha ha
  rw [beq_dec] at h1 h2
  rw [← h, h2] at h1
  have h1 : decide (a = a) = decide (a = b) := h1
  rw [decide_eq_true rfl] at h1
  exact of_decide_eq_true h1.symm
theorem dle_total (a b : D) : (dleD a b || dleD b a) = true := by
  rw [Bool.or_eq_true]
  exact (PySem.W.sortLe_total (listOrd itemOrd) false fun b => PySem.W.keyToks (toP b)).total a b
theorem dle_trans (a b c : D) (h : dleD a b = true) (k : dleD b c = true) : dleD a c = true := (PySem.W.sortLe_total (listOrd itemOrd) false fun b => PySem.W.keyToks (toP b)).trans a b c h k
theorem sortD_perm (xs : List D) : (sortD xs).Perm xs := List.mergeSort_perm xs dleD
theorem sortD_sorted (xs : List D) : (sortD xs).Pairwise (fun a b => dleD a b = true) := List.pairwise_mergeSort (le := dleD) dle_trans dle_total xs
theorem toks_inj {x y : PyData} (h : PySem.W.alike x y = true) (e : PySem.W.keyToks x = PySem.W.keyToks y) : PyData.eqv x y = true := by
  cases q : PyData.eqv x y with
  | true => rfl
  | false =>
    have k := (PySem.W.toks_eqv x y h).2 q [] [.inl 0]
    have k0 := (PySem.W.toks_eqv x y h).2 q [] []
    rw [e] at k k0
    rw [PySem.W.lex_pre] at k k0
    rw [← k] at k0
    exact absurd k0 (by decide)
theorem dle_antisymm {n m : Nat} {a b : D} (ha : okE n a = true) (hb : okE m b = true) (hk : PySem.W.alike (toP a) (toP b) = true) (h1 : dleD a b = true) (h2 : dleD b a = true) : a = b := by
  have g1 : PyProof.Rows.lexLt itemOrd (PySem.W.keyToks (toP b)) (PySem.W.keyToks (toP a)) = false := by
    have : (!PyProof.Rows.lexLt itemOrd (PySem.W.keyToks (toP b)) (PySem.W.keyToks (toP a))) = true := h1
    simpa using this
  have g2 : PyProof.Rows.lexLt itemOrd (PySem.W.keyToks (toP a)) (PySem.W.keyToks (toP b)) = false := by
    have : (!PyProof.Rows.lexLt itemOrd (PySem.W.keyToks (toP a)) (PySem.W.keyToks (toP b))) = true := h2
    simpa using this
  have e := (listOrd itemOrd).total _ _ g2 g1
  have q := toks_inj hk e
  rw [eqv_toP n m a b ha hb, beq_dec] at q
  exact of_decide_eq_true q
theorem alike_of {xs : List D} (h : alikeD xs = true) {a b : D} (ha : a ∈ xs) (hb : b ∈ xs) : PySem.W.alike (toP a) (toP b) = true := by
  unfold alikeD at h
  exact List.all_eq_true.mp (List.all_eq_true.mp h a ha) b hb
theorem sort_unique {xs ys : List D} (hk : xs.all (okE 50) = true) (ha : alikeD xs = true) (p : ys.Perm xs) (s : ys.Pairwise fun a b => dleD a b = true) : ys = sortD xs := by
  have key : ∀ (us vs : List D), us.Perm vs → (∀ a ∈ us, a ∈ xs) → us.Pairwise (fun a b => dleD a b = true) → vs.Pairwise (fun a b => dleD a b = true) → us = vs := by
    intro us
    induction us with
    | nil => intro vs p _ _ _; exact (List.Perm.nil_eq p)
    | cons u us ih =>
      intro vs p hm s1 s2
      cases vs with
      | nil => exact absurd p.length_eq (by simp)
      | cons v vs =>
        have e : u = v := by
          rcases List.mem_cons.mp (p.mem_iff.mp List.mem_cons_self) with e | e
          · exact e
          · rcases List.mem_cons.mp (p.mem_iff.mpr List.mem_cons_self) with e' | e'
            · exact e'.symm
            · have l1 : dleD u v = true := (List.pairwise_cons.mp s1).1 v e'
              have l2 : dleD v u = true := (List.pairwise_cons.mp s2).1 u e
              have mu := hm u List.mem_cons_self
              have mv := hm v (List.mem_cons_of_mem _ e')
              exact dle_antisymm (List.all_eq_true.mp hk u mu) (List.all_eq_true.mp hk v mv) (alike_of ha mu mv) l1 l2
        subst e
        rw [ih vs (List.Perm.cons_inv p) (fun a h => hm a (List.mem_cons_of_mem _ h)) (List.pairwise_cons.mp s1).2 (List.pairwise_cons.mp s2).2]
  exact key ys (sortD xs) (p.trans (sortD_perm xs).symm) (fun a h => p.mem_iff.mp h) s (sortD_sorted xs)

/-! ### sorting a list that was just laid -/
theorem sortOk_split {xs : List D} (h : sortOk xs = true) : xs.all (okE 50) = true ∧ alikeD xs = true ∧ (xs.all tup1 = true ∨ xs.all noTup = true) ∧ xs.length ≤ LIM := by
  unfold sortOk at h
  simp only [Bool.and_eq_true, Bool.or_eq_true, decide_eq_true_eq] at h
  exact ⟨h.1.1.1, h.1.1.2, h.1.2, h.2⟩
theorem allAlike_of {xs : List D} (h : alikeD xs = true) : PySem.W.AllAlike (xs.map toP) := fun d hd d' hd' => by
  obtain ⟨a, ha, rfl⟩ := List.mem_map.mp hd
  obtain ⟨b, hb, rfl⟩ := List.mem_map.mp hd'
  exact alike_of h ha hb
theorem sortable_of {xs : List D} (h : xs.all tup1 = true ∨ xs.all noTup = true) : PySem.W.Sortable (xs.map toP) := by
  rcases h with h | h
  · refine .inl fun d hd => ?_
    obtain ⟨a, ha, rfl⟩ := List.mem_map.mp hd
    have := List.all_eq_true.mp h a ha
    cases a with
    | tup ys =>
      cases ys with
      | nil => simp [tup1] at this
      | cons y ys => exact ⟨toP y, toPs ys, by simp [toP, toPs]⟩
    | _ => simp [tup1] at this
  · refine .inr fun d hd => ?_
    obtain ⟨a, ha, rfl⟩ := List.mem_map.mp hd
    have := List.all_eq_true.mp h a ha
    cases a <;> simp [noTup, toP] at this ⊢
/-- what a value stands for -/
def RV (C : Cfg) (H : Hp) (S : Addr → Prop) (u : Value) (d : D) : Prop := ∃ v : V, RelV v u ∧ Rep C H S d v
theorem each_rv {C : Cfg} {H : Hp} {S : Addr → Prop} : ∀ {ws : List V} {us : List Value} {bs : List D}, Vals ws us → Reps C H S bs ws → PySem.W.EachIs (RV C H S) us bs
  | _, _, [], r, h => by rw [Reps] at h; subst h; cases r; exact .nil
  | _, _, b :: bs, r, h => by
    rw [Reps] at h
    obtain ⟨v, s, rfl, h1, h2⟩ := h
    cases r with
    | cons r1 r2 => exact .cons ⟨v, r1, h1⟩ (each_rv r2 h2)
theorem rv_each {C : Cfg} {H : Hp} {S : Addr → Prop} {us : List Value} {bs : List D} (h : PySem.W.EachIs (RV C H S) us bs) : ∃ ws, Vals ws us ∧ Reps C H S bs ws := by
  induction h with
  | nil => exact ⟨[], .nil, Reps.nil⟩
  | cons h t ih =>
    obtain ⟨v, r, rp⟩ := h
    obtain ⟨ws, i1, i2⟩ := ih
    exact ⟨v :: ws, .cons r i1, .cons rp i2⟩
theorem each_reads {X : Cx} {pins : List (Addr × Obj)} {σ : St} {H : Hp} {s : Shared} {S : Addr → Prop} (I : Inv X pins σ H s) {us : List Value} {bs : List D} (h : PySem.W.EachIs (RV (cfg X) H S) us bs) (hk : bs.all (okE 50) = true) : PySem.W.EachIs (fun v b => ∃ as, Reads s.heap v (toP b) as) us bs := by
  induction h with
  | nil => exact .nil
  | cons h t ih =>
    rw [List.all_cons, Bool.and_eq_true] at hk
    obtain ⟨v, r, rp⟩ := h
    exact .cons (Dp.reads I _ v _ (dp_of (S := S) 50 _ v hk.1 rp) r) (ih hk.2)
theorem EachIs.mp {α β : Type} {R R' : α → β → Prop} {us : List α} {bs : List β} (h : PySem.W.EachIs R us bs) (f : ∀ a b, R a b → R' a b) : PySem.W.EachIs R' us bs := by
  induction h with
  | nil => exact .nil
  | cons h t ih => exact .cons (f _ _ h) ih
theorem depth_of {xs : List D} (hk : xs.all (okE 50) = true) {b : D} (h : b ∈ xs) : (toP b).depth ≤ 50 := (okE_lay 50 b (List.all_eq_true.mp hk b h)).2
section
variable {X : Cx} {pins : List (Addr × Obj)} {σ : St} {H : Hp} {s : Shared} {S : Addr → Prop}
/-- the list of us that was just laid is sorted -/
theorem sort_call {A : Around} {E : Value → Shared → Prop} (hA : A.units ≤ X.A.units + 8) (hu : X.A.units + 64 < cLine) (I : Inv X pins σ H s) {us : List Value} {bs : List D} (h : PySem.W.EachIs (RV (cfg X) H S) us bs) (ok : sortOk bs = true) {Q : Value → Shared → Prop}
    (q : ∀ (h' : Heap) (ws : List V), H s.heap.objs.size = none → Reps (cfg X) H S (sortD bs) ws → Inv X pins σ (upd H s.heap.objs.size (.lst ws)) { s with heap := h' } → Q .none { s with heap := h' }) :
    wpAny (model X.prog X.w) A (call (.builtin "list.sort") [.ref s.heap.objs.size]) Q E { s with heap := s.heap.push (seqObj "list" us.toArray 0) } := by
  obtain ⟨h1, h2, h3, h4⟩ := sortOk_split ok
  have hoL : (s.heap.push (seqObj "list" us.toArray 0)).get? s.heap.objs.size = some (seqObj "list" us.toArray 0) := Heap.get?_push_size _ rfl
  have er := each_reads I h h1
  have er' : PySem.W.EachIs (fun v b => ∃ as, Reads (PySem.W.sortingHeap (s.heap.push (seqObj "list" us.toArray 0)) s.heap.objs.size us) v (toP b) as) us bs := EachIs.mp er fun v b ⟨as, r⟩ => ⟨as, PyProof.Rows.Reads.keeps (fun c o e => PySem.W.sortingHeap_old (Nat.ne_of_lt (Heap.lt_size e)) (Heap.get?_push_of_some _ e)) r⟩
  have hal := allAlike_of h2
  have hL : bs.length ≤ sizeLine := by rw [← lim_line]; exact h4
  refine wpAny_call_entry slot_list_sort ⟨_, hoL, rfl⟩ entry_list_sort (PySem.W.list_sort_vals (s := { s with heap := s.heap.push (seqObj "list" us.toArray 0) }) (κ := PySem.W.dataKind (PySem.W.sortingHeap (s.heap.push (seqObj "list" us.toArray 0)) s.heap.objs.size us) (bs.map toP)) hoL
    (PySem.W.SortsAt.data (s := { s with heap := PySem.W.sortingHeap (s.heap.push (seqObj "list" us.toArray 0)) s.heap.objs.size us }) (PySem.W.each_map (R := fun v d => ∃ as, Reads (PySem.W.sortingHeap (s.heap.push (seqObj "list" us.toArray 0)) s.heap.objs.size us) v d as) toP er') hal (sortable_of h3) (PySem.W.bound_map fun b hb => ?_)) (by rw [h.length]; exact hL) ⟨.none, rfl, ?_⟩) (args_list_sort _)
  · have := depth_of h1 hb
    show A.units + 1 + (toP b).depth < cLine
    omega
  · have eo := PySem.W.sortVals_data false h er' hal
    have lo := (PySem.W.sortVals_length (κ := PySem.W.dataKind (PySem.W.sortingHeap (s.heap.push (seqObj "list" us.toArray 0)) s.heap.objs.size us) (bs.map toP)) (ks := us) (vs := us) false rfl).trans h.length
    generalize PySem.W.sortVals (PySem.W.dataKind (PySem.W.sortingHeap (s.heap.push (seqObj "list" us.toArray 0)) s.heap.objs.size us) (bs.map toP)) false us us = out at eo lo
    obtain ⟨ws, r1, r2⟩ := rv_each eo
    obtain ⟨c, hc⟩ := sortedHeap_at (vs := us) (out := out.toArray) hoL
    have lw : ws.length ≤ sizeLine := by rw [r1.length, lo]; exact hL
    refine q _ ws (I.hok.fresh (Nat.le_refl _)) r2 (I.laid (t' := s.toks) (fun b u e => ?_) (Nat.le_refl _) (show ObjOk X.prog X.w _ _ _ (.lst ws) from ⟨lw, out, c, r1, hc⟩))
    have hb : b < s.heap.objs.size := Heap.lt_size e
    rw [sortedHeap_old (Nat.ne_of_lt hb) (by rw [size_push']; exact Nat.lt_succ_of_lt hb)]
    exact Heap.get?_push_of_some _ e
end
def keysSorted : D → Option (List D)
  | .lst xs => some xs
  | .dct ks _ => if flatKs ks then some ks else none
  | _ => none
def gSorted (d : D) : Option R := match keysSorted d with
  | some xs => if sortOk xs = true then some (.fr (.lst (sortD xs))) else none
  | none => none
section
variable {X : Cx}
theorem vals_keys {P : Program} {w : World} : ∀ {kvs : List (Key × V)} {vs : List (Key × Value)} {us : List Value}, KV kvs vs → us.length = vs.length → (∀ (j : Nat) (u : Value), us[j]? = some u → ∃ k x, vs[j]? = some (k, x) ∧ (mixKind P w).is k u = true) → Vals (kvs.map fun p => kV p.1) us := by
  intro kvs vs us rel hl h
  have hk := rel.length
  refine vals_of_at (by rw [List.length_map, hl, hk]) fun j x u h1 h2 => ?_
  obtain ⟨k, y, e1, e2⟩ := h j u h2
  have e3 : (kvs.map (·.1))[j]? = some k := by rw [KV.keys rel, List.getElem?_map, e1] <;> rfl
  rw [List.getElem?_map] at h1 e3
  cases q : kvs[j]? with
  | none => rw [q] at h1; cases h1
  | some p =>
    rw [q] at h1 e3
    cases h1
    cases e3
    exact keyIs_rel e2
theorem reps_keys {C : Cfg} {H : Hp} {S : Addr → Prop} : ∀ kvs : List (Key × V), Reps C H S (kvs.map fun p => keyD p.1) (kvs.map fun p => kV p.1)
  | [] => Reps.nil
  | p :: kvs => by
    refine Reps.cons ?_ (reps_keys kvs)
    show Rep C H S (keyD p.1) (kV p.1)
    cases p.1 with
    | inl i => exact .mkInt
    | inr x => exact .mkStr
theorem crg_sorted (hc : X.calm = true) (hu : X.A.units + 64 < cLine) : CallR X (.builtin "sorted") (rC1 (cfg X) gSorted) := by
  intro pins s σ H xs us Q I rx h
  obtain ⟨x, rfl, S, dx, r, ok, px, e, k⟩ := h
  unfold gSorted at e
  split at e
  · rename_i ys hy
    split at e
    · rename_i hs
      cases e
      have hlim := (sortOk_split hs).2.2.2
      unfold keysSorted at hy
      split at hy
      · rename_i xs
        cases hy
        obtain ⟨a, vs, rfl, q, rr⟩ := px.lst
        obtain ⟨its, rv, hl, hz⟩ := I.list q.sql
        rw [Vals.ref1 rx]
        refine Calls.call_function_entry kind_sorted plain_sorted entry_sorted (args_sorted1 _) ?_
        unfold Builtin.«sorted»
        refine wpAny_bind (m := checkCount "sorted" 1 1 _) (wpAny_pure ?_)
        have hz' : its.toArray.size ≤ sizeLine := by rw [List.size_toArray, ← rv.length]; exact hz
        refine wpAny_bind (collect_list hl.isList ?_ hz')
        have I1 : Inv X pins σ H { s with heap := (s.heap.push (seqObj "list" #[] 0)).update s.heap.objs.size (Obj.mapSeq (· ++ its.toArray)) } := I.kept (t' := s.toks) fun b o e => by
          have hlt := Heap.lt_size e
          rw [Heap.get?_update_ne _ _ _ _ (Nat.ne_of_lt hlt)]
          exact Heap.get?_push_of_some _ e
        refine wpAny_bind (wpAny_newList ?_ (by simpa using hz'))
        refine wpAny_bind (wpAny_holding (sort_call (A := X.A.in1) (by show X.A.units + 1 ≤ _; omega) hu I1 (each_rv (by simpa using rv) rr) hs fun h' ws n r' I2 => ?_))
        exact wpAny_pure ⟨_, rfl, .ref _, _, I2, rfl, resLst ok k r' _ n⟩
      · rename_i ks ws
        split at hy
        · rename_i hf
          cases hy
          obtain ⟨a, rfl⟩ := px.dctRef
          obtain ⟨W0⟩ := dct_flat I px hf
          obtain ⟨ep, hat⟩ := W0.dct.dictAt
          have hl := W0.kv.length
          rw [Vals.ref1 rx]
          refine Calls.call_function_entry kind_sorted plain_sorted entry_sorted (args_sorted1 _) ?_
          unfold Builtin.«sorted»
          refine wpAny_bind (m := checkCount "sorted" 1 1 _) (wpAny_pure ?_)
          refine wpAny_bind (PySem.W.kdu_collect (A := X.A.in1) (PySem.W.kdl_dict (knd := mixKind X.prog X.w) (kvs := W0.vs) (ep := ep) W0.sys) (I.ok.hd hc) hat (by rw [← hl]; exact W0.size) fun h' tk acc hk hacc => ?_)
          have I1 : Inv X pins σ H { s with heap := h', toks := tk } := I.kept hk
          have rv : Vals (W0.kvs.map fun p => kV p.1) acc.toList := vals_keys W0.kv (by rw [Array.length_toList]; exact hacc.1) fun j u e => hacc.2 j u (by rw [← Array.getElem?_toList]; exact e)
          have er : PySem.W.EachIs (RV (cfg X) H S) acc.toList ys := by
            rw [W0.keys]
            exact each_rv rv (reps_keys W0.kvs)
          refine wpAny_bind (wpAny_newList ?_ (by rw [← rv.length, List.length_map]; exact W0.size))
          refine wpAny_bind (wpAny_holding (sort_call (s := { s with heap := h', toks := tk }) (A := X.A.in1) (by show X.A.units + 1 ≤ _; omega) hu I1 er hs fun h' ws n r' I2 => ?_))
          exact wpAny_pure ⟨_, rfl, .ref _, _, I2, rfl, resLst ok k r' _ n⟩
        · cases hy
      · cases hy
    · cases e
  · cases e
end
end Z
/-! Z18: sorted(set(xs)), len(set(xs)), min of texts. -/
namespace Z
open PySem PySem.Spec L2 PySem.W
open PyProof.Rows hiding St

/-- each once, as first met -/
def dedupFrom : List D → List D → List D
  | acc, [] => acc
  | acc, x :: xs => dedupFrom (if acc.contains x then acc else acc ++ [x]) xs
def dedupD (xs : List D) : List D := dedupFrom [] xs
instance : BEq D := instBEqOfDecidableEq
theorem dedupFrom_spec : ∀ (xs acc : List D), acc.Nodup → (dedupFrom acc xs).Nodup ∧ ∀ x, x ∈ dedupFrom acc xs ↔ x ∈ acc ∨ x ∈ xs
  | [], acc, h => ⟨h, fun x => by simp [dedupFrom]⟩
  | y :: xs, acc, h => by
    rw [dedupFrom]
    by_cases z : acc.contains y = true
    · rw [if_pos z]
      obtain ⟨h1, h2⟩ := dedupFrom_spec xs acc h
      refine ⟨h1, fun x => ?_⟩
      rw [h2, List.mem_cons]
      have hy : y ∈ acc := by simpa using z
      constructor
      · rintro (q | q)
        · exact .inl q
        · exact .inr (.inr q)
      · rintro (q | q | q)
        · exact .inl q
        · subst q; exact .inl hy
        · exact .inr q
    · rw [if_neg z]
      have hy : y ∉ acc := by simpa using z
      obtain ⟨h1, h2⟩ := dedupFrom_spec xs (acc ++ [y]) (by
        rw [List.nodup_append]
        refine ⟨h, by simp, fun a ha b hb e => ?_⟩
        rw [List.mem_singleton] at hb
        subst hb; subst e
        exact hy ha)
      refine ⟨h1, fun x => ?_⟩
      rw [h2, List.mem_append, List.mem_singleton, List.mem_cons, or_assoc]
theorem dedup_nodup (xs : List D) : (dedupD xs).Nodup := (dedupFrom_spec xs [] List.nodup_nil).1
theorem mem_dedup (xs : List D) (x : D) : x ∈ dedupD xs ↔ x ∈ xs := by
  have := (dedupFrom_spec xs [] List.nodup_nil).2 x
  simpa [dedupD] using this
theorem dedupFrom_snoc (y : D) : ∀ (xs acc : List D), dedupFrom acc (xs ++ [y]) = if (dedupFrom acc xs).contains y then dedupFrom acc xs else dedupFrom acc xs ++ [y]
  | [], acc => by simp [dedupFrom]
  | x :: xs, acc => by
    rw [List.cons_append, dedupFrom, dedupFrom, dedupFrom_snoc y xs]
/-- the key of a tuple of whole numbers -/
def numTup (d : D) : Bool := match tupKey d with
  | some k => ZS.numK k
  | none => false
theorem numTup_eq {d : D} (h : numTup d = true) : ∃ k, tupKey d = some k ∧ ZS.numK k = true := by
  unfold numTup at h
  split at h
  · rename_i k e
    exact ⟨k, e, h⟩
  · cases h
section
variable {X : Cx} {pins : List (Addr × Obj)} {σ : St} {H : Hp} {s : Shared} {S : Addr → Prop}
/-- xs by their addresses and keys -/
inductive KeyL (C : Cfg) (H : Hp) (S : Addr → Prop) : List D → List (Addr × NestedKey) → Prop
  | nil : KeyL C H S [] []
  | cons {x : D} {xs : List D} {a : Addr} {k : NestedKey} {ps : List (Addr × NestedKey)} : tupKey x = some k → ZS.numK k = true → Rep C H S x (.ref a) → KeyL C H S xs ps → KeyL C H S (x :: xs) ((a, k) :: ps)
theorem keyL_of {C : Cfg} {H : Hp} {S : Addr → Prop} : ∀ {xs : List D} {vs : List V}, xs.all numTup = true → Reps C H S xs vs → ∃ ps, KeyL C H S xs ps ∧ vs = ps.map fun p => V.ref p.1
  | [], vs, _, r => by rw [Reps] at r; subst r; exact ⟨[], .nil, rfl⟩
  | x :: xs, vs, h, r => by
    rw [List.all_cons, Bool.and_eq_true] at h
    rw [Reps] at r
    obtain ⟨v, s, rfl, r1, r2⟩ := r
    obtain ⟨k, hk, hn⟩ := numTup_eq h.1
    obtain ⟨ps, p1, p2⟩ := keyL_of h.2 r2
    obtain ⟨_, _, ys, rfl⟩ := tupKey_eq hk
    have r1' := r1
    rw [Rep] at r1
    obtain ⟨a, ws, rfl, _, _⟩ := r1
    exact ⟨(a, k) :: ps, .cons hk hn r1' p1, by rw [p2]; rfl⟩
theorem KeyL.mem {C : Cfg} {H : Hp} {S : Addr → Prop} {xs : List D} {ps : List (Addr × NestedKey)} (h : KeyL C H S xs ps) : ∀ p ∈ ps, ∃ x ∈ xs, tupKey x = some p.2 ∧ ZS.numK p.2 = true ∧ Rep C H S x (.ref p.1) := by
  induction h with
  | nil => exact fun p hp => nomatch hp
  | @cons x xs a k ps h1 h2 h3 t ih =>
    intro p hp
    rcases List.mem_cons.mp hp with e | hp
    · rw [e]; exact ⟨x, List.mem_cons_self, h1, h2, h3⟩
    · obtain ⟨y, m, z⟩ := ih p hp
      exact ⟨y, List.mem_cons_of_mem _ m, z⟩
theorem KeyL.has {C : Cfg} {H : Hp} {S : Addr → Prop} {xs : List D} {ps : List (Addr × NestedKey)} (h : KeyL C H S xs ps) : ∀ x ∈ xs, ∃ p ∈ ps, tupKey x = some p.2 := by
  induction h with
  | nil => exact fun p hp => nomatch hp
  | @cons x xs a k ps h1 h2 h3 t ih =>
    intro y hy
    rcases List.mem_cons.mp hy with e | hy
    · rw [e]; exact ⟨_, List.mem_cons_self, h1⟩
    · obtain ⟨p, m, z⟩ := ih y hy
      exact ⟨p, List.mem_cons_of_mem _ m, z⟩
theorem KeyL.length {C : Cfg} {H : Hp} {S : Addr → Prop} {xs : List D} {ps : List (Addr × NestedKey)} (h : KeyL C H S xs ps) : xs.length = ps.length := by
  induction h with
  | nil => rfl
  | cons _ _ _ _ ih => rw [List.length_cons, List.length_cons, ih]
theorem tupKey_inj {x y : D} {k : NestedKey} (h : tupKey x = some k) (h' : tupKey y = some k) : x = y := nkey_inj x y k (tupKey_eq h).1 (tupKey_eq h').1
/-- what the members of the set are -/
theorem data_of {C : Cfg} {H : Hp} {S : Addr → Prop} {xs : List D} {ps : List (Addr × NestedKey)} (h : KeyL C H S xs ps) : ∀ L : List (Addr × NestedKey), (∀ p ∈ L, p ∈ ps) → ∃ ds : List D, (∀ d ∈ ds, d ∈ xs) ∧ EachIs (RV C H S) (L.map fun p => Value.ref p.1) ds ∧ EachIs (fun (p : Addr × NestedKey) d => tupKey d = some p.2) L ds
  | [], _ => ⟨[], fun d hd => (nomatch hd), .nil, .nil⟩
  | p :: L, hL => by
    obtain ⟨x, m, h1, h2, h3⟩ := h.mem p (hL p List.mem_cons_self)
    obtain ⟨ds, g1, g2, g3⟩ := data_of h L fun q hq => hL q (List.mem_cons_of_mem _ hq)
    refine ⟨x :: ds, fun d hd => ?_, .cons ⟨.ref p.1, rfl, h3⟩ g2, .cons h1 g3⟩
    rcases List.mem_cons.mp hd with e | hd
    · rw [e]; exact m
    · exact g1 d hd
theorem each_nodup {L : List (Addr × NestedKey)} {ds : List D} (h : EachIs (fun (p : Addr × NestedKey) d => tupKey d = some p.2) L ds) (nd : (L.map (·.2)).Nodup) : ds.Nodup := by
  induction h with
  | nil => exact List.nodup_nil
  | @cons p d L ds h t ih =>
    rw [List.map_cons, List.nodup_cons] at nd
    rw [List.nodup_cons]
    refine ⟨fun m => nd.1 ?_, ih nd.2⟩
    clear ih nd
    induction t with
    | nil => cases m
    | @cons q e L ds h' t ih =>
      rcases List.mem_cons.mp m with z | z
      · subst z
        rw [h] at h'
        rw [List.map_cons, ← Option.some.inj h']
        exact List.mem_cons_self
      · exact List.mem_cons_of_mem _ (ih z)
theorem each_has {L : List (Addr × NestedKey)} {ds : List D} (h : EachIs (fun (p : Addr × NestedKey) d => tupKey d = some p.2) L ds) {x : D} {k : NestedKey} (hx : tupKey x = some k) (hk : k ∈ L.map (·.2)) : x ∈ ds := by
  induction h with
  | nil => cases hk
  | @cons p d L ds h t ih =>
    rw [List.map_cons] at hk
    rcases List.mem_cons.mp hk with e | hk
    · subst e
      rw [tupKey_inj hx h]
      exact List.mem_cons_self
    · exact List.mem_cons_of_mem _ (ih hk)
end
def gSortedSet : D → Option R
  | .lst xs => if xs.all numTup = true ∧ xs.length < 64 ∧ sortOk (dedupD xs) = true then some (.fr (.lst (sortD (dedupD xs)))) else none
  | _ => none
theorem sortOk_perm {xs ys : List D} (p : ys.Perm xs) (h : sortOk xs = true) : sortOk ys = true := by
  obtain ⟨h1, h2, h3, h4⟩ := sortOk_split h
  unfold sortOk
  simp only [Bool.and_eq_true, Bool.or_eq_true, decide_eq_true_eq]
  refine ⟨⟨⟨List.all_eq_true.mpr fun x hx => List.all_eq_true.mp h1 x (p.mem_iff.mp hx), ?_⟩, ?_⟩, by rw [p.length_eq]; exact h4⟩
  · unfold alikeD
    exact List.all_eq_true.mpr fun x hx => List.all_eq_true.mpr fun y hy => alike_of h2 (p.mem_iff.mp hx) (p.mem_iff.mp hy)
  · rcases h3 with h3 | h3
    · exact .inl (List.all_eq_true.mpr fun x hx => List.all_eq_true.mp h3 x (p.mem_iff.mp hx))
    · exact .inr (List.all_eq_true.mpr fun x hx => List.all_eq_true.mp h3 x (p.mem_iff.mp hx))
theorem sortD_perm_eq {xs ys : List D} (p : ys.Perm xs) (h : sortOk xs = true) : sortD ys = sortD xs := by
  obtain ⟨h1, h2, _, _⟩ := sortOk_split h
  exact sort_unique h1 h2 ((sortD_perm ys).trans p) (sortD_sorted ys)
/-- what a set has got from the first i items -/
def NInv (P : Program) (w : World) (a : Addr) (ps : List (Addr × NestedKey)) (i : Nat) (h : Heap) : Prop := ∃ L es ep t, ZS.SetN P w h a L es ep t ∧ (∀ p ∈ L, p ∈ ps.take i) ∧ (∀ p ∈ ps.take i, p.2 ∈ L.map (·.2)) ∧ L.length ≤ i
theorem take_snoc {α : Type} {l : List α} {i : Nat} {x : α} (h : l[i]? = some x) : l.take (i + 1) = l.take i ++ [x] := by
  rw [List.take_succ, h] <;> rfl
section
variable {X : Cx} {a : Expr} {ea : EV} {p p2 q pos : Pos}
/-- set(xs) of tuples of whole numbers, then what follows -/
theorem set_tuples (hc : X.calm = true) (hu : X.A.units + 64 < cLine) {pins : List (Addr × Obj)} {σ : St} {H : Hp} {s : Shared} {S : Addr → Prop} (I : Inv X pins σ H s) {l : Addr} {vs : List V} {xs : List D} (hl : HL H l vs) (hr : Reps (cfg X) H S xs vs) (hn : xs.all numTup = true) (h64 : xs.length < 64) {Q : Value → Shared → Prop} {E : Value → Shared → Prop} {A : Around} (hA : A.handled = none) (hAu : A.units ≤ X.A.units + 8)
    (h : ∀ (h' : Heap) (tk : Nat) ps L es ep t, KeyL (cfg X) H S xs ps → Inv X pins σ H { s with heap := h', toks := tk } → ZS.SetN X.prog X.w h' s.heap.objs.size L es ep t → (∀ p ∈ L, p ∈ ps) → (∀ p ∈ ps, p.2 ∈ L.map (·.2)) → Q (.ref s.heap.objs.size) { s with heap := h', toks := tk }) :
    wpAny (model X.prog X.w) A (call (.type "set") [.ref l]) Q E s := by
  obtain ⟨ps, kl, ev⟩ := keyL_of hn hr
  obtain ⟨its, rv, pl, hz⟩ := I.list hl.sql
  have hits : its = ps.map fun p => Value.ref p.1 := by
    subst ev
    clear kl
    have : ∀ (ps : List (Addr × NestedKey)) (its : List Value), Vals (ps.map fun p => V.ref p.1) its → its = ps.map fun p => Value.ref p.1 := by
      intro ps
      induction ps with
      | nil => intro its r; cases r; rfl
      | cons p ps ih =>
        intro its r
        cases r with
        | cons r1 r2 =>
          cases r1
          rw [ih _ r2]; rfl
    exact this ps its rv
  have hlen := kl.length
  have isn : ∀ (h' : Heap), (∀ b o, s.heap.get? b = some o → h'.get? b = some o) → ∀ p ∈ ps, ZS.IsN X.prog X.w h' p.2 p.1 := fun h' hk p hp => by
    obtain ⟨x, _, h1, h2, h3⟩ := kl.mem p hp
    have I' : Inv X pins σ H { s with heap := h' } := I.kept (t' := s.toks) hk
    exact ⟨key_is I' h1 h3, h2⟩
  refine ZS.call_set_with hA pl.isList (NInv X.prog X.w s.heap.objs.size ps) (fun h' e => ?_) (fun i h1 h2 hI hS k1 k2 => ?_) (fun i v s' E Q hi hv hI hk hQ => ?_) fun h' tk hI hk => ?_
  · refine ⟨[], #[], 0, .fresh 0 0 (!X.w.params.followText "set-order"), ⟨⟨_, e, ⟨rfl, rfl, rfl⟩, rfl⟩, rfl, ⟨List.Pairwise.nil, rfl, rfl, .inl rfl, fun x hx => (by cases hx), fun i h j hi => (by simp [ZS.hashes] at hi)⟩, List.nodup_nil, fun p hp => (nomatch hp), rfl, ?_, ?_, ?_⟩, fun p hp => (nomatch hp), fun p hp => (by simp at hp), Nat.le_refl _⟩
    · show _ ∨ (!X.w.params.followText "set-order") = true
      cases X.w.params.followText "set-order"
      · exact .inr rfl
      · exact .inl rfl
    · show 0 * 5 < 7 * 3
      decide
    · show 0 < 64
      decide
  · obtain ⟨L, es, ep, t, R, g1, g2, g3⟩ := hI
    obtain ⟨o, ho, r⟩ := R.ob
    exact ⟨L, es, ep, t, ⟨⟨o, hS o ho, r⟩, R.rows, R.tab, R.nd, fun p hp => isn _ k2 p (List.mem_of_mem_take (g1 p hp)), R.plain, R.led, R.room, R.few⟩, g1, g2, g3⟩
  · obtain ⟨L, es, ep, t, R, g1, g2, g3⟩ := hI
    rw [List.size_toArray] at hi
    have hv2 : its[i]? = some v := by simpa using hv
    rw [hits, List.getElem?_map] at hv2
    cases hp : ps[i]? with
    | none => rw [hp] at hv2; cases hv2
    | some p =>
      rw [hp] at hv2
      cases hv2
      have hx := isn _ hk p (List.mem_of_getElem? hp)
      have hroom : (nestedKind X.prog X.w).room A.in1.in1.in1 := by
        show A.units + 1 + 1 + 1 + 8 < cLine
        omega
      have hll : its.length = ps.length := by rw [hits, List.length_map]
      unfold setAdd
      refine wpAny_holding ?_
      refine wpAny_bind ((nestedKind X.prog X.w).pyHash hroom hx.1 ?_)
      refine ZS.adds (s := { s' with toks := s'.toks + (nestedKind X.prog X.w).draws p.2 }) R hx hroom (by omega) fun b h' L' es' ep' t' hsb R2 c1 c2 => ?_
      refine hQ b h' _ hsb ?_ (Nat.le_add_right _ _)
      refine ⟨L', es', ep', t', R2, ?_⟩
      rw [take_snoc hp]
      rcases Classical.em (p.2 ∈ L.map (·.2)) with c | c
      · rw [c1 c]
        refine ⟨fun y hy => List.mem_append_left _ (g1 y hy), fun y hy => ?_, Nat.le_succ_of_le g3⟩
        rcases List.mem_append.mp hy with z | z
        · exact g2 y z
        · rw [List.mem_singleton.mp z]; exact c
      · have pm := c2 c
        refine ⟨fun y hy => ?_, fun y hy => ?_, ?_⟩
        · rcases List.mem_cons.mp (pm.mem_iff.mp hy) with e | z
          · rw [e]; exact List.mem_append_right _ (List.mem_singleton.mpr rfl)
          · exact List.mem_append_left _ (g1 y z)
        · rw [(pm.map (·.2)).mem_iff, List.map_cons]
          rcases List.mem_append.mp hy with z | z
          · exact List.mem_cons_of_mem _ (g2 y z)
          · rw [List.mem_singleton.mp z]; exact List.mem_cons_self
        · rw [pm.length_eq, List.length_cons]; exact Nat.succ_le_succ g3
  · obtain ⟨L, es, ep, t, R, g1, g2, g3⟩ := hI
    have e1 : its.toArray.size = ps.length := by rw [List.size_toArray, hits, List.length_map]
    rw [e1, List.take_length] at g1 g2
    exact h h' tk ps L es ep t kl (I.kept hk) R g1 g2
/-- sorted(set(xs)) -/
theorem pe_sortedSet {ta : TE} (hc : X.calm = true) (hu : X.A.units + 64 < cLine) (hg : Gl X "sorted") (hm : X.mg "sorted" = none) (hg2 : Gl X "set") (hm2 : X.mg "set" = none) (ha : PE X a ta) (na : starEach [a] X.env = (false, eval a X.env) :: starEach [] X.env := by rfl)
    (na2 : starEach [.Call (.Name "set" p2) [a] [] q] X.env = (false, eval (.Call (.Name "set" p2) [a] [] q) X.env) :: starEach [] X.env := by rfl) :
    PE X (.Call (.Name "sorted" p) [.Call (.Name "set" p2) [a] [] q] [] pos) (fun σ H Q => ta σ H fun x H1 => rG1 (cfg X) gSortedSet x H1 Q) := by
  refine ⟨fun pins s σ H Q I h => ?_⟩
  refine Call_ (ld_blt I hg hm boot_sorted ?_)
  refine PyProof.Rows.callWith_builtin1 (PyProof.Rows.args_cons ?_ na2) na2 rfl
  refine Call_ (ld_blt I hg2 hm2 boot_set ?_)
  refine PyProof.Rows.callWith_type1 (PyProof.Rows.args_cons (thn (ha.run pins s σ H _ I h) fun v s1 ⟨x, H1, I1, r1, S, dx, r, ok, px, e, k⟩ => PyProof.Rows.args_nil ?_) na) na rfl
  unfold gSortedSet at e
  split at e
  · rename_i xs
    split at e
    · rename_i hz
      obtain ⟨hz1, hz2, hz3⟩ := hz
      cases e
      obtain ⟨l, vs, rfl, hl, hr⟩ := px.lst
      cases r1
      refine set_tuples hc hu I1 hl hr hz1 hz2 (I1.ok.hd hc) (by omega) fun h' tk ps L es ep t kl I2 R g1 g2 => ?_
      refine PyProof.Rows.args_nil ?_
      obtain ⟨ds, d1, d2, d3⟩ := data_of kl L g1
      have pd : ds.Perm (dedupD xs) := by
        refine (List.perm_ext_iff_of_nodup (each_nodup d3 R.nd) (dedup_nodup xs)).mpr fun x => ?_
        rw [mem_dedup]
        refine ⟨d1 x, fun hx => ?_⟩
        obtain ⟨pp, m, hk⟩ := kl.has x hx
        exact each_has d3 hk (g2 pp m)
      obtain ⟨o, ho, hex, hd⟩ := R.ob
      have hes : es.toList.map (·.2) = L.map fun q => Value.ref q.1 := by
        rw [R.rows]
        unfold ZS.rows
        rw [List.map_map] <;> rfl
      refine Calls.call_function_entry kind_sorted plain_sorted entry_sorted (args_sorted1 _) ?_
      unfold Builtin.«sorted»
      refine wpAny_bind (m := checkCount "sorted" 1 1 _) (wpAny_pure ?_)
      have hsz := ZS.rows_len R.rows
      have hfew := R.few
      refine wpAny_bind (collect_set (A := X.A.in1) (s := { s1 with heap := h', toks := tk }) (I1.ok.hd hc) ⟨o, ho, hex.1, hd⟩ (ZS.SetN.fits (s := { s1 with heap := h', toks := tk }) R) (by unfold scanBound; omega) R.tab.ris R.led fun s2 us k1 hz g1 o1 pm => ?_)
      rw [hes] at pm
      -- the values in the order met
      obtain ⟨ds2, e2, pd2⟩ : ∃ ds2, EachIs (RV (cfg X) H1 S) us ds2 ∧ ds2.Perm ds := by
        clear hes k1 hz g1 o1
        have key : ∀ {us ws : List Value}, us.Perm ws → ∀ {ds : List D}, EachIs (RV (cfg X) H1 S) ws ds → ∃ ds2, EachIs (RV (cfg X) H1 S) us ds2 ∧ ds2.Perm ds := by
          intro us ws pm
          induction pm with
          | nil => intro ds h; exact ⟨ds, h, .refl _⟩
          | cons x _ ih =>
            intro ds h
            cases h with
            | cons h t =>
              obtain ⟨ds2, i1, i2⟩ := ih t
              exact ⟨_, .cons h i1, i2.cons _⟩
          | swap x y l =>
            intro ds h
            cases h with
            | cons h t =>
              cases t with
              | cons h2 t => exact ⟨_, .cons h2 (.cons h t), .swap _ _ _⟩
          | trans _ _ ih1 ih2 =>
            intro ds h
            obtain ⟨d2, a1, a2⟩ := ih2 h
            obtain ⟨d3, b1, b2⟩ := ih1 a1
            exact ⟨d3, b1, b2.trans a2⟩
        exact key pm d2
      have ok2 : sortOk ds2 = true := sortOk_perm (pd2.trans pd) hz3
      have I3 : Inv X pins σ H1 s2 := by
        exact I2.call' (ch := []) o1 (Un.kept k1) (I2.hok.kept k1) (by rw [g1]; exact I2.bare) (fun _ z => nomatch z)
      have hul : us.length ≤ sizeLine := by rw [pm.length_eq, List.length_map, sizeLine_eq]; omega
      refine wpAny_bind (wpAny_newList ?_ hul)
      refine wpAny_bind (wpAny_holding (sort_call (A := X.A.in1) (by show X.A.units + 1 ≤ _; omega) hu I3 e2 ok2 fun h2 ws n r' I4 => ?_))
      rw [sortD_perm_eq (pd2.trans pd) hz3] at r'
      exact wpAny_pure ⟨_, rfl, .ref _, _, I4, rfl, resLst ok k r' _ n⟩
    · cases e
  · cases e
theorem sim_sortedSet (hc : X.calm = true) (hu : X.A.units + 64 < cLine) (hg : Gl X "sorted") (hm : X.mg "sorted" = none) (hg2 : Gl X "set") (hm2 : X.mg "set" = none) (ha : SimE X a ea) (na : starEach [a] X.env = (false, eval a X.env) :: starEach [] X.env := by rfl)
    (na2 : starEach [.Call (.Name "set" p2) [a] [] q] X.env = (false, eval (.Call (.Name "set" p2) [a] [] q) X.env) :: starEach [] X.env := by rfl) :
    SimE X (.Call (.Name "sorted" p) [.Call (.Name "set" p2) [a] [] q] [] pos) (ev1 gSortedSet ea) := (pe_sortedSet hc hu hg hm hg2 hm2 ha na na2).weak fun _ _ _ h => weak1 h
end

/-! ### len(set(xs)), whole numbers and texts -/
def keysD : List D → Option (List Key)
  | [] => some []
  | d :: ds => match dkey d, keysD ds with
    | some k, some ks => some (k :: ks)
    | _, _ => none
theorem keysD_eq : ∀ {ds : List D} {ks : List Key}, keysD ds = some ks → ds = ks.map keyD
  | [], ks, h => by cases h; rfl
  | d :: ds, ks, h => by
    simp only [keysD] at h
    split at h
    · rename_i k ks' h1 h2
      cases h
      rw [dkey_eq h1, keysD_eq h2]; rfl
    · cases h
@[simp] theorem keysD_map : ∀ ks : List Key, keysD (ks.map keyD) = some ks
  | [] => rfl
  | k :: ks => by rw [List.map_cons, keysD, dkey_keyD, keysD_map ks]
def gLenSet : D → Option R
  | .lst xs => if (keysD xs).isSome = true ∧ xs.length ≤ 1000 then some (.d (.int (dedupD xs).length)) else none
  | _ => none
theorem scan_key {k : Key} {u : Value} (h : keyIs k u = true) : u.scannable = true := by
  rcases keyIs_shape h with ⟨i, t, rfl, rfl⟩ | ⟨x, t, rfl, rfl⟩ <;> rfl
theorem key_rel {k : Key} {u : Value} (h : RelV (kV k) u) : keyIs k u = true := by
  cases k with
  | inl i => obtain ⟨t, rfl⟩ := h; show Value.isInt i (.int i t) = true; simp [Value.isInt]
  | inr x => obtain ⟨t, rfl⟩ := h; show Value.isStrOf x (.str x t) = true; simp [Value.isStrOf]
theorem setOfK {P : Program} {w : World} {h : Heap} {a : Addr} {S S' : Key → Bool} {n n' : Nat} (x : h.SetOf (mixKind P w) a S n) (e : ∀ k, S k = S' k) (en : n = n') : h.SetOf (mixKind P w) a S' n' := by
  have : S = S' := funext e
  subst this; subst en
  exact x
theorem freshK {P : Program} {w : World} {h : Heap} {a : Addr} {led : Bool} (e : h.get? a = some { cls := .type "set", dict := none, data := .set #[] 0 (.fresh 0 0 led) }) : h.SetOf (mixKind P w) a (fun _ => false) 0 := by
  letI b : BEq Key := instBEqOfDecidableEq
  exact (PyProof.Rows.setObjOf_fresh led).setOf e (by unfold scanBound; omega)
theorem each_at {α β : Type} {R : α → β → Prop} {us : List α} {bs : List β} (h : PySem.W.EachIs R us bs) : ∀ (i : Nat) (u : α), us[i]? = some u → ∃ d, d ∈ bs ∧ R u d := by
  induction h with
  | nil => intro i u e; simp at e
  | cons h t ih =>
    intro i u e
    cases i with
    | zero => simp at e; subst e; exact ⟨_, List.mem_cons_self, h⟩
    | succ i =>
      obtain ⟨d, m, r⟩ := ih i u (by simpa using e)
      exact ⟨d, List.mem_cons_of_mem _ m, r⟩
theorem dedup_map (ks : List Key) (k : Key) : (dedupD (ks.map keyD)).contains (keyD k) = ks.any fun k' => decide (k' = k) := by
  rw [Bool.eq_iff_iff, List.contains_iff_mem, mem_dedup, List.any_eq_true]
  constructor
  · intro h
    obtain ⟨k', m, e⟩ := List.mem_map.mp h
    exact ⟨k', m, by rw [keyD_inj e]; simp⟩
  · rintro ⟨k', m, e⟩
    rw [← of_decide_eq_true e]
    exact List.mem_map_of_mem m
def FInv (P : Program) (w : World) (a : Addr) (ks : List Key) (i : Nat) (h : Heap) : Prop := h.SetOf (mixKind P w) a (fun k => (ks.take i).any fun k' => decide (k' = k)) (dedupD ((ks.take i).map keyD)).length
section
variable {X : Cx} {a : Expr} {ea : EV} {p p2 q pos : Pos}
theorem vals_flat {C : Cfg} {H : Hp} {S : Addr → Prop} : ∀ {ks : List Key} {vs : List V} {us : List Value}, Reps C H S (ks.map keyD) vs → Vals vs us → ∀ (i : Nat) (u : Value), us[i]? = some u → ∃ k, ks[i]? = some k ∧ keyIs k u = true
  | [], vs, us, r, h => by
    rw [List.map_nil, Reps] at r
    subst r
    cases h
    intro i u e
    simp at e
  | k :: ks, vs, us, r, h => by
    rw [List.map_cons, Reps] at r
    obtain ⟨v, s, rfl, r1, r2⟩ := r
    cases h with
    | cons h1 h2 =>
      intro i u e
      cases i with
      | zero =>
        simp at e
        subst e
        refine ⟨k, rfl, key_rel ?_⟩
        have ev := dkey_rep (dkey_keyD k) (PRep.of r1)
        rw [← ev]
        exact h1
      | succ i =>
        obtain ⟨k', e1, e2⟩ := vals_flat r2 h2 i u (by simpa using e)
        exact ⟨k', by simpa using e1, e2⟩
theorem pe_lenSetF {ta : TE} (hc : X.calm = true) (hg : Gl X "len") (hm : X.mg "len" = none) (hg2 : Gl X "set") (hm2 : X.mg "set" = none) (ha : PE X a ta) (na : starEach [a] X.env = (false, eval a X.env) :: starEach [] X.env := by rfl)
    (na2 : starEach [.Call (.Name "set" p2) [a] [] q] X.env = (false, eval (.Call (.Name "set" p2) [a] [] q) X.env) :: starEach [] X.env := by rfl) :
    PE X (.Call (.Name "len" p) [.Call (.Name "set" p2) [a] [] q] [] pos) (fun σ H Q => ta σ H fun x H1 => rG1 (cfg X) gLenSet x H1 Q) := by
  refine ⟨fun pins s σ H Q I h => ?_⟩
  refine Call_ (ld_blt I hg hm boot_len ?_)
  refine PyProof.Rows.callWith_builtin1 (PyProof.Rows.args_cons ?_ na2) na2 rfl
  refine Call_ (ld_blt I hg2 hm2 boot_set ?_)
  refine PyProof.Rows.callWith_type1 (PyProof.Rows.args_cons (thn (ha.run pins s σ H _ I h) fun v s1 ⟨x, H1, I1, r1, S, dx, r, ok, px, e, k⟩ => PyProof.Rows.args_nil ?_) na) na rfl
  unfold gLenSet at e
  split at e
  · rename_i xs
    split at e
    · rename_i hz
      obtain ⟨hz1, hz2⟩ := hz
      obtain ⟨ks, hks⟩ := Option.isSome_iff_exists.mp hz1
      cases e
      obtain ⟨l, vs, rfl, hl, hr⟩ := px.lst
      cases r1
      have exs := keysD_eq hks
      subst exs
      obtain ⟨its, rv, pl, _⟩ := I1.list hl.sql
      have hlen : its.length = ks.length := by rw [← rv.length, ← hr.length, List.length_map]
      rw [List.length_map] at hz2
      have at' := vals_flat hr rv
      refine ZS.call_set_with (I1.ok.hd hc) pl.isList (FInv X.prog X.w s1.heap.objs.size ks) (fun h' e => ?_) (fun i h1 h2 hI hS k1 k2 => ?_) (fun i v s' E Q hi hv hI hk hQ => ?_) fun h' tk hI hk => ?_
      · exact setOfK (freshK e) (fun _ => rfl) rfl
      · obtain ⟨o, es, ep, t, ho, rest⟩ := hI
        exact ⟨o, es, ep, t, hS o ho, rest⟩
      · rw [List.size_toArray] at hi
        have hv2 : its[i]? = some v := by simpa using hv
        obtain ⟨kk, hkk, hik⟩ := at' i v hv2
        have hlt : (dedupD ((ks.take i).map keyD)).length + 1 < scanBound := by
          have h1 : (dedupD ((ks.take i).map keyD)).length ≤ ((ks.take i).map keyD).length := by
            have key : ∀ (xs acc : List D), (dedupFrom acc xs).length ≤ acc.length + xs.length := by
              intro xs
              induction xs with
              | nil => intro acc; simp [dedupFrom]
              | cons x xs ih =>
                intro acc
                rw [dedupFrom]
                refine Nat.le_trans (ih _) ?_
                split
                · rw [List.length_cons]; omega
                · rw [List.length_append, List.length_cons, List.length_cons, List.length_nil]; omega
            have := key ((ks.take i).map keyD) []
            simpa [dedupD] using this
          rw [List.length_map, List.length_take] at h1
          unfold scanBound
          omega
        unfold setAdd
        refine wpAny_holding ?_
        refine wpAny_bind ((mixKind X.prog X.w).pyHash (k := kk) hik ?_)
        refine wpAny_setAddHashed_of (knd := mixKind X.prog X.w) (s := { s' with toks := s'.toks + 1 }) hik (scan_key hik) hI hlt fun h' hsb hS2 => ?_
        refine hQ _ h' _ hsb ?_ (Nat.le_add_right _ _)
        unfold FInv
        have et := take_snoc hkk
        refine setOfK hS2 (fun k' => ?_) ?_
        · rw [et, List.any_append]
          show (_ || decide (k' = kk)) = (_ || (decide (kk = k') || false))
          rw [Bool.or_false]
          congr 1
          rw [Bool.eq_iff_iff, decide_eq_true_eq, decide_eq_true_eq]
          exact eq_comm
        · rw [et, List.map_append]
          show (if (ks.take i).any (fun k' => decide (k' = kk)) = true then _ else _) = (dedupFrom [] ((ks.take i).map keyD ++ [keyD kk])).length
          rw [dedupFrom_snoc]
          have := dedup_map (ks.take i) kk
          unfold dedupD at this
          rw [this]
          by_cases c : (ks.take i).any (fun k' => decide (k' = kk)) = true
          · rw [if_pos c, if_pos c]; rfl
          · rw [if_neg c, if_neg c, List.length_append]; rfl
      · have hI' := hI
        unfold FInv at hI'
        have e1 : its.toArray.size = ks.length := by rw [List.size_toArray, hlen]
        rw [e1, List.take_length] at hI'
        obtain ⟨o, es, ep, t, ho, hex, hd, _, _, hb, hf, hn⟩ := hI'
        refine PyProof.Rows.args_nil ?_
        have I2 : Inv X pins σ H1 { s1 with heap := h', toks := tk } := I1.kept hk
        refine call_len_set ho hex hd hf ?_ ⟨.int (dedupD (ks.map keyD)).length, H1, I2.tok _, ⟨_, by rw [hn]⟩, resD k .mkInt⟩
        have : scanBound ≤ 2 ^ 62 := by unfold scanBound; omega
        omega
    · cases e
  · cases e
theorem sim_lenSet (hc : X.calm = true) (hg : Gl X "len") (hm : X.mg "len" = none) (hg2 : Gl X "set") (hm2 : X.mg "set" = none) (ha : SimE X a ea) (na : starEach [a] X.env = (false, eval a X.env) :: starEach [] X.env := by rfl)
    (na2 : starEach [.Call (.Name "set" p2) [a] [] q] X.env = (false, eval (.Call (.Name "set" p2) [a] [] q) X.env) :: starEach [] X.env := by rfl) :
    SimE X (.Call (.Name "len" p) [.Call (.Name "set" p2) [a] [] q] [] pos) (ev1 gLenSet ea) := (pe_lenSetF hc hg hm hg2 hm2 ha na na2).weak fun _ _ _ h => weak1 h
end

/-! ### min of a list of data -/
def dltD (a b : D) : Bool := PySem.W.dataLt (toP a) (toP b)
def minDD (x : D) (xs : List D) : D := xs.foldl (fun a y => if dltD y a then y else a) x
def gMinD : D → Option R
  | .lst (x :: xs) => if sortOk (x :: xs) = true ∧ (x :: xs).all noTup = true then some (.d (minDD x xs)) else none
  | _ => none
theorem minDD_toP : ∀ (xs : List D) (x : D), PySem.W.minD (toP x) (toPs xs) = toP (minDD x xs)
  | [], x => rfl
  | y :: xs, x => by
    have := minDD_toP xs (if dltD y x then y else x)
    unfold PySem.W.minD minDD at this ⊢
    rw [toPs, List.foldl_cons, List.foldl_cons, ← this]
    congr 1
    unfold dltD
    split <;> rfl
theorem minDD_mem : ∀ (xs : List D) (x : D), minDD x xs ∈ x :: xs
  | [], x => List.mem_cons_self
  | y :: xs, x => by
    have := minDD_mem xs (if dltD y x then y else x)
    unfold minDD at this ⊢
    rw [List.foldl_cons]
    rcases List.mem_cons.mp this with e | e
    · rw [e]
      split
      · exact List.mem_cons_of_mem _ List.mem_cons_self
      · exact List.mem_cons_self
    · exact List.mem_cons_of_mem _ (List.mem_cons_of_mem _ e)
section
variable {X : Cx}
theorem crg_minD (hc : X.calm = true) (hu : X.A.units + 64 < cLine) : CallR X (.builtin "min") (rC1 (cfg X) gMinD) := by
  intro pins s σ H xs us Q I rx h
  obtain ⟨v, rfl, S, dx, r, ok, px, e, k⟩ := h
  unfold gMinD at e
  split at e
  · rename_i x xs
    split at e
    · rename_i hz
      cases e
      obtain ⟨h1, h2, h3, h4⟩ := sortOk_split hz.1
      obtain ⟨a, vs, rfl, q, rr⟩ := px.lst
      obtain ⟨its, rv, hl, hz'⟩ := I.list q.sql
      rw [Vals.ref1 rx]
      obtain ⟨as, hr⟩ := Dp.readsAll I _ _ _ (dps_of (S := S) 50 (x :: xs) vs h1 rr) rv
      have hal : PySem.W.AlikeAll (toPs (x :: xs)) := by
        rw [toPs_map]
        refine ⟨fun d hd d' hd' => allAlike_of h2 d hd d' hd', fun d hd => ?_⟩
        obtain ⟨b, hb, rfl⟩ := List.mem_map.mp hd
        have := List.all_eq_true.mp hz.2 b hb
        cases b <;> simp [noTup, toP] at this ⊢
      have hdep := (okE_lays 50 (x :: xs) h1).2
      rw [toPs] at hr hal hdep
      refine PySem.W.min_list_data (I.ok.hd hc) hl.isList (by simpa using hr) hal (by omega) fun i u h' tk bs hi hrd hk => ?_
      have I' : Inv X pins σ H { s with heap := h', toks := tk } := I.kept hk
      have hi2 : its[i]? = some u := by simpa using hi
      obtain ⟨d, hd, w, rw', rp⟩ := each_at (each_rv rv rr) i u hi2
      have okd := List.all_eq_true.mp h1 d hd
      obtain ⟨bs', rd⟩ := Dp.reads I' _ w u (dp_of (S := S) 50 d w okd rp) rw'
      have hm := minDD_mem xs x
      rw [minDD_toP] at hrd
      have ed := PySem.W.alike_unique _ _ _ _ _ (alike_of h2 hd hm) rd hrd
      have ed := toP_inj okd (List.all_eq_true.mp h1 _ hm) ed
      subst ed
      exact ⟨w, H, I', rw', resD k rp⟩
    · cases e
  · cases e
end
end Z
/-! Z19: lists and tuples walked alike; globals; a call that changes a list which nobody else holds. -/
namespace Z
open PySem PySem.Spec L2
open PyProof.Rows hiding St

/-! ### a list or a tuple is walked -/
def ivSeq (ev : EV) : IV := fun A => match ev A with
  | some (r, A1) => match mv A1 r with
    | some (.lst xs, A2) => some (xs, A2)
    | some (.tup xs, A2) => some (xs, A2)
    | _ => none
  | none => none
section
variable {X : Cx} {tg e : Expr} {te : TE} {ev : EV}
theorem pi_seq (hl : PE X e te) : PI X tg e (fun σ H R => te σ H fun x H1 => ∃ a, x = .ref a ∧ (((∃ xs, SqL X.K H1 a xs) ∧ R (Itl X.K a) H1) ∨ ((∃ xs, SqT X.K H1 a xs) ∧ R (Itt X.K a) H1))) := by
  refine ⟨fun pins s σ H R I h => ?_⟩
  refine thn (hl.run pins s σ H _ I h) fun v s1 ⟨x, H1, I1, r1, q1⟩ => ?_
  obtain ⟨a, e, q⟩ := q1
  subst e
  cases r1
  have fp : ∀ b ∈ [s1.heap.objs.size], FpOk X pins H1 b := fun b hb => by
    have e : b = s1.heap.objs.size := by simpa using hb
    subst e
    exact I1.fpOk (Nat.le_refl _) (I1.hok.fresh (Nat.le_refl _))
  rcases q with ⟨⟨xs, hq⟩, q⟩ | ⟨⟨xs, hq⟩, q⟩
  · obtain ⟨its, rv, p, hz⟩ := I1.list hq
    refine wpAny_pyIter_list p.isList ?_
    exact ⟨s1.heap.objs.size, [s1.heap.objs.size], _, _, H1, rfl, I1.kept (t' := s1.toks) fun b o e => Heap.get?_push_of_some _ e, turn_list a _, ⟨_, Heap.get?_push_size _ rfl, rfl, rfl⟩, fp, q⟩
  · obtain ⟨its, rv, p, hz⟩ := I1.tuple hq
    refine wpAny_pyIter_tuple (show s1.heap.IsTuple a its.toArray from p) ?_
    exact ⟨s1.heap.objs.size, [s1.heap.objs.size], _, _, H1, rfl, I1.kept (t' := s1.toks) fun b o e => Heap.get?_push_of_some _ e, turn_tuple a _, ⟨_, Heap.get?_push_size _ rfl, rfl, rfl⟩, fp, q⟩
theorem simI_seq (h : SimE X e ev) : SimI X tg e (ivSeq ev) := (pi_seq h).weak fun σ H Q h => by
  obtain ⟨G, Fb, A, xs, A', hG, rel, he, q⟩ := h
  unfold ivSeq at he
  split at he
  · rename_i r A1 e1
    split at he
    · rename_i ys A2 e2
      cases he
      refine ⟨G, Fb, A, r, A1, hG, rel, e1, fun v H1 Fb1 p1 h1 f1 => ?_⟩
      obtain ⟨r2, rx, st⟩ := h1.mv p1.rel p1.sub f1 e2
      rw [hG] at rx
      rw [Rep] at rx
      obtain ⟨a, vs, rfl, n, hd, rs⟩ := rx
      exact ⟨a, rfl, .inl ⟨⟨vs, hd.sql⟩, q _ _ _ (p1.then r2 st) itOk_list ⟨vs, n, hd, rs⟩⟩⟩
    · rename_i ys A2 e2
      cases he
      refine ⟨G, Fb, A, r, A1, hG, rel, e1, fun v H1 Fb1 p1 h1 f1 => ?_⟩
      obtain ⟨r2, rx, st⟩ := h1.mv p1.rel p1.sub f1 e2
      rw [hG] at rx
      rw [Rep] at rx
      obtain ⟨a, vs, rfl, hd, rs⟩ := rx
      exact ⟨a, rfl, .inr ⟨⟨vs, hd⟩, q _ _ _ (p1.then r2 st) itOk_tup ⟨vs, hd, rs⟩⟩⟩
    · cases he
  · cases he
/-- a text of the module -/
theorem sim_gstr {x y : Str} {pos : Pos} (hm : ∃ t, X.mg x = some (.str y t)) (hg : Gl X x := by rfl) (hd : (x == ("__debug__" : Str)) = false := by decide) : SimE X (.Name x pos) (evC (.str y)) := by
  obtain ⟨t, hm⟩ := hm
  exact sim_c (v := .str y) (pe_glob hg hm ⟨t, rfl⟩ hd) fun _ _ _ => by rw [Rep]
end

/-! ### f(e, ..): e a new list that f changes -/
def evCallFr (n : Nat) (g : EV) (dv : List D) (evs : EVs) : EV := fun A => match evs A with
  | some (.fr d0 :: rs, A1) => match mvs A1 rs with
    | some (xs, A2) => if (xs ++ dv).length + 1 = n then
        match g (.io d0 :: (xs ++ dv).map .val) with
        | some (.d x, .io _ :: _) => some (.d x, A2)
        | some (.fr x, .io _ :: _) => some (.fr x, A2)
        | _ => none
      else none
    | none => none
  | _ => none
section
variable {X : Cx} {e : Expr} {es : List Expr} {evs : EVs} {pos p apos : Pos} {k n : Nat} {f : Addr} {fd : FuncData} {ps : List Str} {g : EV} {dv : List D} {dvs : List V} {ds : List Value} {x : Str}
theorem callFr_weak {σ : St} {H : Hp} {Q : VK} (hdv : ∀ C H S, Reps C H S dv dvs) (h : tS (cfg X) (evCallFr n g dv evs) σ H Q) : tCall (spF (cfg X) n g) dvs E0 (tSA (cfg X) evs) σ H Q := by
  obtain ⟨G, Fb, A, r, A', hG, rel, he, q⟩ := h
  unfold evCallFr at he
  split at he
  · rename_i d0 rs A1 e1
    split at he
    · rename_i xs A2 e2
      split at he
      · rename_i hn
        refine ⟨G, Fb, A, .fr d0 :: rs, A1, hG, rel, e1, fun vs H1 Fb1 p1 h1 f1 => ?_⟩
        obtain ⟨v0, us, rfl, h10, h1⟩ := h1
        obtain ⟨v0', us', ee, f10, f1⟩ := f1
        cases ee
        obtain ⟨a0, rfl, fa0, ro0⟩ := h10
        obtain ⟨nf0, h00⟩ := f10 a0 rfl
        have na0 : H a0 = none := (p1.new a0 fa0).resolve_left nf0
        -- what is forbidden but for the rest's own new things
        have subA : ∀ a, AlsoR Fb (.fr d0) (.ref a0) a → Fb1 a := fun a s => by
          rcases s with s | ⟨_, s⟩
          · exact p1.sub a s
          · cases s; exact fa0
        obtain ⟨r2, q2, s2⟩ := h1.mv subA p1.rel f1 e2
        have r2' := r2.anti subA
        have q3 := q2.append (hdv G.toCfg H1 (Busy (AlsoR Fb (.fr d0) (.ref a0)) A2 σ))
        generalize hys : xs ++ dv = ys at he q3 hn
        have b0 : Busy (AlsoR Fb (.fr d0) (.ref a0)) A2 σ a0 := .inl (.inr ⟨⟨d0, rfl⟩, rfl⟩)
        have bA : ∀ b, Busy (AlsoR Fb (.fr d0) (.ref a0)) A2 σ b ↔ Busy Fb A2 σ b ∨ b = a0 := fun b => by
          constructor
          · rintro ((s | ⟨_, s⟩) | s)
            · exact .inl (.inl s)
            · cases s; exact .inr rfl
            · exact .inl (.inr s)
          · rintro ((s | s) | s)
            · exact .inl (.inl s)
            · exact .inr s
            · subst s; exact b0
        have ro0' : RepO G.toCfg H1 (Busy (AlsoR Fb (.fr d0) (.ref a0)) A2 σ) d0 a0 := ro0.anti p1.rel.busy fun b s => by
          rcases s with s | ⟨i, s⟩
          · exact .inl (subA b s)
          · exact .inr ⟨i, s2.own s⟩
        have beq : Busy (fun b => Busy (AlsoR Fb (.fr d0) (.ref a0)) A2 σ b ∧ b ≠ a0) (.io d0 :: ys.map .val) ((V.ref a0 :: (us ++ dvs)).map some) = Busy (AlsoR Fb (.fr d0) (.ref a0)) A2 σ := funext fun b => propext ⟨fun s => by
          rcases s with s | ⟨j, ⟨s, es, zs⟩, e5⟩
          · exact s.1
          · cases j with
            | zero =>
              simp at e5
              subst e5
              exact b0
            | succ j => exact absurd ⟨⟨s, by simpa using es, zs⟩, by simpa using e5⟩ (own_vals (xs := ys) (σ := (us ++ dvs).map some) (i := j) (a := b)), fun s => by
          by_cases z : b = a0
          · subst z
            exact .inr ⟨0, ⟨_, rfl, rfl⟩, rfl⟩
          · exact .inl ⟨s, z⟩⟩
        have zero : ∀ {j : Nat} {b : Addr}, OwnAt (.io d0 :: ys.map .val) ((V.ref a0 :: (us ++ dvs)).map some) j b → j = 0 := fun {j b} ⟨⟨s, es, zs⟩, e5⟩ => by
          cases j with
          | zero => rfl
          | succ j => exact absurd ⟨⟨s, by simpa using es, zs⟩, by simpa using e5⟩ (own_vals (xs := ys) (σ := (us ++ dvs).map some) (i := j) (a := b))
        have ra : RelSt ⟨G.toCfg, H1, [(0, a0)]⟩ (fun b => Busy (AlsoR Fb (.fr d0) (.ref a0)) A2 σ b ∧ b ≠ a0) (.io d0 :: ys.map .val) ((V.ref a0 :: (us ++ dvs)).map some) H1 := by
          refine ⟨by simp only [List.length_cons, List.length_map]; rw [q3.length], fun b s => r2'.busy b s.1, fun j d e => ?_, fun j d e => ?_, fun j d e => ?_, fun j k b o1 o2 => by rw [zero o1, zero o2], fun a o e _ => e, fun j b hi => ?_⟩
          · rw [beq]
            cases j with
            | zero => cases e
            | succ j =>
              have e : (ys.map SV.val)[j]? = some (.val d) := by simpa using e
              rw [List.getElem?_map] at e
              cases q : ys[j]? with
              | none => rw [q] at e; cases e
              | some x =>
                rw [q] at e
                cases e
                obtain ⟨v, ev, rv⟩ := q3.get q
                exact ⟨v, by simp only [List.map_cons, List.getElem?_cons_succ, List.getElem?_map, ev]; rfl, rv⟩
          · cases j with
            | zero => cases e
            | succ j =>
              have e : (ys.map SV.val)[j]? = some (.own d) := by simpa using e
              rw [List.getElem?_map] at e
              cases q : ys[j]? with
              | none => rw [q] at e; cases e
              | some x => rw [q] at e; cases e
          · cases j with
            | zero =>
              cases e
              refine ⟨a0, rfl, ?_, fun s => s.2 rfl, List.mem_singleton.mpr rfl⟩
              rw [beq]
              exact ro0'
            | succ j =>
              have e : (ys.map SV.val)[j]? = some (.io d) := by simpa using e
              rw [List.getElem?_map] at e
              cases q : ys[j]? with
              | none => rw [q] at e; cases e
              | some x => rw [q] at e; cases e
          · have := List.mem_singleton.mp hi
            cases this
            obtain ⟨o, eo, _⟩ := ro0.mut
            exact ⟨⟨d0, rfl⟩, rfl, by show H1 a0 ≠ none; rw [eo]; exact fun z => nomatch z⟩
        have hlen : (V.ref a0 :: (us ++ dvs)).length = n := by rw [List.length_cons, ← q3.length]; exact hn
        have p2 := p1.then r2 s2
        have main : ∀ r' d' as2, g (.io d0 :: ys.map .val) = some (r', .io d' :: as2) → (∀ i, r' ≠ .sl i) → (∀ v H' Fb', Post G Fb Fb' A A2 σ H H' → HV G Fb' A2 σ H' r' v → FrOk G Fb r' v → Q v H') → spF (cfg X) n g (V.ref a0 :: us ++ dvs) H1 Q E0 := by
          intro r' d' as2 eg nsl qq
          refine ⟨hlen, ⟨G.toCfg, H1, [(0, a0)]⟩, _, _, r', _, hG, rfl, ra, eg, fun v H' Fb' pc hc fc => ?_⟩
          have keep : ∀ b o, H1 b = some o → b ≠ a0 → H' b = some o := fun b o eb nb => pc.step.keep b o eb fun j w => by
            have := zero w
            subst this
            obtain ⟨_, e5⟩ := w
            simp at e5
            exact nb e5.symm
          have up : ∀ b, Busy (AlsoR Fb (.fr d0) (.ref a0)) A2 σ b → Busy Fb' (.io d' :: as2) ((V.ref a0 :: (us ++ dvs)).map some) b := fun b s => by
            by_cases z : b = a0
            · subst z
              exact .inr ⟨0, ⟨_, rfl, rfl⟩, rfl⟩
            · exact .inl (pc.sub b ⟨s, z⟩)
          -- the heap behind, for the caller: what stood ahead of the arguments is kept
          have na : ∀ b, Fb b → b ≠ a0 := fun b s z => nf0 (z ▸ s)
          have rel2 : RelSt G Fb A2 σ H1 := p2.rel
          have nO : ∀ i, ¬ OwnAt A2 σ i a0 := fun i o => by
            obtain ⟨_, _, _, nn⟩ := r2'.ownO o
            exact nn (.inr ⟨⟨d0, rfl⟩, rfl⟩)
          have cA : Carry H1 H' (Busy (AlsoR Fb (.fr d0) (.ref a0)) A2 σ) (Busy (AlsoR Fb (.fr d0) (.ref a0)) A2 σ) := ⟨r2'.busy, fun b o eb nb => keep b o eb fun z => nb (z ▸ b0), fun _ s => .inl s⟩
          have downA : ∀ b, Busy Fb A2 σ b → Busy (AlsoR Fb (.fr d0) (.ref a0)) A2 σ b := fun b s => (bA b).mpr (.inl s)
          have okA : SOk H' (Busy (AlsoR Fb (.fr d0) (.ref a0)) A2 σ) := fun b s => pc.rel.busy b (up b s)
          have relN : RelSt G Fb A2 σ H' := by
            refine ⟨rel2.len, fun b s => ?_, fun i y e => ?_, fun i y e => ?_, fun i y e => ?_, rel2.inj, fun b o eb nb => ?_, rel2.ios⟩
            · obtain ⟨o, e, m⟩ := rel2.fb b s
              exact ⟨o, keep b o e (na b s), m⟩
            · obtain ⟨v, e1, r⟩ := r2'.val i y e
              exact ⟨v, e1, (r.carry cA).anti okA downA⟩
            · obtain ⟨b, e1, r, nn, z⟩ := r2'.own i y e
              have nb : b ≠ a0 := fun z => nO i (z ▸ ⟨⟨_, e, rfl⟩, e1⟩)
              obtain ⟨_, e1', _, nn', z'⟩ := rel2.own i y e
              rw [e1] at e1'; cases e1'
              exact ⟨b, e1, (r.carry cA fun o eo => keep b o eo nb).anti okA downA, nn', z⟩
            · obtain ⟨b, e1, r, nn, z⟩ := r2'.ioo i y e
              have nb : b ≠ a0 := fun z => nO i (z ▸ ⟨⟨_, e, rfl⟩, e1⟩)
              obtain ⟨_, e1', _, nn', z'⟩ := rel2.ioo i y e
              rw [e1] at e1'; cases e1'
              exact ⟨b, e1, (r.carry cA fun o eo => keep b o eo nb).anti okA downA, nn', z⟩
            · refine keep b o (rel2.ent b o eb nb) fun z => ?_
              subst z
              rw [h00] at eb; cases eb
          have dom' : ∀ b, H1 b ≠ none → H' b ≠ none := pc.step.dom
          have stp : Step A A2 σ H H' := ⟨fun b o eb nb => keep b o (p2.step.keep b o eb nb) fun z => (by rw [z, na0] at eb; cases eb), p2.step.mono, fun b eb => dom' b (p2.step.dom b eb)⟩
          have pN : Post G Fb Fb A A2 σ H H' := ⟨fun _ s => s, fun _ s => .inl s, relN, stp⟩
          cases r' with
          | sl i => exact absurd rfl (nsl i)
          | d y => exact qq v H' Fb pN (Rep.anti pc.rel.busy (fun b s => up b (downA b s)) hc) trivial
          | fr y =>
            obtain ⟨a, ea, fa, ro⟩ := hc
            obtain ⟨nb, n0⟩ := fc a ea
            have n0 : H1 a = none := n0
            have nH : H a = none := by
              cases z : H a with
              | none => rfl
              | some o => exact absurd n0 (p2.step.dom a (by rw [z]; exact fun y => nomatch y))
            obtain ⟨o, eo, mo⟩ := ro.mut
            have relF : RelSt G (Also Fb a) A2 σ H' := by
              have nB : ¬ Busy Fb A2 σ a := fun s => by
                obtain ⟨u, eu, _⟩ := rel2.busy a s
                rw [n0] at eu; cases eu
              have upF : ∀ b, Busy (Also Fb a) A2 σ b → Busy Fb' (.io d' :: as2) ((V.ref a0 :: (us ++ dvs)).map some) b := fun b s => by
                rcases s with (s | s) | s
                · exact up b (downA b (.inl s))
                · subst s; exact .inl fa
                · exact up b (downA b (.inr s))
              have okF : SOk H' (fun b => Busy (AlsoR Fb (.fr d0) (.ref a0)) A2 σ b ∨ b = a) := fun b s => by
                rcases s with s | s
                · exact okA b s
                · subst s; exact ⟨o, eo, mo⟩
              have cF : Carry H1 H' (Busy (AlsoR Fb (.fr d0) (.ref a0)) A2 σ) (fun b => Busy (AlsoR Fb (.fr d0) (.ref a0)) A2 σ b ∨ b = a) := ⟨cA.ok, cA.keep, fun b s => s.imp id fun z => by rw [z]; exact n0⟩
              have dF : ∀ b, Busy (Also Fb a) A2 σ b → Busy (AlsoR Fb (.fr d0) (.ref a0)) A2 σ b ∨ b = a := fun b s => by
                rcases s with (s | s) | s
                · exact .inl (downA b (.inl s))
                · exact .inr s
                · exact .inl (downA b (.inr s))
              refine ⟨relN.len, fun b s => ?_, fun i y e => ?_, fun i y e => ?_, fun i y e => ?_, relN.inj, relN.ent, relN.ios⟩
              · rcases s with s | s
                · exact relN.fb b s
                · subst s; exact ⟨o, eo, mo⟩
              · obtain ⟨v, e1, r⟩ := r2'.val i y e
                exact ⟨v, e1, (r.carry cF).anti okF dF⟩
              · obtain ⟨b, e1, r, nn, z⟩ := r2'.own i y e
                have nb0 : b ≠ a0 := fun z => nO i (z ▸ ⟨⟨_, e, rfl⟩, e1⟩)
                obtain ⟨_, e1', _, nn', z'⟩ := rel2.own i y e
                rw [e1] at e1'; cases e1'
                exact ⟨b, e1, (r.carry cF fun o eo => keep b o eo nb0).anti okF dF, fun s => s.elim nn' fun z => nB (z ▸ .inr ⟨i, ⟨_, e, rfl⟩, e1⟩), z⟩
              · obtain ⟨b, e1, r, nn, z⟩ := r2'.ioo i y e
                have nb0 : b ≠ a0 := fun z => nO i (z ▸ ⟨⟨_, e, rfl⟩, e1⟩)
                obtain ⟨_, e1', _, nn', z'⟩ := rel2.ioo i y e
                rw [e1] at e1'; cases e1'
                exact ⟨b, e1, (r.carry cF fun o eo => keep b o eo nb0).anti okF dF, fun s => s.elim nn' fun z => nB (z ▸ .inr ⟨i, ⟨_, e, rfl⟩, e1⟩), z⟩
            refine qq v H' (Also Fb a) ⟨fun _ s => .inl s, fun b s => s.imp id fun z => by rw [z]; exact nH, relF, stp⟩ ⟨a, ea, .inr rfl, ro.anti pc.rel.busy fun b s => ?_⟩ fun b eb => ?_
            · rcases s with (s | s) | s
              · exact up b (downA b (.inl s))
              · subst s; exact .inl fa
              · exact up b (downA b (.inr s))
            · rw [ea] at eb; cases eb
              refine ⟨fun s => ?_, p2.rel.entNone n0⟩
              obtain ⟨u, eu, _⟩ := rel2.fb a s
              rw [n0] at eu; cases eu
        split at he
        · rename_i y d' as2 eg
          cases he
          exact main _ _ _ eg (fun i z => nomatch z) q
        · rename_i y d' as2 eg
          cases he
          exact main _ _ _ eg (fun i z => nomatch z) q
        · cases he
      · cases he
    · cases he
  · cases he
theorem sim_callFr (F : FnOk X.prog X.w X.K X.mg X.base CX0 k f fd ps (spF (cfg X) n g)) (hr : Room k X.A) (hg : Gl X x) (hm : X.mg x = some (.ref f)) (hk : PySem.W.keepIn X.K (.ref f) = true) (hb : Binds X.K fd ps ds) (hd : Vals dvs ds) (hdv : ∀ C H S, Reps C H S dv dvs)
    (ha : SimA X (e :: es) evs) (hdb : (x == ("__debug__" : Str)) = false := by decide) (he : starEach (e :: es) X.env = (false, eval e X.env) :: starEach es X.env := by rfl) (hpl : (backTo pos (starEach es X.env)).any (·.1) = false := by rfl) :
    SimE X (.Call (.Name x p) (e :: es) [] pos) (evCallFr n g dv evs) := (pe_call F hr hg hm hk hb hd pass0 ha hdb he hpl).weak fun _ _ _ h => callFr_weak hdv h
end
end Z
/-! Z20: name = {.. for ..} on one line, the name a local of the def alone. -/
namespace Z
open PySem PySem.Spec L2
open PyProof.Rows hiding St
section
variable {X : Cx} {elt kx vx tg : Expr} {ifs : List Expr} {scope : Scope} {own : List (Str × Nat)} {pos p : Pos} {g : GV} {t : ET} {ek e : EV} {ws : List Nat} {x : Str}
theorem ps_setDc {i : Nat} {y : Str} {py : Pos} {kx vx tg iter : Expr} {ifs : List Expr} {scope : Scope} {own : List (Str × Nat)} {pos spos : Pos} {wi : TI} {g : TG} {tt : TT} {tk tv : TE} (hc : X.calm = true) (hN : X.N.Nodup) (hy : X.N[i]? = some y) (hyl : X.env.scope.names.lookup y = some .local)
    (hsw : swapsWith (.DictComp kx vx [⟨tg, iter, ifs, 0⟩] scope pos) (some (.Name y py)) spos.line X.env = pure true) (hi : PI X tg iter wi) (ok : BlkOk X.N X.env.scope scope own)
    (hg : ∀ (s : Shared) (H : Hp) (C : Addr) (cl : List (Str × Addr)) (fp : List Addr), PG (X.blk s H scope (compEnvC scope cl C X.env) fp) tg g) (ht : ∀ (s : Shared) (H : Hp) (C : Addr) (cl : List (Str × Addr)) (fp : List Addr), PTs (X.blk s H scope (compEnvC scope cl C X.env) fp) ifs tt)
    (hk : ∀ (s : Shared) (H : Hp) (C : Addr) (cl : List (Str × Addr)) (fp : List Addr), PE (X.blk s H scope (compEnvC scope cl C X.env) fp) kx tk)
    (he : ∀ (s : Shared) (H : Hp) (C : Addr) (cl : List (Str × Addr)) (fp : List Addr), PE (X.blk s H scope (compEnvC scope cl C X.env) fp) vx tv) (hs : ∀ x, foldedSetIterable iter X.env x = pure x := by intro _; rfl) :
    PS X (.Assign [.Name y py] (.DictComp kx vx [⟨tg, iter, ifs, 0⟩] scope pos) spos) (tAsg (tDc wi g tt tk tv (own.map (·.2))) (gName i)) := by
  refine ⟨fun pins s σ H D I h => ?_⟩
  rw [exec_Assign_Name_used _ _ _ _ hsw]
  refine wpAny_bind (wpAny_standAt (wpAny_bind ?_))
  show wpAny _ X.A (do let _ ← comprehension (.DictComp kx vx [⟨tg, iter, ifs, 0⟩] scope pos) scope X.env (firstIterPos [⟨tg, iter, ifs, 0⟩] pos) newDict false (eval iter X.env) (some (assign (.Name y py) X.env))) _ _ s
  have h : tDc wi g tt tk tv (own.map (·.2)) σ H (fun x H1 => gName i x σ H1 D.nx) := h
  refine wpAny_bind (thn (dc_core (Qf := fun _ s' => SP X pins D .next s') hc hN I hi ok hg ht hk he hs h fun L C s' m H' I' q hn f => ?_) fun _ s' hq => wpAny_pure (wpAny_pure hq))
  show wpAny _ _ (assign (.Name y py) X.env (.ref L)) _ _ _
  refine wpAny_assign_Name (store_ok2 (v := V.ref L) I' hN hy (.inl hyl) rfl (fun s2 I2 ⟨a, sb, ha⟩ => ?_) (.inr hyl))
  obtain ⟨f0, f1, f2, f3, f4, f5⟩ := f
  have haC : C ≠ a := by
    rcases ha with z | z
    · rw [z]; exact f1
    · exact fun e => f4 y a z e.symm
  refine ⟨m, hn.sameBut sb haC, fun h3 sb3 => ?_⟩
  exact ⟨_, H', I2.turned (t' := s2.toks) (fun b o hb e => (sb3.2 b hb).trans e) f0 f1 f3 f4 f5, q⟩
theorem sw_trueD {gs : List Comprehension} {pos py : Pos} {y : Str} {l : Nat} {env : Env} (hk : env.scope.kind = .function) (hy : env.scope.names.lookup y = some .local) (hl : (py.line == pos.line) = true)
    (ha : (scope.names.any fun (n, k) => n == y && (k == .local || k == .cell)) = false) : swapsWith (.DictComp kx vx gs scope pos) (some (.Name y py)) l env = pure true := by
  have ky : env.kindOf y = some .local := hy
  have hb : env.blockKind = .function := by unfold Env.blockKind; rw [hk]; rfl
  unfold swapsWith
  simp only [hb, ky, ha, Expr.pos, hl]
  rfl
theorem simS_setDc {iv : IV} {iter : Expr} {i : Nat} {y : Str} {py spos : Pos} (hc : X.calm = true) (hN : X.N.Nodup) (hsw : swapsWith (.DictComp kx vx [⟨tg, iter, ifs, 0⟩] scope pos) (some (.Name y py)) spos.line X.env = pure true) (hi : SimI X tg iter iv) (ok : BlkOk X.N X.env.scope scope own)
    (hg : ∀ (s : Shared) (H : Hp) (C : Addr) (cl : List (Str × Addr)) (fp : List Addr), SimG (X.blk s H scope (compEnvC scope cl C X.env) fp) tg ws g) (ht : ∀ (s : Shared) (H : Hp) (C : Addr) (cl : List (Str × Addr)) (fp : List Addr), PTs (X.blk s H scope (compEnvC scope cl C X.env) fp) ifs (tST (cfg X) t))
    (hk : ∀ (s : Shared) (H : Hp) (C : Addr) (cl : List (Str × Addr)) (fp : List Addr), SimE (X.blk s H scope (compEnvC scope cl C X.env) fp) kx ek)
    (he : ∀ (s : Shared) (H : Hp) (C : Addr) (cl : List (Str × Addr)) (fp : List Addr), SimE (X.blk s H scope (compEnvC scope cl C X.env) fp) vx e) (hws : ∀ i, i ∈ ws → i ∈ own.map (·.2)) (hy : X.N[i]? = some y := by rfl) (hyl : X.env.scope.names.lookup y = some .local := by rfl) (hs : ∀ x, foldedSetIterable iter X.env x = pure x := by intro _; rfl) :
    SimS X (.Assign [.Name y py] (.DictComp kx vx [⟨tg, iter, ifs, 0⟩] scope pos) spos) (bSet i (evDc iv g t ek e (own.map (·.2)))) := (ps_setDc hc hN hy hyl hsw hi ok hg ht hk he hs).weak fun D σ H h => dc_weak hws (set_weak h)
end
end Z
/-! Z21: a, b = x, y where a name is read by a comprehension (a cell). -/
namespace Z
open PySem PySem.Spec L2
open PyProof.Rows hiding St
theorem ps_parC {X : Cx} {i j : Nat} {x y : Str} {a b : Expr} {ta : TA} {px py pt pos : Pos} {kt k2 pt2} (hc : X.calm = true) (hN : X.N.Nodup) (hi : X.N[i]? = some x) (hj : X.N[j]? = some y) (hij : i ≠ j)
    (hx : Loc X.env.scope x) (hy : Loc X.env.scope y) (ha : PA X [a, b] ta) (fx : X.fn x = true ∨ X.env.scope.names.lookup x = some .local) (fy : X.fn y = true ∨ X.env.scope.names.lookup y = some .local)
    (hw : swappedStores [.Tuple [.Name x px, .Name y py] kt pt] (.Tuple [a, b] k2 pt2) X.env = pure none)
    (hs : swapsWithSole [.Tuple [.Name x px, .Name y py] kt pt] (.Tuple [a, b] k2 pt2) pos.line X.env = pure false)
    (h1 : (assignEach [.Tuple [.Name x px, .Name y py] kt pt] X.env).map (·.2) = [assign (.Tuple [.Name x px, .Name y py] kt pt) X.env])
    (h2 : (assignEach [.Name x px, .Name y py] X.env).map (·.2) = [assign (.Name x px) X.env, assign (.Name y py) X.env])
    (hn : (assignEach [.Name x px, .Name y py] X.env).length = 2) (hst : (assignEach [.Name x px, .Name y py] X.env).findIdx? (·.1) = none) :
    PS X (.Assign [.Tuple [.Name x px, .Name y py] kt pt] (.Tuple [a, b] k2 pt2) pos) (tPar i j ta) := by
  refine ⟨fun pins s σ H D I h => ?_⟩
  refine wpAny_Assign_stores (Tuple_ (thn (ha.run _ pins s σ H _ I h) fun us s1 ⟨vs, H1, I1, r1, q1⟩ => ?_)) hs hw
  obtain ⟨v, w, e1, q1⟩ := q1
  subst e1
  obtain ⟨u1, u2, rfl, rv, rw'⟩ : ∃ u1 u2, us = [u1, u2] ∧ RelV v u1 ∧ RelV w u2 := by
    cases r1 with
    | cons p q =>
      cases q with
      | cons p' q' =>
        cases q'
        exact ⟨_, _, rfl, p, p'⟩
  refine wpAny_newObj_type ?_ (by show 2 ≤ sizeLine; decide)
  have I2 : Inv X pins σ H1 { s1 with heap := s1.heap.push { cls := .type "tuple", data := .seq [u1, u2].toArray } } := I1.kept (t' := s1.toks) fun b o e => Heap.get?_push_of_some _ e
  rw [h1]
  show wpAny _ _ (assignAll _ [assign _ X.env]) _ _ _
  refine assign_Tuple_tuple (items := #[u1, u2]) (I.ok.hd hc) (IsTup.new s1.heap _) (by simp [hn]) hst fun h' hx' => ?_
  have I3 := I2.kept (h' := h') (t' := s1.toks) fun b o e => hx' b o (Nat.ne_of_lt (Heap.lt_size e)) e
  rw [h2]
  show wpAny _ _ (assignInOrder [assign (.Name x px) X.env, assign (.Name y py) X.env] [u1, u2]) _ _ _
  refine assignInOrder_cons (wpAny_assign_Name (store_ok I3 hN hi hx rv (fun s2 I4 => ?_) fx))
  refine assignInOrder_cons (wpAny_assign_Name (store_ok I4 hN hj hy rw' (fun s3 I5 => assignInOrder_nil ?_) fy))
  exact ⟨_, H1, I5, q1⟩
theorem par_weak {i j : Nat} {ea eb : EV} {C : Cfg} {D : Ends} {σ : St} {H : Hp} (hij : i ≠ j) (h : tSS C (bPar i j ea eb) D σ H) : tPar i j (tSA C (evCons ea (evCons eb evNil))) D σ H := by
  obtain ⟨G, Fb, A, f, A', hG, rel, he, q⟩ := h
  unfold bPar at he
  split at he
  · rename_i r1 A1 e1
    split at he
    · rename_i r2 A2 e2
      split at he
      · rename_i q1 A3 e3
        split at he
        · rename_i q2 A4 e4
          split at he
          · rename_i A5 e5
            split at he
            · rename_i A6 e6
              cases he
              refine ⟨G, Fb, A, [r1, r2], A2, hG, rel, by simp only [evCons, e1, e2, evNil], fun vs H1 Fb1 p h f => ?_⟩
              obtain ⟨v, us, rfl, h1, h2⟩ := h
              obtain ⟨w, us', rfl, h2, h3⟩ := h2
              rw [HVs] at h3
              subst h3
              obtain ⟨v', us2, e', f1, f2⟩ := f
              cases e'
              obtain ⟨w', us3, e', f2, _⟩ := f2
              cases e'
              refine ⟨v, w, rfl, ?_⟩
              obtain ⟨p3, h1', f1', st3⟩ := res_ok p h1 f1 e3
              have h2' := h2.carry p.rel (Post.still p3.rel st3)
              obtain ⟨p4, h2'', f2', st4⟩ := res_ok p3 h2' (f2.anti fun a s => .inl s) e4
              have h1'' := h1'.carry p3.rel (Post.still p4.rel st4)
              have f2w : FrOk G (AlsoR Fb q1 v) q2 w := by
                cases q2 with
                | fr x =>
                  have er2 := res_fr e4
                  subst er2
                  cases q1 with
                  | fr y1 =>
                    have er1 := res_fr e3
                    subst er1
                    exact f2
                  | d z => exact fun a ea => ⟨fun s => s.elim (fun s => (f2' a ea).1 s) (fun ⟨⟨x, e⟩, _⟩ => nomatch e), (f2' a ea).2⟩
                  | sl z => exact fun a ea => ⟨fun s => s.elim (fun s => (f2' a ea).1 s) (fun ⟨⟨x, e⟩, _⟩ => nomatch e), (f2' a ea).2⟩
                | d x => trivial
                | sl x => trivial
              have f1w : FrOk G (AlsoR Fb q2 w) q1 v := by
                cases q1 with
                | fr x =>
                  intro a ea
                  refine ⟨fun s => ?_, (f1' a ea).2⟩
                  rcases s with s | ⟨⟨y, ey⟩, s⟩
                  · exact (f1' a ea).1 s
                  · subst ey
                    exact (f2w a s).1 (.inr ⟨⟨x, rfl⟩, ea⟩)
                | _ => trivial
              obtain ⟨r5, o5⟩ := putR_rel p4.rel (h2''.frIn p4.sub) h1'' f1w e5
              have h2w : HV G (AlsoR Fb q2 w) A5 (σ.set i (some v)) H1 q2 w := by
                have sb : ∀ b, Busy (AlsoR Fb q2 w) A5 (σ.set i (some v)) b → Busy Fb1 A4 σ b := fun b s => by
                  rcases s with s | ⟨k, s⟩
                  · exact .inl (h2''.frIn p4.sub b s)
                  · rcases o5 k b s with z | z
                    · exact .inr ⟨k, z⟩
                    · exact .inl (h1''.frIn p4.sub b (.inr z))
                cases q2 with
                | fr x =>
                  obtain ⟨a, rfl, fa, ro⟩ := h2''
                  exact ⟨a, rfl, .inr ⟨⟨x, rfl⟩, rfl⟩, ro.anti p4.rel.busy sb⟩
                | d x => exact Rep.anti p4.rel.busy sb h2''
                | sl x =>
                  unfold putR at e6
                  split at e6 <;> cases e6
              obtain ⟨r6, o6⟩ := putR_rel r5 (fun _ s => .inl s) h2w f2' e6
              refine q _ _ ⟨fun _ s => s, fun _ s => .inl s, r6, p4.step.keep, p4.step.dom, fun k b o => ?_⟩
              have fin : ∀ {r : R} {u : V}, HV G Fb1 A4 σ H1 r u → FrOk G Fb r u → ((∃ x, r = .fr x) ∧ u = .ref b) → (∃ j, OwnAt A σ j b) ∨ H b = none := fun {r u} hv fo ⟨⟨x, er⟩, eu⟩ => by
                subst er
                obtain ⟨a, e2, fa, _⟩ := hv
                rw [eu] at e2; cases e2
                rcases p4.new b fa with y | y
                · exact absurd y (fo b eu).1
                · exact .inr y
              rcases o6 k b o with z | z
              · rcases o5 k b z with z | z
                · exact .inl ⟨k, p4.step.own z⟩
                · exact fin h1'' f1' z
              · exact fin h2'' f2' z
            · cases he
          · cases he
        · cases he
      · cases he
    · cases he
  · cases he
theorem simS_parC {X : Cx} {i j : Nat} {x y : Str} {a b : Expr} {ea eb : EV} {px py pt pos : Pos} {kt k2 pt2} (hc : X.calm = true) (hN : X.N.Nodup) (ha : SimE X a ea) (hb : SimE X b eb) (hi : X.N[i]? = some x := by rfl) (hj : X.N[j]? = some y := by rfl) (hij : i ≠ j := by decide)
    (hx : Loc X.env.scope x := by first | exact .inl rfl | exact .inr rfl) (hy : Loc X.env.scope y := by first | exact .inl rfl | exact .inr rfl) (fx : X.fn x = true ∨ X.env.scope.names.lookup x = some .local := by first | exact .inl rfl | exact .inr rfl) (fy : X.fn y = true ∨ X.env.scope.names.lookup y = some .local := by first | exact .inl rfl | exact .inr rfl)
    (hw : swappedStores [.Tuple [.Name x px, .Name y py] kt pt] (.Tuple [a, b] k2 pt2) X.env = pure none := by rfl)
    (hs : swapsWithSole [.Tuple [.Name x px, .Name y py] kt pt] (.Tuple [a, b] k2 pt2) pos.line X.env = pure false := by rfl)
    (h1 : (assignEach [.Tuple [.Name x px, .Name y py] kt pt] X.env).map (·.2) = [assign (.Tuple [.Name x px, .Name y py] kt pt) X.env] := by rfl)
    (h2 : (assignEach [.Name x px, .Name y py] X.env).map (·.2) = [assign (.Name x px) X.env, assign (.Name y py) X.env] := by rfl)
    (hn : (assignEach [.Name x px, .Name y py] X.env).length = 2 := by rfl) (hst : (assignEach [.Name x px, .Name y py] X.env).findIdx? (·.1) = none := by rfl)
    (s1 : starEach [a, b] X.env = (false, eval a X.env) :: starEach [b] X.env := by rfl) (s2 : starEach [b] X.env = (false, eval b X.env) :: starEach [] X.env := by rfl) :
    SimS X (.Assign [.Tuple [.Name x px, .Name y py] kt pt] (.Tuple [a, b] k2 pt2) pos) (bPar i j ea eb) := (ps_parC hc hN hi hj hij hx hy (simA_cons ha (simA_cons hb simA_nil s2) s1) fx fy hw hs h1 h2 hn hst).weak fun D σ H h => par_weak hij h
end Z
/-! Z22: the law's own promise from what its combinator gives. -/
namespace Z
open PySem PySem.Spec L2
open PyProof.Rows hiding St
theorem sp_law {C : Cfg} {H : Hp} {a : Addr} {ns : List Int} {g : EV} {A' : SS} (hS : SqL C.K H a (ns.map V.int)) (e : g [.val (.scr ns)] = some (.d (.bl true), A')) : spF C 1 g [.ref a] H (fun v _ => v = .bl true) (fun _ _ _ => False) := by
  have ok : SOk H (fun _ => False) := fun _ h => h.elim
  have r : Reps C H (fun _ => False) [.scr ns] [.ref a] := ⟨.ref a, [], rfl, by
    rw [Rep]
    refine ⟨a, rfl, ?_⟩
    rcases hS with h | h
    · exact .inl ⟨fun z => z, h⟩
    · exact .inr h, rfl⟩
  refine ⟨rfl, ⟨C, H, []⟩, fun _ => False, [.val (.scr ns)], _, _, rfl, rfl, rel_vals ok r, e, fun v H' Fb' p h f => ?_⟩
  exact h
/-- a new thing that is told -/
def evF (x : D) : EV := fun A => some (.fr x, A)
theorem sim_cst {X : Cx} {e : Expr} {ev ev' : EV} (h : SimE X e ev) (he : ev = ev') : SimE X e ev' := he ▸ h
end Z
section
set_option maxHeartbeats 2000000
/-! the text of the law, def by def: as combinators (b_, g_), and that the program does as they say (ok_) -/
namespace K72
open PySem PySem.Spec L2 Z
open PyProof.Rows hiding St
abbrev gLt : D → D → Option R := gCmpI fun i j => decide (i < j)
abbrev gLe : D → D → Option R := gCmpI fun i j => decide (i ≤ j)
abbrev gGt : D → D → Option R := gCmpI fun i j => decide (j < i)
abbrev gGe : D → D → Option R := gCmpI fun i j => decide (j ≤ i)
theorem u65 {k : Nat} {A : Around} (r : Room k A) : A.units + 65 < cLine := by have := r.un; omega
def topS (i : Nat) : Stmt := PySem.Challenge.pw_facechains_k72_what_a_few_wheels_see.main.body.getD i (.Pass ⟨0, 0, 0, 0⟩)
theorem bt_abs : bootBuiltins "abs" = some (.builtin "abs") := by decide +kernel
theorem bt_all : bootBuiltins "all" = some (.builtin "all") := by decide +kernel
theorem bt_bool : bootBuiltins "bool" = some (.type "bool") := by decide +kernel
theorem bt_enumerate : bootBuiltins "enumerate" = some (.type "enumerate") := by decide +kernel
theorem bt_int : bootBuiltins "int" = some (.type "int") := by decide +kernel
theorem bt_isinstance : bootBuiltins "isinstance" = some (.builtin "isinstance") := by decide +kernel
theorem bt_len : bootBuiltins "len" = some (.builtin "len") := by decide +kernel
theorem bt_list : bootBuiltins "list" = some (.type "list") := by decide +kernel
theorem bt_max : bootBuiltins "max" = some (.builtin "max") := by decide +kernel
theorem bt_min : bootBuiltins "min" = some (.builtin "min") := by decide +kernel
theorem bt_range : bootBuiltins "range" = some (.type "range") := by decide +kernel
theorem bt_set : bootBuiltins "set" = some (.type "set") := by decide +kernel
theorem bt_sorted : bootBuiltins "sorted" = some (.builtin "sorted") := by decide +kernel
theorem bt_str : bootBuiltins "str" = some (.type "str") := by decide +kernel
theorem bt_sum : bootBuiltins "sum" = some (.builtin "sum") := by decide +kernel
theorem bt_tuple : bootBuiltins "tuple" = some (.type "tuple") := by decide +kernel
theorem bt_zip : bootBuiltins "zip" = some (.type "zip") := by decide +kernel
abbrev s_plain : Stmt := topS 2
abbrev N_plain : List Str := ["value", "part"]
abbrev P_plain : List Str := ["value"]
theorem sc_plain : FnScope N_plain P_plain (defScope s_plain) := ⟨rfl, rfl, rfl, by decide +kernel, rfl, by decide +kernel, by decide +kernel⟩
abbrev s_notes : Stmt := topS 3
abbrev N_notes : List Str := ["box", "row"]
abbrev P_notes : List Str := ["box"]
theorem sc_notes : FnScope N_notes P_notes (defScope s_notes) := ⟨rfl, rfl, rfl, by decide +kernel, rfl, by decide +kernel, by decide +kernel⟩
abbrev s_alike_notes : Stmt := topS 4
abbrev N_alike_notes : List Str := ["box", "rows", "many", "classes", "before", "keys", "order", "row", "note", "part"]
abbrev P_alike_notes : List Str := ["box"]
theorem sc_alike_notes : FnScope N_alike_notes P_alike_notes (defScope s_alike_notes) := ⟨rfl, rfl, rfl, by decide +kernel, rfl, by decide +kernel, by decide +kernel⟩
abbrev s_least_box : Stmt := topS 5
abbrev N_least_box : List Str := ["box", "classes", "table", "note", "rows", "found", "same", "row", "other", "faces", "sent", "part"]
abbrev P_least_box : List Str := ["box"]
theorem sc_least_box : FnScope N_least_box P_least_box (defScope s_least_box) := ⟨rfl, rfl, rfl, by decide +kernel, rfl, by decide +kernel, by decide +kernel⟩
abbrev s_finer : Stmt := topS 7
abbrev N_finer : List Str := ["things", "classes", "keys", "order", "note", "faces", "sent", "part"]
abbrev P_finer : List Str := ["things", "classes"]
theorem sc_finer : FnScope N_finer P_finer (defScope s_finer) := ⟨rfl, rfl, rfl, by decide +kernel, rfl, by decide +kernel, by decide +kernel⟩
abbrev s_numbers_by : Stmt := topS 8
abbrev N_numbers_by : List Str := ["box", "wheels", "things", "classes", "turn", "b", "rows", "row"]
abbrev P_numbers_by : List Str := ["box", "wheels"]
theorem sc_numbers_by : FnScope N_numbers_by P_numbers_by (defScope s_numbers_by) := ⟨rfl, rfl, rfl, by decide +kernel, rfl, by decide +kernel, by decide +kernel⟩
abbrev s_classes_by : Stmt := topS 9
abbrev N_classes_by : List Str := ["box", "wheels", "thing", "classes", "found"]
abbrev P_classes_by : List Str := ["box", "wheels"]
theorem sc_classes_by : FnScope N_classes_by P_classes_by (defScope s_classes_by) := ⟨rfl, rfl, rfl, by decide +kernel, rfl, by decide +kernel, by decide +kernel⟩
abbrev s_classes_of : Stmt := topS 10
abbrev N_classes_of : List Str := ["box"]
abbrev P_classes_of : List Str := ["box"]
theorem sc_classes_of : FnScope N_classes_of P_classes_of (defScope s_classes_of) := ⟨rfl, rfl, rfl, by decide +kernel, rfl, by decide +kernel, by decide +kernel⟩
abbrev s_sees_all : Stmt := topS 11
abbrev N_sees_all : List Str := ["box", "wheels"]
abbrev P_sees_all : List Str := ["box"]
theorem sc_sees_all : FnScope N_sees_all P_sees_all (defScope s_sees_all) := ⟨rfl, rfl, rfl, by decide +kernel, rfl, by decide +kernel, by decide +kernel⟩
abbrev s_q_box : Stmt := topS 13
abbrev N_q_box : List Str := ["_law_script", "_law_k", "_law_cell"]
abbrev P_q_box : List Str := ["_law_script", "_law_k"]
theorem sc_q_box : FnScope N_q_box P_q_box (defScope s_q_box) := ⟨rfl, rfl, rfl, by decide +kernel, rfl, by decide +kernel, by decide +kernel⟩
abbrev s_q_take : Stmt := topS 14
abbrev N_q_take : List Str := ["_law_urn", "_law_below", "_law_once", "_law_far", "_law_twice", "_law_digit_so"]
abbrev P_q_take : List Str := ["_law_urn", "_law_below"]
theorem sc_q_take : FnScope N_q_take P_q_take (defScope s_q_take) := ⟨rfl, rfl, rfl, by decide +kernel, rfl, by decide +kernel, by decide +kernel⟩
abbrev s_q_cells : Stmt := topS 15
abbrev N_q_cells : List Str := ["_law_script", "_law_most", "_law_cells_here", "_law_k", "_law_cell", "_law_at_so"]
abbrev P_q_cells : List Str := ["_law_script", "_law_most"]
theorem sc_q_cells : FnScope N_q_cells P_q_cells (defScope s_q_cells) := ⟨rfl, rfl, rfl, by decide +kernel, rfl, by decide +kernel, by decide +kernel⟩
abbrev s_q_of : Stmt := topS 16
abbrev N_q_of : List Str := ["_law_urn", "_law_some"]
abbrev P_q_of : List Str := ["_law_urn", "_law_some"]
theorem sc_q_of : FnScope N_q_of P_q_of (defScope s_q_of) := ⟨rfl, rfl, rfl, by decide +kernel, rfl, by decide +kernel, by decide +kernel⟩
abbrev s_q_pick : Stmt := topS 17
abbrev N_q_pick : List Str := ["_law_urn", "_law_pool", "_law_size_so", "_law_turn", "_law_rest", "_law_some"]
abbrev P_q_pick : List Str := ["_law_urn", "_law_pool", "_law_size_so"]
theorem sc_q_pick : FnScope N_q_pick P_q_pick (defScope s_q_pick) := ⟨rfl, rfl, rfl, by decide +kernel, rfl, by decide +kernel, by decide +kernel⟩
abbrev s_q_lists : Stmt := topS 18
abbrev N_q_lists : List Str := ["_law_matter", "_law_bit"]
abbrev P_q_lists : List Str := ["_law_matter"]
theorem sc_q_lists : FnScope N_q_lists P_q_lists (defScope s_q_lists) := ⟨rfl, rfl, rfl, by decide +kernel, rfl, by decide +kernel, by decide +kernel⟩
abbrev s_q_same : Stmt := topS 19
abbrev N_q_same : List Str := ["_law_got", "_law_due", "_law_mine", "_law_its"]
abbrev P_q_same : List Str := ["_law_got", "_law_due"]
theorem sc_q_same : FnScope N_q_same P_q_same (defScope s_q_same) := ⟨rfl, rfl, rfl, by decide +kernel, rfl, by decide +kernel, by decide +kernel⟩
abbrev s_q_turning : Stmt := topS 20
abbrev N_q_turning : List Str := ["_law_urn", "_law_many"]
abbrev P_q_turning : List Str := ["_law_urn", "_law_many"]
theorem sc_q_turning : FnScope N_q_turning P_q_turning (defScope s_q_turning) := ⟨rfl, rfl, rfl, by decide +kernel, rfl, by decide +kernel, by decide +kernel⟩
abbrev s_q_breath : Stmt := topS 21
abbrev N_q_breath : List Str := ["_law_kit_here", "_law_tag", "_law_turn", "_law_most", "_law_counts", "_law_wider_here", "_law_own", "_law_far"]
abbrev P_q_breath : List Str := ["_law_kit_here", "_law_tag"]
theorem sc_q_breath : FnScope N_q_breath P_q_breath (defScope s_q_breath) := ⟨rfl, rfl, rfl, by decide +kernel, rfl, by decide +kernel, by decide +kernel⟩
abbrev s_q_known_kit : Stmt := topS 22
abbrev N_q_known_kit : List Str := ["_law_urn", "_law_kits", "_law_pegs_so", "_law_kit_here", "_law_turning_here", "_law_found", "_law_tag", "_law_faces_so", "_law_sent_so", "_law_there", "_law_k", "_law_own"]
abbrev P_q_known_kit : List Str := ["_law_urn"]
theorem sc_q_known_kit : FnScope N_q_known_kit P_q_known_kit (defScope s_q_known_kit) := ⟨rfl, rfl, rfl, by decide +kernel, rfl, by decide +kernel, by decide +kernel⟩
abbrev s_q_kit : Stmt := topS 23
abbrev N_q_kit : List Str := ["_law_urn", "_law_most", "_law_many", "_law_tags", "_law_sorts", "_law_found", "_law_kit_here", "_law_k", "_law_tag", "_law_ends_so", "_law_pool", "_law_sent_so", "_law_j", "_law_spot"]
abbrev P_q_kit : List Str := ["_law_urn", "_law_most"]
theorem sc_q_kit : FnScope N_q_kit P_q_kit (defScope s_q_kit) := ⟨rfl, rfl, rfl, by decide +kernel, rfl, by decide +kernel, by decide +kernel⟩
abbrev s_q_any : Stmt := topS 24
abbrev N_q_any : List Str := ["_law_urn", "_law_most", "_law_many", "_law_tags", "_law_found", "_law_tag", "_law_sent_so", "_law_spot"]
abbrev P_q_any : List Str := ["_law_urn", "_law_most"]
theorem sc_q_any : FnScope N_q_any P_q_any (defScope s_q_any) := ⟨rfl, rfl, rfl, by decide +kernel, rfl, by decide +kernel, by decide +kernel⟩
abbrev s_q_drawn_kit : Stmt := topS 25
abbrev N_q_drawn_kit : List Str := ["_law_urn", "_law_most", "_law_sort_so"]
abbrev P_q_drawn_kit : List Str := ["_law_urn", "_law_most"]
theorem sc_q_drawn_kit : FnScope N_q_drawn_kit P_q_drawn_kit (defScope s_q_drawn_kit) := ⟨rfl, rfl, rfl, by decide +kernel, rfl, by decide +kernel, by decide +kernel⟩
abbrev s_q_done : Stmt := topS 26
abbrev N_q_done : List Str := ["_law_kit_here", "_law_deed", "_law_line", "_law_spot", "_law_found", "_law_left", "_law_rule_so", "_law_before", "_law_own", "_law_k"]
abbrev P_q_done : List Str := ["_law_kit_here", "_law_deed", "_law_line"]
theorem sc_q_done : FnScope N_q_done P_q_done (defScope s_q_done) := ⟨rfl, rfl, rfl, by decide +kernel, rfl, by decide +kernel, by decide +kernel⟩
abbrev s_q_wider : Stmt := topS 27
abbrev N_q_wider : List Str := ["_law_kit_here", "_law_some", "_law_found", "_law_own", "_law_spot"]
abbrev P_q_wider : List Str := ["_law_kit_here", "_law_some"]
theorem sc_q_wider : FnScope N_q_wider P_q_wider (defScope s_q_wider) := ⟨rfl, rfl, rfl, by decide +kernel, rfl, by decide +kernel, by decide +kernel⟩
abbrev s_q_lines : Stmt := topS 28
abbrev N_q_lines : List Str := ["_law_kit_here", "_law_size_so", "_law_found", "_law_turn"]
abbrev P_q_lines : List Str := ["_law_kit_here", "_law_size_so"]
theorem sc_q_lines : FnScope N_q_lines P_q_lines (defScope s_q_lines) := ⟨rfl, rfl, rfl, by decide +kernel, rfl, by decide +kernel, by decide +kernel⟩
abbrev s_q_kinds : Stmt := topS 29
abbrev N_q_kinds : List Str := ["_law_kit_here", "_law_size_so", "_law_found", "_law_tag", "_law_made", "_law_own", "_law_line"]
abbrev P_q_kinds : List Str := ["_law_kit_here", "_law_size_so"]
theorem sc_q_kinds : FnScope N_q_kinds P_q_kinds (defScope s_q_kinds) := ⟨rfl, rfl, rfl, by decide +kernel, rfl, by decide +kernel, by decide +kernel⟩
abbrev s_q_doubled : Stmt := topS 30
abbrev N_q_doubled : List Str := ["_law_urn", "_law_kit_here", "_law_twin_so", "_law_found", "_law_tag", "_law_turning_here", "_law_sent_so", "_law_own", "_law_far"]
abbrev P_q_doubled : List Str := ["_law_urn", "_law_kit_here"]
theorem sc_q_doubled : FnScope N_q_doubled P_q_doubled (defScope s_q_doubled) := ⟨rfl, rfl, rfl, by decide +kernel, rfl, by decide +kernel, by decide +kernel⟩
abbrev s_q_first : Stmt := topS 31
abbrev N_q_first : List Str := ["_law_kit_here", "_law_size_so", "_law_k"]
abbrev P_q_first : List Str := ["_law_kit_here", "_law_size_so"]
theorem sc_q_first : FnScope N_q_first P_q_first (defScope s_q_first) := ⟨rfl, rfl, rfl, by decide +kernel, rfl, by decide +kernel, by decide +kernel⟩
abbrev s_q_by_hand_right : Stmt := topS 32
abbrev N_q_by_hand_right : List Str := ["_law_deep", "_law_same_here", "_law_got", "_law_apart", "_law_due", "_law_late_so", "_law_late", "_law_k"]
abbrev P_q_by_hand_right : List Str := []
theorem sc_q_by_hand_right : FnScope N_q_by_hand_right P_q_by_hand_right (defScope s_q_by_hand_right) := ⟨rfl, rfl, rfl, by decide +kernel, rfl, by decide +kernel, by decide +kernel⟩
abbrev s_q_case_right : Stmt := topS 33
abbrev N_q_case_right : List Str := ["_law_urn", "_law_kit_here", "_law_k", "_law_got", "_law_own", "_law_table", "_law_soft", "_law_most", "_law_due", "_law_kind", "_law_tag"]
abbrev P_q_case_right : List Str := ["_law_urn"]
theorem sc_q_case_right : FnScope N_q_case_right P_q_case_right (defScope s_q_case_right) := ⟨rfl, rfl, rfl, by decide +kernel, rfl, by decide +kernel, by decide +kernel⟩
abbrev s_q_right : Stmt := topS 34
abbrev N_q_right : List Str := ["_law_urn", "_law_turn"]
abbrev P_q_right : List Str := ["_law_urn"]
theorem sc_q_right : FnScope N_q_right P_q_right (defScope s_q_right) := ⟨rfl, rfl, rfl, by decide +kernel, rfl, by decide +kernel, by decide +kernel⟩
abbrev s_law : Stmt := topS 35
abbrev N_law : List Str := ["_law_script", "_law_cells_here", "_law_k"]
abbrev P_law : List Str := ["_law_script"]
theorem sc_law : FnScope N_law P_law (defScope s_law) := ⟨rfl, rfl, rfl, by decide +kernel, rfl, by decide +kernel, by decide +kernel⟩
/-- what the top has written -/
structure En (K : PySem.W.Frag) (mg : Str → Option Value) where
  z_abs : mg "abs" = none
  z_all : mg "all" = none
  z_bool : mg "bool" = none
  z_enumerate : mg "enumerate" = none
  z_int : mg "int" = none
  z_isinstance : mg "isinstance" = none
  z_len : mg "len" = none
  z_list : mg "list" = none
  z_max : mg "max" = none
  z_min : mg "min" = none
  z_range : mg "range" = none
  z_set : mg "set" = none
  z_sorted : mg "sorted" = none
  z_str : mg "str" = none
  z_sum : mg "sum" = none
  z_tuple : mg "tuple" = none
  z_zip : mg "zip" = none
  c_NONE : ∃ t, mg "NONE" = some (.str "-" t)
  a_plain : Addr
  d_plain : FuncData
  F_plain : Fun K "plain" "plain" s_plain a_plain d_plain
  m_plain : mg "plain" = some (.ref a_plain)
  b_plain : Binds K d_plain P_plain []
  a_notes : Addr
  d_notes : FuncData
  F_notes : Fun K "notes" "notes" s_notes a_notes d_notes
  m_notes : mg "notes" = some (.ref a_notes)
  b_notes : Binds K d_notes P_notes []
  a_alike_notes : Addr
  d_alike_notes : FuncData
  F_alike_notes : Fun K "alike_notes" "alike_notes" s_alike_notes a_alike_notes d_alike_notes
  m_alike_notes : mg "alike_notes" = some (.ref a_alike_notes)
  b_alike_notes : Binds K d_alike_notes P_alike_notes []
  a_least_box : Addr
  d_least_box : FuncData
  F_least_box : Fun K "least_box" "least_box" s_least_box a_least_box d_least_box
  m_least_box : mg "least_box" = some (.ref a_least_box)
  b_least_box : Binds K d_least_box P_least_box []
  a_finer : Addr
  d_finer : FuncData
  F_finer : Fun K "finer" "finer" s_finer a_finer d_finer
  m_finer : mg "finer" = some (.ref a_finer)
  b_finer : Binds K d_finer P_finer []
  a_numbers_by : Addr
  d_numbers_by : FuncData
  F_numbers_by : Fun K "numbers_by" "numbers_by" s_numbers_by a_numbers_by d_numbers_by
  m_numbers_by : mg "numbers_by" = some (.ref a_numbers_by)
  b_numbers_by : Binds K d_numbers_by P_numbers_by []
  a_classes_by : Addr
  d_classes_by : FuncData
  F_classes_by : Fun K "classes_by" "classes_by" s_classes_by a_classes_by d_classes_by
  m_classes_by : mg "classes_by" = some (.ref a_classes_by)
  b_classes_by : Binds K d_classes_by P_classes_by []
  a_classes_of : Addr
  d_classes_of : FuncData
  F_classes_of : Fun K "classes_of" "classes_of" s_classes_of a_classes_of d_classes_of
  m_classes_of : mg "classes_of" = some (.ref a_classes_of)
  b_classes_of : Binds K d_classes_of P_classes_of []
  a_sees_all : Addr
  d_sees_all : FuncData
  F_sees_all : Fun K "sees_all" "sees_all" s_sees_all a_sees_all d_sees_all
  m_sees_all : mg "sees_all" = some (.ref a_sees_all)
  b_sees_all : Binds K d_sees_all P_sees_all []
  a_q_box : Addr
  d_q_box : FuncData
  F_q_box : Fun K "_law_box" "_law_box" s_q_box a_q_box d_q_box
  m_q_box : mg "_law_box" = some (.ref a_q_box)
  b_q_box : Binds K d_q_box P_q_box []
  a_q_take : Addr
  d_q_take : FuncData
  F_q_take : Fun K "_law_take" "_law_take" s_q_take a_q_take d_q_take
  m_q_take : mg "_law_take" = some (.ref a_q_take)
  b_q_take : Binds K d_q_take P_q_take []
  a_q_cells : Addr
  d_q_cells : FuncData
  F_q_cells : Fun K "_law_cells" "_law_cells" s_q_cells a_q_cells d_q_cells
  m_q_cells : mg "_law_cells" = some (.ref a_q_cells)
  b_q_cells : Binds K d_q_cells P_q_cells []
  a_q_of : Addr
  d_q_of : FuncData
  F_q_of : Fun K "_law_of" "_law_of" s_q_of a_q_of d_q_of
  m_q_of : mg "_law_of" = some (.ref a_q_of)
  b_q_of : Binds K d_q_of P_q_of []
  a_q_pick : Addr
  d_q_pick : FuncData
  F_q_pick : Fun K "_law_pick" "_law_pick" s_q_pick a_q_pick d_q_pick
  m_q_pick : mg "_law_pick" = some (.ref a_q_pick)
  b_q_pick : Binds K d_q_pick P_q_pick []
  a_q_lists : Addr
  d_q_lists : FuncData
  F_q_lists : Fun K "_law_lists" "_law_lists" s_q_lists a_q_lists d_q_lists
  m_q_lists : mg "_law_lists" = some (.ref a_q_lists)
  b_q_lists : Binds K d_q_lists P_q_lists []
  a_q_same : Addr
  d_q_same : FuncData
  F_q_same : Fun K "_law_same" "_law_same" s_q_same a_q_same d_q_same
  m_q_same : mg "_law_same" = some (.ref a_q_same)
  b_q_same : Binds K d_q_same P_q_same []
  a_q_turning : Addr
  d_q_turning : FuncData
  F_q_turning : Fun K "_law_turning" "_law_turning" s_q_turning a_q_turning d_q_turning
  m_q_turning : mg "_law_turning" = some (.ref a_q_turning)
  b_q_turning : Binds K d_q_turning P_q_turning []
  a_q_breath : Addr
  d_q_breath : FuncData
  F_q_breath : Fun K "_law_breath" "_law_breath" s_q_breath a_q_breath d_q_breath
  m_q_breath : mg "_law_breath" = some (.ref a_q_breath)
  b_q_breath : Binds K d_q_breath P_q_breath []
  a_q_known_kit : Addr
  d_q_known_kit : FuncData
  F_q_known_kit : Fun K "_law_known_kit" "_law_known_kit" s_q_known_kit a_q_known_kit d_q_known_kit
  m_q_known_kit : mg "_law_known_kit" = some (.ref a_q_known_kit)
  b_q_known_kit : Binds K d_q_known_kit P_q_known_kit []
  a_q_kit : Addr
  d_q_kit : FuncData
  F_q_kit : Fun K "_law_kit" "_law_kit" s_q_kit a_q_kit d_q_kit
  m_q_kit : mg "_law_kit" = some (.ref a_q_kit)
  b_q_kit : Binds K d_q_kit P_q_kit []
  a_q_any : Addr
  d_q_any : FuncData
  F_q_any : Fun K "_law_any" "_law_any" s_q_any a_q_any d_q_any
  m_q_any : mg "_law_any" = some (.ref a_q_any)
  b_q_any : Binds K d_q_any P_q_any []
  a_q_drawn_kit : Addr
  d_q_drawn_kit : FuncData
  F_q_drawn_kit : Fun K "_law_drawn_kit" "_law_drawn_kit" s_q_drawn_kit a_q_drawn_kit d_q_drawn_kit
  m_q_drawn_kit : mg "_law_drawn_kit" = some (.ref a_q_drawn_kit)
  b_q_drawn_kit : Binds K d_q_drawn_kit P_q_drawn_kit []
  a_q_done : Addr
  d_q_done : FuncData
  F_q_done : Fun K "_law_done" "_law_done" s_q_done a_q_done d_q_done
  m_q_done : mg "_law_done" = some (.ref a_q_done)
  b_q_done : Binds K d_q_done P_q_done []
  a_q_wider : Addr
  d_q_wider : FuncData
  F_q_wider : Fun K "_law_wider" "_law_wider" s_q_wider a_q_wider d_q_wider
  m_q_wider : mg "_law_wider" = some (.ref a_q_wider)
  b_q_wider : Binds K d_q_wider P_q_wider []
  a_q_lines : Addr
  d_q_lines : FuncData
  F_q_lines : Fun K "_law_lines" "_law_lines" s_q_lines a_q_lines d_q_lines
  m_q_lines : mg "_law_lines" = some (.ref a_q_lines)
  b_q_lines : Binds K d_q_lines P_q_lines []
  a_q_kinds : Addr
  d_q_kinds : FuncData
  F_q_kinds : Fun K "_law_kinds" "_law_kinds" s_q_kinds a_q_kinds d_q_kinds
  m_q_kinds : mg "_law_kinds" = some (.ref a_q_kinds)
  b_q_kinds : Binds K d_q_kinds P_q_kinds []
  a_q_doubled : Addr
  d_q_doubled : FuncData
  F_q_doubled : Fun K "_law_doubled" "_law_doubled" s_q_doubled a_q_doubled d_q_doubled
  m_q_doubled : mg "_law_doubled" = some (.ref a_q_doubled)
  b_q_doubled : Binds K d_q_doubled P_q_doubled []
  a_q_first : Addr
  d_q_first : FuncData
  F_q_first : Fun K "_law_first" "_law_first" s_q_first a_q_first d_q_first
  m_q_first : mg "_law_first" = some (.ref a_q_first)
  b_q_first : Binds K d_q_first P_q_first []
  a_q_by_hand_right : Addr
  d_q_by_hand_right : FuncData
  F_q_by_hand_right : Fun K "_law_by_hand_right" "_law_by_hand_right" s_q_by_hand_right a_q_by_hand_right d_q_by_hand_right
  m_q_by_hand_right : mg "_law_by_hand_right" = some (.ref a_q_by_hand_right)
  b_q_by_hand_right : Binds K d_q_by_hand_right P_q_by_hand_right []
  a_q_case_right : Addr
  d_q_case_right : FuncData
  F_q_case_right : Fun K "_law_case_right" "_law_case_right" s_q_case_right a_q_case_right d_q_case_right
  m_q_case_right : mg "_law_case_right" = some (.ref a_q_case_right)
  b_q_case_right : Binds K d_q_case_right P_q_case_right []
  a_q_right : Addr
  d_q_right : FuncData
  F_q_right : Fun K "_law_right" "_law_right" s_q_right a_q_right d_q_right
  m_q_right : mg "_law_right" = some (.ref a_q_right)
  b_q_right : Binds K d_q_right P_q_right []
  a_law : Addr
  d_law : FuncData
  F_law : Fun K "law" "law" s_law a_law d_law
  m_law : mg "law" = some (.ref a_law)
  b_law : Binds K d_law P_law []
section
variable {P : Program} {w : World} {K : PySem.W.Frag} {mg : Str → Option Value} {base : Heap}
def b_plain (g : EV) : BV := (bRet (evIf (evB (ev1 (gIsa ["list", "tuple"]) (evVar 0))) (ev1 gTuple (evLc (ivSeq (evVar 0)) (gvN 1) tYesA (evCall 1 g [] (evCons (evVar 1) evNil)) [1])) (evVar 0)))
def gd_plain : Nat → EV
  | 0 => fun _ => none
  | d + 1 => gOf (b_plain (gd_plain d)) N_plain.length
def g_plain : EV := gd_plain 8
theorem okd_plain (E : En K mg) : ∀ d, FnOk P w K mg base CX0 (0 + d + 1) E.a_plain E.d_plain P_plain (spF ⟨P, w, K⟩ 1 (gd_plain d))
  | 0 => fn_ok (fun _ => bNever) E.F_plain sc_plain (fun _ _ _ _ _ _ _ _ => simB_never) (fun _ _ _ _ h => nomatch h)
  | d + 1 => by
    have ih := okd_plain E d
    exact fn_ok (fun _ => b_plain (gd_plain d)) E.F_plain sc_plain (fun n cdv A outer s H Ex hr =>
    (simB_one (simS_ret (sim_if (simT_val (sim_isT (cs := ["list", "tuple"]) rfl (by decide) (by rfl) E.z_isinstance (sim_var 0) (pa_ty (by rfl) E.z_list bt_list (pa_ty (by rfl) E.z_tuple bt_tuple pa_ty0)))) (sim_t1 crg_tuple (by rfl) E.z_tuple bt_tuple (sim_lc (own := [("part", 1)]) rfl sc_plain.nd (simI_seq (sim_var 0)) (blkOk_by (N := N_plain) (sc := defScope s_plain) (by decide +kernel)) (fun _ _ _ _ _ => (simG_name sc_plain.nd)) (fun _ _ _ _ _ => simTs_nil) (fun _ _ _ _ _ => (sim_call ih (hr.mono (by omega)) (by rfl) E.m_plain E.F_plain.kp E.b_plain .nil (fun _ _ _ => Reps.nil) (simA_cons (sim_var 1) simA_nil))) (by decide))) (sim_var 0))))) (fun as r as' _ h => ⟨0, h⟩)
theorem ok_plain (E : En K mg) : FnOk P w K mg base CX0 9 E.a_plain E.d_plain P_plain (spF ⟨P, w, K⟩ 1 g_plain) := okd_plain E 8
def c_notes_1 : EV := (evLc (ivSeq (ev2 gIxA (evVar 0) (evC (.int 1)))) (gvN 1) tYesA (ev2 gIxA (evVar 1) (evC (.int 0))) [1])
def b_notes : BV := (bRet (ev1 gTuple c_notes_1))
def g_notes : EV := gOf b_notes N_notes.length
theorem ok_notes (E : En K mg) : FnOk P w K mg base CX0 1 E.a_notes E.d_notes P_notes (spF ⟨P, w, K⟩ 1 g_notes) :=
  fn_ok (fun _ => b_notes) E.F_notes sc_notes (fun n cdv A outer s H Ex hr =>
    (simB_one (simS_ret (sim_t1 crg_tuple (by rfl) E.z_tuple bt_tuple (sim_lc (own := [("row", 1)]) rfl sc_notes.nd (simI_seq (sim_ix (r := fun _ _ _ _ => True) (ixgA hr.units) (sim_var 0) sim_int (fun _ _ => rfl))) (blkOk_by (N := N_notes) (sc := defScope s_notes) (by decide +kernel)) (fun _ _ _ _ _ => (simG_name sc_notes.nd)) (fun _ _ _ _ _ => simTs_nil) (fun _ _ _ _ _ => (sim_ix (r := fun _ _ _ _ => True) (ixgA hr.units) (sim_var 1) sim_int (fun _ _ => rfl))) (by decide)))))) (fun as r as' _ h => ⟨0, h⟩)
def c_alike_notes_1 : EV := (evDc (ivSeq (evVar 1)) (gvN 7) tYesA (ev2 gIxA (evVar 7) (evC (.int 0))) (evC (.int 0)) [7])
def c_alike_notes_2 : EV := (evLc (ivKeys 3) (gvN 8) tYesA (ev2 gIxA (evVar 3) (evVar 8)) [8])
def c_alike_notes_3 : EV := (evLc (ivKeys 3) (gvN 8) tYesA (ev2 gIxA (evVar 3) (evVar 8)) [8])
def c_alike_notes_4 : EV := (evLc (ivSeq (ev2 gIxA (evVar 7) (evC (.int 2)))) (gvN 9) tYesA (ev2 gIxA (evVar 3) (evVar 9)) [9])
def c_alike_notes_5 : EV := (evDc (ivSeq (evVar 1)) (gvN 7) tYesA (ev2 gIxA (evVar 7) (evC (.int 0))) (evTup (evCons (ev2 gIxA (evVar 3) (ev2 gIxA (evVar 7) (evC (.int 0)))) (evCons (ev2 gIxA (evVar 7) (evC (.int 1))) (evCons (ev1 gTuple c_alike_notes_4) evNil)))) [7])
def c_alike_notes_6 : EV := (evLc (ivKeys 5) (gvN 8) tYesA (ev2 gIxA (evVar 5) (evVar 8)) [8])
def c_alike_notes_7 : EV := (evDc (ivKeys 5) (gvN 8) tYesA (evVar 8) (evM2 gIndex (evVar 6) (ev2 gIxA (evVar 5) (evVar 8))) [8])
def l_alike_notes_1 : BV := (whileL (evB (ev2 gNe (evVar 4) (ev1 gLenSet c_alike_notes_2))) (bSeq (bSet 4 (ev1 gLenSet c_alike_notes_3))
    (bSeq (bSet 5 c_alike_notes_5)
    (bSeq (bSet 6 (ev1 gSortedSet c_alike_notes_6))
    (bSet 3 c_alike_notes_7)))) 40)
def b_alike_notes : BV := (bSeq (bAsg (gvT 2 (gvCons (gvN 2) (gvCons (gvN 1) gvNil))) (evCall 1 g_plain [] (evCons (evVar 0) evNil)))
    (bSeq (bSet 1 (evTup (evCons (evTup (evCons (evC (.str "-")) (evCons (evTupRg (ivRng1 (evVar 2))) (evCons (ev2 gMul (evC (.tup [.str "-"])) (evVar 2)) evNil)))) (evStar (evVar 1) evNil))))
    (bSeq (bPar 3 4 c_alike_notes_1 (ev1 gNeg (evC (.int 1))))
    (bSeq l_alike_notes_1
    (bRet (evVar 3))))))
def g_alike_notes : EV := gOf b_alike_notes N_alike_notes.length
theorem ok_alike_notes (E : En K mg) : FnOk P w K mg base CX0 10 E.a_alike_notes E.d_alike_notes P_alike_notes (spF ⟨P, w, K⟩ 1 g_alike_notes) :=
  fn_ok (fun _ => b_alike_notes) E.F_alike_notes sc_alike_notes (fun n cdv A outer s H Ex hr =>
    (simB_cons (simS_asg (sim_call (ok_plain E) (hr.mono (by decide)) (by rfl) E.m_plain E.F_plain.kp E.b_plain .nil (fun _ _ _ => Reps.nil) (simA_cons (sim_var 0) simA_nil)) (simG_tup rfl (simG_cons (simG_name sc_alike_notes.nd) (simG_cons (simG_name sc_alike_notes.nd) simG_nil))))
    (simB_cons (simS_set sc_alike_notes.nd (sim_tup (simA_cons (sim_tup (simA_cons (sim_gstr E.c_NONE) (simA_cons (sim_tupRg rfl (by rfl) E.z_tuple (by rfl) E.z_range (sim_var 2)) (simA_cons (sim_op opg_mul (sim_cst (sim_tup (simA_cons (sim_gstr E.c_NONE) simA_nil)) rfl) (sim_var 2)) simA_nil)))) (simA_star (sim_var 1) simA_nil))))
    (simB_cons (simS_parC rfl sc_alike_notes.nd (sim_dc (own := [("row", 7)]) rfl sc_alike_notes.nd (simI_seq (sim_var 1)) (blkOk_by (N := N_alike_notes) (sc := defScope s_alike_notes) (by decide +kernel)) (fun _ _ _ _ _ => (simG_name sc_alike_notes.nd)) (fun _ _ _ _ _ => simTs_nil) (fun _ _ _ _ _ => (sim_ix (r := fun _ _ _ _ => True) (ixgA hr.units) (sim_var 7) sim_int (fun _ _ => rfl))) (fun _ _ _ _ _ => sim_int) (by decide)) (sim_un ung_neg sim_int))
    (simB_cons (simS_while 40 PassesOwn.never (simT_cmp (opg_ne hr.units) (sim_var 4) (sim_lenSet rfl (by rfl) E.z_len (by rfl) E.z_set (sim_lcK (own := [("note", 8)]) rfl sc_alike_notes.nd (blkOk_by (N := N_alike_notes) (sc := defScope s_alike_notes) (by decide +kernel)) (fun _ _ _ _ _ => (simG_name sc_alike_notes.nd)) (fun _ _ _ _ _ => simTs_nil) (fun _ _ _ _ _ => (sim_ix (r := fun _ _ _ _ => True) (ixgA hr.units) (sim_var 3) (sim_var 8) (fun _ _ => rfl))) (by decide))) (nomark _)) (simB_cons (simS_set sc_alike_notes.nd (sim_lenSet rfl (by rfl) E.z_len (by rfl) E.z_set (sim_lcK (own := [("note", 8)]) rfl sc_alike_notes.nd (blkOk_by (N := N_alike_notes) (sc := defScope s_alike_notes) (by decide +kernel)) (fun _ _ _ _ _ => (simG_name sc_alike_notes.nd)) (fun _ _ _ _ _ => simTs_nil) (fun _ _ _ _ _ => (sim_ix (r := fun _ _ _ _ => True) (ixgA hr.units) (sim_var 3) (sim_var 8) (fun _ _ => rfl))) (by decide))))
    (simB_cons (simS_set sc_alike_notes.nd (sim_dc (own := [("row", 7)]) rfl sc_alike_notes.nd (simI_seq (sim_var 1)) (blkOk_by (N := N_alike_notes) (sc := defScope s_alike_notes) (by decide +kernel)) (fun _ _ _ _ _ => (simG_name sc_alike_notes.nd)) (fun _ _ _ _ _ => simTs_nil) (fun _ _ _ _ _ => (sim_ix (r := fun _ _ _ _ => True) (ixgA hr.units) (sim_var 7) sim_int (fun _ _ => rfl))) (fun _ _ _ _ _ => (sim_tup (simA_cons (sim_ix (r := fun _ _ _ _ => True) (ixgA hr.units) (sim_var 3) (sim_ix (r := fun _ _ _ _ => True) (ixgA hr.units) (sim_var 7) sim_int (fun _ _ => rfl)) (fun _ _ => rfl)) (simA_cons (sim_ix (r := fun _ _ _ _ => True) (ixgA hr.units) (sim_var 7) sim_int (fun _ _ => rfl)) (simA_cons (sim_t1 crg_tuple (by rfl) E.z_tuple bt_tuple (sim_lc (own := [("part", 9)]) rfl sc_alike_notes.nd (simI_seq (sim_ix (r := fun _ _ _ _ => True) (ixgA hr.units) (sim_var 7) sim_int (fun _ _ => rfl))) (blkOk_by (by rfl)) (fun _ _ _ _ _ => (simG_name sc_alike_notes.nd)) (fun _ _ _ _ _ => simTs_nil) (fun _ _ _ _ _ => (sim_ix (r := fun _ _ _ _ => True) (ixgA hr.units) (sim_var 3) (sim_var 9) (fun _ _ => rfl))) (by decide))) simA_nil))))) (by decide)))
    (simB_cons (simS_set sc_alike_notes.nd (sim_sortedSet rfl hr.units (by rfl) E.z_sorted (by rfl) E.z_set (sim_lcK (own := [("note", 8)]) rfl sc_alike_notes.nd (blkOk_by (N := N_alike_notes) (sc := defScope s_alike_notes) (by decide +kernel)) (fun _ _ _ _ _ => (simG_name sc_alike_notes.nd)) (fun _ _ _ _ _ => simTs_nil) (fun _ _ _ _ _ => (sim_ix (r := fun _ _ _ _ => True) (ixgA hr.units) (sim_var 5) (sim_var 8) (fun _ _ => rfl))) (by decide))))
    (simB_one (simS_set sc_alike_notes.nd (sim_dcK (own := [("note", 8)]) rfl sc_alike_notes.nd (blkOk_by (N := N_alike_notes) (sc := defScope s_alike_notes) (by decide +kernel)) (fun _ _ _ _ _ => (simG_name sc_alike_notes.nd)) (fun _ _ _ _ _ => simTs_nil) (fun _ _ _ _ _ => (sim_var 8)) (fun _ _ _ _ _ => (sim_index (u65 hr) (sim_var 6) (sim_ix (r := fun _ _ _ _ => True) (ixgA hr.units) (sim_var 5) (sim_var 8) (fun _ _ => rfl)))) (by decide))))))))
    (simB_one (simS_ret (sim_var 3)))))))) (fun as r as' _ h => ⟨0, h⟩)
def c_least_box_1 : EV := (evLc (ivSeq (evCall 1 g_notes [] (evCons (evVar 0) evNil))) (gvN 8) (evB (ev2 gEq (ev2 gIxA (evVar 1) (evVar 8)) (ev2 gIxA (evVar 1) (evVar 3)))) (evVar 8) [8])
def l_least_box_1 : BV := (bFor (ivSeq (evCall 1 g_notes [] (evCons (evVar 0) evNil))) (gvN 3) (bSeq (bSet 6 c_least_box_1)
    (bPut 2 (evVar 3) (evIf (evB (ev2 gEq (ev2 gIxA (evVar 1) (evVar 3)) (ev2 gIxA (evVar 1) (evC (.str "-"))))) (evC (.str "-")) (ev1 gMinD (evVar 6))))))
def c_least_box_2 : EV := (evLc (ivSeq (ev2 gIxA (evCall 1 g_plain [] (evCons (evVar 0) evNil)) (evC (.int 1)))) (gvN 7) (evB (ev2 gEq (ev2 gIxA (evVar 2) (ev2 gIxA (evVar 7) (evC (.int 0)))) (ev2 gIxA (evVar 7) (evC (.int 0))))) (evVar 7) [7])
def c_least_box_3 : EV := (evLc (ivSeq (evVar 10)) (gvN 11) tYesA (evGet2 (evVar 2) (evVar 11) (evC (.str "-"))) [11])
def c_least_box_4 : EV := (evLc (ivSeq (evVar 4)) (gvT 3 (gvCons (gvN 3) (gvCons (gvN 9) (gvCons (gvN 10) gvNil)))) tYesA (evTup (evCons (evVar 3) (evCons (evVar 9) (evCons (ev1 gTuple c_least_box_3) evNil)))) [3, 9, 10])
def b_least_box : BV := (bSeq (bSet 1 (evCall 1 g_alike_notes [] (evCons (evVar 0) evNil)))
    (bSeq (bSet 2 evD0)
    (bSeq l_least_box_1
    (bSeq (bSet 4 c_least_box_2)
    (bSeq (bSet 5 c_least_box_4)
    (bRet (evTup (evCons (evTup (evCons (ev2 gIxA (evVar 0) (evC (.int 0))) (evCons (ev1 gTuple (evVar 5)) evNil))) (evCons (evVar 2) evNil)))))))))
def g_least_box : EV := gOf b_least_box N_least_box.length
theorem ok_least_box (E : En K mg) : FnOk P w K mg base CX0 11 E.a_least_box E.d_least_box P_least_box (spF ⟨P, w, K⟩ 1 g_least_box) :=
  fn_ok (fun _ => b_least_box) E.F_least_box sc_least_box (fun n cdv A outer s H Ex hr =>
    (simB_cons (simS_set sc_least_box.nd (sim_call (ok_alike_notes E) (hr.mono (by decide)) (by rfl) E.m_alike_notes E.F_alike_notes.kp E.b_alike_notes .nil (fun _ _ _ => Reps.nil) (simA_cons (sim_var 0) simA_nil)))
    (simB_cons (simS_set sc_least_box.nd sim_d0)
    (simB_cons (simS_for PassesOwn.never rfl (simI_seq (sim_call (ok_notes E) (hr.mono (by decide)) (by rfl) E.m_notes E.F_notes.kp E.b_notes .nil (fun _ _ _ => Reps.nil) (simA_cons (sim_var 0) simA_nil))) (simG_name sc_least_box.nd) (simB_cons (simS_setLc (own := [("other", 8)]) rfl sc_least_box.nd (sw_true rfl rfl rfl rfl) (simI_seq (sim_call (ok_notes E) (hr.mono (by decide)) (by rfl) E.m_notes E.F_notes.kp E.b_notes .nil (fun _ _ _ => Reps.nil) (simA_cons (sim_var 0) simA_nil))) (blkOk_by (N := N_least_box) (sc := defScope s_least_box) (by decide +kernel)) (fun _ _ _ _ _ => (simG_name sc_least_box.nd)) (fun _ _ _ _ _ => (simTs_one (simT_cmp (opg_eq hr.units) (sim_ix (r := fun _ _ _ _ => True) (ixgA hr.units) (sim_var 1) (sim_var 8) (fun _ _ => rfl)) (sim_ix (r := fun _ _ _ _ => True) (ixgA hr.units) (sim_var 1) (sim_var 3) (fun _ _ => rfl)) (nomark _)))) (fun _ _ _ _ _ => (sim_var 8)) (by decide))
    (simB_one (simS_put hr.units (sim_if (simT_cmp (opg_eq hr.units) (sim_ix (r := fun _ _ _ _ => True) (ixgA hr.units) (sim_var 1) (sim_var 3) (fun _ _ => rfl)) (sim_ix (r := fun _ _ _ _ => True) (ixgA hr.units) (sim_var 1) (sim_gstr E.c_NONE) (fun _ _ => rfl)) (nomark _)) (sim_gstr E.c_NONE) (sim_b1 (crg_minD rfl hr.units) (by rfl) E.z_min bt_min (sim_var 6))) (sim_var 3)))))
    (simB_cons (simS_setLc (own := [("row", 7)]) rfl sc_least_box.nd (sw_true rfl rfl rfl rfl) (simI_seq (sim_ix (r := fun _ _ _ _ => True) (ixgA hr.units) (sim_call (ok_plain E) (hr.mono (by decide)) (by rfl) E.m_plain E.F_plain.kp E.b_plain .nil (fun _ _ _ => Reps.nil) (simA_cons (sim_var 0) simA_nil)) sim_int (fun _ _ => rfl))) (blkOk_by (N := N_least_box) (sc := defScope s_least_box) (by decide +kernel)) (fun _ _ _ _ _ => (simG_name sc_least_box.nd)) (fun _ _ _ _ _ => (simTs_one (simT_cmp (opg_eq hr.units) (sim_ix (r := fun _ _ _ _ => True) (ixgA hr.units) (sim_var 2) (sim_ix (r := fun _ _ _ _ => True) (ixgA hr.units) (sim_var 7) sim_int (fun _ _ => rfl)) (fun _ _ => rfl)) (sim_ix (r := fun _ _ _ _ => True) (ixgA hr.units) (sim_var 7) sim_int (fun _ _ => rfl)) (nomark _)))) (fun _ _ _ _ _ => (sim_var 7)) (by decide))
    (simB_cons (simS_setLc (own := [("note", 3), ("faces", 9), ("sent", 10)]) rfl sc_least_box.nd (sw_true rfl rfl rfl rfl) (simI_seq (sim_var 4)) (blkOk_by (N := N_least_box) (sc := defScope s_least_box) (by decide +kernel)) (fun _ _ _ _ _ => (simG_tup rfl (simG_cons (simG_name sc_least_box.nd) (simG_cons (simG_name sc_least_box.nd) (simG_cons (simG_name sc_least_box.nd) simG_nil))))) (fun _ _ _ _ _ => simTs_nil) (fun _ _ _ _ _ => (sim_tup (simA_cons (sim_var 3) (simA_cons (sim_var 9) (simA_cons (sim_t1 crg_tuple (by rfl) E.z_tuple bt_tuple (sim_lc (own := [("part", 11)]) rfl sc_least_box.nd (simI_seq (sim_var 10)) (blkOk_by (by rfl)) (fun _ _ _ _ _ => (simG_name sc_least_box.nd)) (fun _ _ _ _ _ => simTs_nil) (fun _ _ _ _ _ => (sim_get2 hr.units (sim_var 2) (sim_var 11) (sim_gstr E.c_NONE))) (by decide))) simA_nil))))) (by decide))
    (simB_one (simS_ret (sim_tup (simA_cons (sim_tup (simA_cons (sim_ix (r := fun _ _ _ _ => True) (ixgA hr.units) (sim_var 0) sim_int (fun _ _ => rfl)) (simA_cons (sim_t1 crg_tuple (by rfl) E.z_tuple bt_tuple (sim_var 5)) simA_nil))) (simA_cons (sim_var 2) simA_nil))))))))))) (fun as r as' _ h => ⟨0, h⟩)
def c_finer_1 : EV := (evLc (ivSeq (evVar 6)) (gvN 7) tYesA (ev2 gIxA (evVar 1) (evVar 7)) [7])
def c_finer_2 : EV := (evDc (ivSeq (evVar 0)) (gvT 3 (gvCons (gvN 4) (gvCons (gvN 5) (gvCons (gvN 6) gvNil)))) tYesA (evVar 4) (evTup (evCons (evVar 5) (evCons (ev1 gTuple c_finer_1) evNil))) [4, 5, 6])
def c_finer_3 : EV := (evDc (ivKeys 2) (gvN 4) tYesA (evVar 4) (evM2 gIndex (evVar 3) (ev2 gIxA (evVar 2) (evVar 4))) [4])
def b_finer : BV := (bSeq (bSet 2 c_finer_2)
    (bSeq (bSet 3 (ev1 gSortedSet (ev1 gVals (evVar 2))))
    (bRet c_finer_3)))
def g_finer : EV := gOf b_finer N_finer.length
theorem ok_finer (E : En K mg) : FnOk P w K mg base CX0 1 E.a_finer E.d_finer P_finer (spF ⟨P, w, K⟩ 2 g_finer) :=
  fn_ok (fun _ => b_finer) E.F_finer sc_finer (fun n cdv A outer s H Ex hr =>
    (simB_cons (simS_set sc_finer.nd (sim_dc (own := [("note", 4), ("faces", 5), ("sent", 6)]) rfl sc_finer.nd (simI_seq (sim_var 0)) (blkOk_by (N := N_finer) (sc := defScope s_finer) (by decide +kernel)) (fun _ _ _ _ _ => (simG_tup rfl (simG_cons (simG_name sc_finer.nd) (simG_cons (simG_name sc_finer.nd) (simG_cons (simG_name sc_finer.nd) simG_nil))))) (fun _ _ _ _ _ => simTs_nil) (fun _ _ _ _ _ => (sim_var 4)) (fun _ _ _ _ _ => (sim_tup (simA_cons (sim_var 5) (simA_cons (sim_t1 crg_tuple (by rfl) E.z_tuple bt_tuple (sim_lc (own := [("part", 7)]) rfl sc_finer.nd (simI_seq (sim_var 6)) (blkOk_by (by rfl)) (fun _ _ _ _ _ => (simG_name sc_finer.nd)) (fun _ _ _ _ _ => simTs_nil) (fun _ _ _ _ _ => (sim_ix (r := fun _ _ _ _ => True) (ixgA hr.units) (sim_var 1) (sim_var 7) (fun _ _ => rfl))) (by decide))) simA_nil)))) (by decide)))
    (simB_cons (simS_set sc_finer.nd (sim_sortedSet rfl hr.units (by rfl) E.z_sorted (by rfl) E.z_set (sim_listVals rfl (by rfl) E.z_list (sim_var 2))))
    (simB_one (simS_ret (sim_dcK (own := [("note", 4)]) rfl sc_finer.nd (blkOk_by (N := N_finer) (sc := defScope s_finer) (by decide +kernel)) (fun _ _ _ _ _ => (simG_name sc_finer.nd)) (fun _ _ _ _ _ => simTs_nil) (fun _ _ _ _ _ => (sim_var 4)) (fun _ _ _ _ _ => (sim_index (u65 hr) (sim_var 3) (sim_ix (r := fun _ _ _ _ => True) (ixgA hr.units) (sim_var 2) (sim_var 4) (fun _ _ => rfl)))) (by decide))))))) (fun as r as' _ h => ⟨0, h⟩)
def c_numbers_by_1 : EV := (evDc (ivSeq (evVar 2)) (gvN 7) tYesA (ev2 gIxA (evVar 7) (evC (.int 0))) (evC (.int 0)) [7])
def l_numbers_by_1 : BV := (bFor (ivRng1 (ev2 gMin2 (evVar 1) (ev1 gLen (evVar 2)))) (gvN 4) (bSet 3 (evCall 2 g_finer [] (evCons (evVar 2) (evCons (evVar 3) evNil)))))
def b_numbers_by : BV := (bSeq (bAsg (gvT 2 (gvCons (gvN 5) (gvCons (gvN 6) gvNil))) (evCall 1 g_plain [] (evCons (evVar 0) evNil)))
    (bSeq (bSet 2 (evTup (evCons (evTup (evCons (evC (.str "-")) (evCons (evTupRg (ivRng1 (evVar 5))) (evCons (ev2 gMul (evC (.tup [.str "-"])) (evVar 5)) evNil)))) (evStar (evVar 6) evNil))))
    (bSeq (bSet 3 c_numbers_by_1)
    (bSeq l_numbers_by_1
    (bRet (evVar 3))))))
def g_numbers_by : EV := gOf b_numbers_by N_numbers_by.length
theorem ok_numbers_by (E : En K mg) : FnOk P w K mg base CX0 10 E.a_numbers_by E.d_numbers_by P_numbers_by (spF ⟨P, w, K⟩ 2 g_numbers_by) :=
  fn_ok (fun _ => b_numbers_by) E.F_numbers_by sc_numbers_by (fun n cdv A outer s H Ex hr =>
    (simB_cons (simS_asg (sim_call (ok_plain E) (hr.mono (by decide)) (by rfl) E.m_plain E.F_plain.kp E.b_plain .nil (fun _ _ _ => Reps.nil) (simA_cons (sim_var 0) simA_nil)) (simG_tup rfl (simG_cons (simG_name sc_numbers_by.nd) (simG_cons (simG_name sc_numbers_by.nd) simG_nil))))
    (simB_cons (simS_set sc_numbers_by.nd (sim_tup (simA_cons (sim_tup (simA_cons (sim_gstr E.c_NONE) (simA_cons (sim_tupRg rfl (by rfl) E.z_tuple (by rfl) E.z_range (sim_var 5)) (simA_cons (sim_op opg_mul (sim_cst (sim_tup (simA_cons (sim_gstr E.c_NONE) simA_nil)) rfl) (sim_var 5)) simA_nil)))) (simA_star (sim_var 6) simA_nil))))
    (simB_cons (simS_setDc (own := [("row", 7)]) rfl sc_numbers_by.nd (sw_trueD rfl rfl rfl rfl) (simI_seq (sim_var 2)) (blkOk_by (N := N_numbers_by) (sc := defScope s_numbers_by) (by decide +kernel)) (fun _ _ _ _ _ => (simG_name sc_numbers_by.nd)) (fun _ _ _ _ _ => simTs_nil) (fun _ _ _ _ _ => (sim_ix (r := fun _ _ _ _ => True) (ixgA hr.units) (sim_var 7) sim_int (fun _ _ => rfl))) (fun _ _ _ _ _ => sim_int) (by decide))
    (simB_cons (simS_for PassesOwn.never rfl (simI_range1 (by rfl) E.z_range (sim_b2 (crg_min2 rfl) (by rfl) E.z_min bt_min (sim_var 1) (sim_b1 crg_len (by rfl) E.z_len bt_len (sim_var 2)))) (simG_name sc_numbers_by.nd) (simB_one (simS_set sc_numbers_by.nd (sim_call (ok_finer E) (hr.mono (by decide)) (by rfl) E.m_finer E.F_finer.kp E.b_finer .nil (fun _ _ _ => Reps.nil) (simA_cons (sim_var 2) (simA_cons (sim_var 3) simA_nil))))))
    (simB_one (simS_ret (sim_var 3)))))))) (fun as r as' _ h => ⟨0, h⟩)
def l_classes_by_1 : BV := (bFor (ivSeq (ev1 gSorted (evVar 3))) (gvN 2) (bPut 4 (ev2 gIxA (evVar 3) (evVar 2)) (ev2 gAdd (evGet2 (evVar 4) (ev2 gIxA (evVar 3) (evVar 2)) (evTup evNil)) (evTup (evCons (evVar 2) evNil)))))
def b_classes_by : BV := (bSeq (bPar 3 4 (evCall 2 g_numbers_by [] (evCons (evVar 0) (evCons (evVar 1) evNil))) evD0)
    (bSeq l_classes_by_1
    (bRet (ev1 gSorted (ev1 gVals (evVar 4))))))
def g_classes_by : EV := gOf b_classes_by N_classes_by.length
theorem ok_classes_by (E : En K mg) : FnOk P w K mg base CX0 11 E.a_classes_by E.d_classes_by P_classes_by (spF ⟨P, w, K⟩ 2 g_classes_by) :=
  fn_ok (fun _ => b_classes_by) E.F_classes_by sc_classes_by (fun n cdv A outer s H Ex hr =>
    (simB_cons (simS_par rfl sc_classes_by.nd (sim_call (ok_numbers_by E) (hr.mono (by decide)) (by rfl) E.m_numbers_by E.F_numbers_by.kp E.b_numbers_by .nil (fun _ _ _ => Reps.nil) (simA_cons (sim_var 0) (simA_cons (sim_var 1) simA_nil))) sim_d0)
    (simB_cons (simS_for PassesOwn.never rfl (simI_seq (sim_b1 (crg_sorted rfl hr.units) (by rfl) E.z_sorted bt_sorted (sim_var 3))) (simG_name sc_classes_by.nd) (simB_one (simS_put hr.units (sim_op opg_add (sim_get2 hr.units (sim_var 4) (sim_ix (r := fun _ _ _ _ => True) (ixgA hr.units) (sim_var 3) (sim_var 2) (fun _ _ => rfl)) (sim_tup simA_nil)) (sim_tup (simA_cons (sim_var 2) simA_nil))) (sim_ix (r := fun _ _ _ _ => True) (ixgA hr.units) (sim_var 3) (sim_var 2) (fun _ _ => rfl)))))
    (simB_one (simS_ret (sim_b1 (crg_sorted rfl hr.units) (by rfl) E.z_sorted bt_sorted (sim_listVals rfl (by rfl) E.z_list (sim_var 4)))))))) (fun as r as' _ h => ⟨0, h⟩)
def b_classes_of : BV := (bRet (evCall 2 g_classes_by [] (evCons (evVar 0) (evCons (ev1 gLen (evCall 1 g_notes [] (evCons (evVar 0) evNil))) evNil))))
def g_classes_of : EV := gOf b_classes_of N_classes_of.length
theorem ok_classes_of (E : En K mg) : FnOk P w K mg base CX0 12 E.a_classes_of E.d_classes_of P_classes_of (spF ⟨P, w, K⟩ 1 g_classes_of) :=
  fn_ok (fun _ => b_classes_of) E.F_classes_of sc_classes_of (fun n cdv A outer s H Ex hr =>
    (simB_one (simS_ret (sim_call (ok_classes_by E) (hr.mono (by decide)) (by rfl) E.m_classes_by E.F_classes_by.kp E.b_classes_by .nil (fun _ _ _ => Reps.nil) (simA_cons (sim_var 0) (simA_cons (sim_b1 crg_len (by rfl) E.z_len bt_len (sim_call (ok_notes E) (hr.mono (by decide)) (by rfl) E.m_notes E.F_notes.kp E.b_notes .nil (fun _ _ _ => Reps.nil) (simA_cons (sim_var 0) simA_nil))) simA_nil)))))) (fun as r as' _ h => ⟨0, h⟩)
def l_sees_all_1 : BV := (whileL (evB (ev2 gNe (evCall 2 g_classes_by [] (evCons (evVar 0) (evCons (evVar 1) evNil))) (evCall 1 g_classes_of [] (evCons (evVar 0) evNil)))) (bAug 1 (fun i j => i + j) (evC (.int 1))) 40)
def b_sees_all : BV := (bSeq (bSet 1 (evC (.int 0)))
    (bSeq l_sees_all_1
    (bRet (evVar 1))))
def g_sees_all : EV := gOf b_sees_all N_sees_all.length
theorem ok_sees_all (E : En K mg) : FnOk P w K mg base CX0 13 E.a_sees_all E.d_sees_all P_sees_all (spF ⟨P, w, K⟩ 1 g_sees_all) :=
  fn_ok (fun _ => b_sees_all) E.F_sees_all sc_sees_all (fun n cdv A outer s H Ex hr =>
    (simB_cons (simS_set sc_sees_all.nd sim_int)
    (simB_cons (simS_while 40 PassesOwn.never (simT_cmp (opg_ne hr.units) (sim_call (ok_classes_by E) (hr.mono (by decide)) (by rfl) E.m_classes_by E.F_classes_by.kp E.b_classes_by .nil (fun _ _ _ => Reps.nil) (simA_cons (sim_var 0) (simA_cons (sim_var 1) simA_nil))) (sim_call (ok_classes_of E) (hr.mono (by decide)) (by rfl) E.m_classes_of E.F_classes_of.kp E.b_classes_of .nil (fun _ _ _ => Reps.nil) (simA_cons (sim_var 0) simA_nil)) (nomark _)) (simB_one (simS_aug ip_add sc_sees_all.nd sim_int)))
    (simB_one (simS_ret (sim_var 1)))))) (fun as r as' _ h => ⟨0, h⟩)
def b_q_box : BV := (bSeq (bSet 2 (evIf (evB (ev2 gLt (evVar 1) (ev1 gLen (evVar 0)))) (ev2 gIxA (evVar 0) (evVar 1)) (evC (.int 0))))
    (bRet (evLst (evCons (ev2 gMul (ev1 gAbs (evVar 2)) (ev1 gInt (ev2 gGe (ev1 gAbs (evVar 2)) (ev2 gPow (evC (.int 10)) (evC (.int 18)))))) (evCons (ev2 gAdd (ev2 gAdd (ev2 gMod (ev1 gInt (evVar 2)) (evC (.int 2305843009213693951))) (ev2 gMul (evC (.int 39373)) (evVar 1))) (evC (.int 1273))) (evCons (evC (.int 0)) evNil))))))
def g_q_box : EV := gOf b_q_box N_q_box.length
theorem ok_q_box (E : En K mg) : FnOk P w K mg base CX0 1 E.a_q_box E.d_q_box P_q_box (spF ⟨P, w, K⟩ 2 g_q_box) :=
  fn_ok (fun _ => b_q_box) E.F_q_box sc_q_box (fun n cdv A outer s H Ex hr =>
    (simB_cons (simS_set sc_q_box.nd (sim_if (simT_cmp opg_lt (sim_var 1) (sim_b1 crg_len (by rfl) E.z_len bt_len (sim_var 0)) (nomark _)) (sim_ix (r := fun _ _ _ _ => True) (ixgA hr.units) (sim_var 0) (sim_var 1) (fun _ _ => rfl)) sim_int))
    (simB_one (simS_ret (sim_lst (simA_cons (sim_op opg_mul (sim_b1 crg_abs (by rfl) E.z_abs bt_abs (sim_var 2)) (sim_t1 crg_int (by rfl) E.z_int bt_int (sim_cmp opg_ge (sim_b1 crg_abs (by rfl) E.z_abs bt_abs (sim_var 2)) (sim_op opg_pow sim_int sim_int) (nomark _)))) (simA_cons (sim_op opg_add (sim_op opg_add (sim_op opg_mod (sim_t1 crg_int (by rfl) E.z_int bt_int (sim_var 2)) sim_int) (sim_op opg_mul sim_int (sim_var 1))) sim_int) (simA_cons sim_int simA_nil)))))))) (fun as r as' _ h => ⟨0, h⟩)
def b_q_take : BV := (bSeq (bIf (evB (ev2 gGt (ev2 gIxA (evVar 0) (evC (.int 0))) (evC (.int 0)))) (bSeq (bSet 5 (ev2 gMod (ev1 gInt (ev2 gIxA (evVar 0) (evC (.int 0)))) (evVar 1)))
    (bSeq (bPut 0 (evC (.int 0)) (ev2 gDiv (ev2 gIxA (evVar 0) (evC (.int 0))) (evVar 1)))
    (bRet (evVar 5)))) bNil)
    (bSeq (bPut 0 (evC (.int 2)) (ev2 gAdd (ev2 gIxA (evVar 0) (evC (.int 2))) (evC (.int 1))))
    (bSeq (bSet 2 (ev2 gMod (ev1 gInt (ev2 gMul (ev2 gAdd (ev2 gIxA (evVar 0) (evC (.int 1))) (ev2 gMul (evC (.int 48271)) (ev2 gIxA (evVar 0) (evC (.int 2))))) (ev2 gAdd (evC (.int 39373)) (ev2 gIxA (evVar 0) (evC (.int 2)))))) (evC (.int 2147483647))))
    (bSeq (bSet 3 (ev2 gAdd (ev2 gMod (ev1 gInt (evVar 2)) (evC (.int 40009))) (evC (.int 7))))
    (bSeq (bSet 4 (ev2 gMod (ev1 gInt (ev2 gMul (ev2 gAdd (ev2 gAdd (evVar 2) (ev2 gIxA (evVar 0) (evC (.int 2)))) (ev2 gDiv (ev2 gIxA (evVar 0) (evC (.int 1))) (evC (.int 1000003)))) (evVar 3))) (evC (.int 2147483629))))
    (bRet (ev2 gMod (ev1 gInt (ev2 gDiv (ev2 gMod (ev1 gInt (ev2 gAdd (ev2 gMul (evVar 4) (evC (.int 48271))) (evVar 2))) (evC (.int 2147483587))) (evC (.int 64)))) (evVar 1))))))))
def g_q_take : EV := gOf b_q_take N_q_take.length
theorem ok_q_take (E : En K mg) : FnOk P w K mg base CX0 1 E.a_q_take E.d_q_take P_q_take (spF ⟨P, w, K⟩ 2 g_q_take) :=
  fn_ok (fun _ => b_q_take) E.F_q_take sc_q_take (fun n cdv A outer s H Ex hr =>
    (simB_cons (simS_if (simT_cmp opg_gt (sim_ix (r := fun _ _ _ _ => True) (ixgA hr.units) (sim_var 0) sim_int (fun _ _ => rfl)) sim_int (nomark _)) (simB_cons (simS_set sc_q_take.nd (sim_op opg_mod (sim_t1 crg_int (by rfl) E.z_int bt_int (sim_ix (r := fun _ _ _ _ => True) (ixgA hr.units) (sim_var 0) sim_int (fun _ _ => rfl))) (sim_var 1)))
    (simB_cons (simS_put hr.units (sim_op opg_div (sim_ix (r := fun _ _ _ _ => True) (ixgA hr.units) (sim_var 0) sim_int (fun _ _ => rfl)) (sim_var 1)) sim_int)
    (simB_one (simS_ret (sim_var 5))))) simB_nil)
    (simB_cons (simS_put hr.units (sim_op opg_add (sim_ix (r := fun _ _ _ _ => True) (ixgA hr.units) (sim_var 0) sim_int (fun _ _ => rfl)) sim_int) sim_int)
    (simB_cons (simS_set sc_q_take.nd (sim_op opg_mod (sim_t1 crg_int (by rfl) E.z_int bt_int (sim_op opg_mul (sim_op opg_add (sim_ix (r := fun _ _ _ _ => True) (ixgA hr.units) (sim_var 0) sim_int (fun _ _ => rfl)) (sim_op opg_mul sim_int (sim_ix (r := fun _ _ _ _ => True) (ixgA hr.units) (sim_var 0) sim_int (fun _ _ => rfl)))) (sim_op opg_add sim_int (sim_ix (r := fun _ _ _ _ => True) (ixgA hr.units) (sim_var 0) sim_int (fun _ _ => rfl))))) sim_int))
    (simB_cons (simS_set sc_q_take.nd (sim_op opg_add (sim_op opg_mod (sim_t1 crg_int (by rfl) E.z_int bt_int (sim_var 2)) sim_int) sim_int))
    (simB_cons (simS_set sc_q_take.nd (sim_op opg_mod (sim_t1 crg_int (by rfl) E.z_int bt_int (sim_op opg_mul (sim_op opg_add (sim_op opg_add (sim_var 2) (sim_ix (r := fun _ _ _ _ => True) (ixgA hr.units) (sim_var 0) sim_int (fun _ _ => rfl))) (sim_op opg_div (sim_ix (r := fun _ _ _ _ => True) (ixgA hr.units) (sim_var 0) sim_int (fun _ _ => rfl)) sim_int)) (sim_var 3))) sim_int))
    (simB_one (simS_ret (sim_op opg_mod (sim_t1 crg_int (by rfl) E.z_int bt_int (sim_op opg_div (sim_op opg_mod (sim_t1 crg_int (by rfl) E.z_int bt_int (sim_op opg_add (sim_op opg_mul (sim_var 4) sim_int) (sim_var 2))) sim_int) sim_int)) (sim_var 1)))))))))) (fun as r as' _ h => ⟨0, h⟩)
def l_q_cells_1 : BV := (bFor (ivEnum (evSl (evVar 0) (eoSome (evVar 1)) (eoSome (evC (.int 63))))) (gvT 2 (gvCons (gvN 3) (gvCons (gvN 4) gvNil))) (bSeq (bSet 5 (ev2 gMod (ev1 gInt (evVar 3)) (evVar 1)))
    (bPut 2 (evVar 5) (ev2 gAdd (ev2 gIxA (evVar 2) (evVar 5)) (ev2 gMul (evVar 4) (ev2 gAdd (evVar 3) (evC (.int 2))))))))
def b_q_cells : BV := (bSeq (bSet 2 (evOrV (ev1 gList (evSl (evVar 0) eoNone (eoSome (evVar 1)))) (evF (.lst [.int 0]))))
    (bSeq l_q_cells_1
    (bRet (evVar 2))))
def g_q_cells : EV := gOf b_q_cells N_q_cells.length
theorem ok_q_cells (E : En K mg) : FnOk P w K mg base CX0 1 E.a_q_cells E.d_q_cells P_q_cells (spF ⟨P, w, K⟩ 2 g_q_cells) :=
  fn_ok (fun _ => b_q_cells) E.F_q_cells sc_q_cells (fun n cdv A outer s H Ex hr =>
    (simB_cons (simS_set sc_q_cells.nd (sim_orV (sim_t1 crg_list (by rfl) E.z_list bt_list (sim_sl (sim_var 0) simO_none (simO_some (sim_var 1)))) (sim_one (sim_cst (sim_lst (simA_cons sim_int simA_nil)) rfl))))
    (simB_cons (simS_for PassesOwn.never rfl (simI_enum (by rfl) E.z_enumerate (sim_sl (sim_var 0) (simO_some (sim_var 1)) (simO_some sim_int))) (simG_tup rfl (simG_cons (simG_name sc_q_cells.nd) (simG_cons (simG_name sc_q_cells.nd) simG_nil))) (simB_cons (simS_set sc_q_cells.nd (sim_op opg_mod (sim_t1 crg_int (by rfl) E.z_int bt_int (sim_var 3)) (sim_var 1)))
    (simB_one (simS_put hr.units (sim_op opg_add (sim_ix (r := fun _ _ _ _ => True) (ixgA hr.units) (sim_var 2) (sim_var 5) (fun _ _ => rfl)) (sim_op opg_mul (sim_var 4) (sim_op opg_add (sim_var 3) sim_int))) (sim_var 5)))))
    (simB_one (simS_ret (sim_var 2)))))) (fun as r as' _ h => ⟨0, h⟩)
def b_q_of : BV := (bRet (ev2 gIxA (evVar 1) (evCallIo 2 g_q_take [] (evCons (evVar 0) (evCons (ev1 gLen (evVar 1)) evNil)))))
def g_q_of : EV := gOf b_q_of N_q_of.length
theorem ok_q_of (E : En K mg) : FnOk P w K mg base CX0 2 E.a_q_of E.d_q_of P_q_of (spF ⟨P, w, K⟩ 2 g_q_of) :=
  fn_ok (fun _ => b_q_of) E.F_q_of sc_q_of (fun n cdv A outer s H Ex hr =>
    (simB_one (simS_ret (sim_ix (r := fun _ _ _ _ => True) (ixgA hr.units) (sim_var 1) (sim_callIo (ok_q_take E) (hr.mono (by decide)) (by rfl) E.m_q_take E.F_q_take.kp E.b_q_take .nil (fun _ _ _ => Reps.nil) (simA_cons (sim_var 0) (simA_cons (sim_b1 crg_len (by rfl) E.z_len bt_len (sim_var 1)) simA_nil))) (fun _ _ => rfl))))) (fun as r as' _ h => ⟨0, h⟩)
def l_q_pick_1 : BV := (bFor (ivRng1 (ev2 gMin2 (evVar 2) (ev1 gLen (evVar 4)))) (gvN 3) (bExp (evMt 5 fAppend true (evMt 4 fPop false (evCallIo 2 g_q_take [] (evCons (evVar 0) (evCons (ev1 gLen (evVar 4)) evNil)))))))
def b_q_pick : BV := (bSeq (bPar 4 5 (ev1 gList (evVar 1)) (evLst evNil))
    (bSeq l_q_pick_1
    (bRet (evVar 5))))
def g_q_pick : EV := gOf b_q_pick N_q_pick.length
theorem ok_q_pick (E : En K mg) : FnOk P w K mg base CX0 2 E.a_q_pick E.d_q_pick P_q_pick (spF ⟨P, w, K⟩ 3 g_q_pick) :=
  fn_ok (fun _ => b_q_pick) E.F_q_pick sc_q_pick (fun n cdv A outer s H Ex hr =>
    (simB_cons (simS_par rfl sc_q_pick.nd (sim_t1 crg_list (by rfl) E.z_list bt_list (sim_var 1)) (sim_lst simA_nil))
    (simB_cons (simS_for PassesOwn.never rfl (simI_range1 (by rfl) E.z_range (sim_b2 (crg_min2 rfl) (by rfl) E.z_min bt_min (sim_var 2) (sim_b1 crg_len (by rfl) E.z_len bt_len (sim_var 4)))) (simG_name sc_q_pick.nd) (simB_one (simS_exp (sim_append (sim_popAt (sim_callIo (ok_q_take E) (hr.mono (by decide)) (by rfl) E.m_q_take E.F_q_take.kp E.b_q_take .nil (fun _ _ _ => Reps.nil) (simA_cons (sim_var 0) (simA_cons (sim_b1 crg_len (by rfl) E.z_len bt_len (sim_var 4)) simA_nil))))))))
    (simB_one (simS_ret (sim_var 5)))))) (fun as r as' _ h => ⟨0, h⟩)
def b_q_lists (g : EV) : BV := (bRet (evIf (evB (ev1 (gIsa ["list", "tuple"]) (evVar 0))) (evLc (ivSeq (evVar 0)) (gvN 1) tYesA (evCall 1 g [] (evCons (evVar 1) evNil)) [1]) (evVar 0)))
def gd_q_lists : Nat → EV
  | 0 => fun _ => none
  | d + 1 => gOf (b_q_lists (gd_q_lists d)) N_q_lists.length
def g_q_lists : EV := gd_q_lists 8
theorem okd_q_lists (E : En K mg) : ∀ d, FnOk P w K mg base CX0 (0 + d + 1) E.a_q_lists E.d_q_lists P_q_lists (spF ⟨P, w, K⟩ 1 (gd_q_lists d))
  | 0 => fn_ok (fun _ => bNever) E.F_q_lists sc_q_lists (fun _ _ _ _ _ _ _ _ => simB_never) (fun _ _ _ _ h => nomatch h)
  | d + 1 => by
    have ih := okd_q_lists E d
    exact fn_ok (fun _ => b_q_lists (gd_q_lists d)) E.F_q_lists sc_q_lists (fun n cdv A outer s H Ex hr =>
    (simB_one (simS_ret (sim_if (simT_val (sim_isT (cs := ["list", "tuple"]) rfl (by decide) (by rfl) E.z_isinstance (sim_var 0) (pa_ty (by rfl) E.z_list bt_list (pa_ty (by rfl) E.z_tuple bt_tuple pa_ty0)))) (sim_lc (own := [("_law_bit", 1)]) rfl sc_q_lists.nd (simI_seq (sim_var 0)) (blkOk_by (N := N_q_lists) (sc := defScope s_q_lists) (by decide +kernel)) (fun _ _ _ _ _ => (simG_name sc_q_lists.nd)) (fun _ _ _ _ _ => simTs_nil) (fun _ _ _ _ _ => (sim_call ih (hr.mono (by omega)) (by rfl) E.m_q_lists E.F_q_lists.kp E.b_q_lists .nil (fun _ _ _ => Reps.nil) (simA_cons (sim_var 1) simA_nil))) (by decide)) (sim_var 0))))) (fun as r as' _ h => ⟨0, h⟩)
theorem ok_q_lists (E : En K mg) : FnOk P w K mg base CX0 9 E.a_q_lists E.d_q_lists P_q_lists (spF ⟨P, w, K⟩ 1 g_q_lists) := okd_q_lists E 8
def b_q_same (g : EV) : BV := (bSeq (bIf (evB (ev1 (gIsa ["list", "tuple"]) (evVar 1))) (bSeq (bIf (evOrT (evB (ev2 gNe (ev1 (gIsa ["list"]) (evVar 0)) (ev1 (gIsa ["list"]) (evVar 1)))) (evB (ev2 gNe (ev1 (gIsa ["tuple"]) (evVar 0)) (ev1 (gIsa ["tuple"]) (evVar 1))))) (bRet (evC (.bl false))) bNil)
    (bRet (evAnd (ev2 gEq (ev1 gLen (evVar 0)) (ev1 gLen (evVar 1))) (ev1 gAll (evLc (ivZip (evVar 0) (evVar 1)) (gvT 2 (gvCons (gvN 2) (gvCons (gvN 3) gvNil))) tYesA (evCall 2 g [] (evCons (evVar 2) (evCons (evVar 3) evNil))) [2, 3]))))) bNil)
    (bSeq (bIf (evOrT (evB (ev2 gIs (evVar 1) (evC .non))) (evB (ev1 (gIsa ["bool", "str"]) (evVar 1)))) (bRet (evAnd (ev2 gEq (evVar 0) (evVar 1)) (evAnd (ev2 gEq (ev1 (gIsa ["bool"]) (evVar 0)) (ev1 (gIsa ["bool"]) (evVar 1))) (ev2 gEq (ev2 gIs (evVar 0) (evC .non)) (ev2 gIs (evVar 1) (evC .non)))))) bNil)
    (bRet (evAnd (ev1 (gIsa ["int"]) (evVar 0)) (evAnd (evNot (ev1 (gIsa ["bool"]) (evVar 0))) (ev2 gEq (evVar 0) (evVar 1)))))))
def gd_q_same : Nat → EV
  | 0 => fun _ => none
  | d + 1 => gOf (b_q_same (gd_q_same d)) N_q_same.length
def g_q_same : EV := gd_q_same 8
theorem okd_q_same (E : En K mg) : ∀ d, FnOk P w K mg base CX0 (0 + d + 1) E.a_q_same E.d_q_same P_q_same (spF ⟨P, w, K⟩ 2 (gd_q_same d))
  | 0 => fn_ok (fun _ => bNever) E.F_q_same sc_q_same (fun _ _ _ _ _ _ _ _ => simB_never) (fun _ _ _ _ h => nomatch h)
  | d + 1 => by
    have ih := okd_q_same E d
    exact fn_ok (fun _ => b_q_same (gd_q_same d)) E.F_q_same sc_q_same (fun n cdv A outer s H Ex hr =>
    (simB_cons (simS_if (simT_val (sim_isT (cs := ["list", "tuple"]) rfl (by decide) (by rfl) E.z_isinstance (sim_var 1) (pa_ty (by rfl) E.z_list bt_list (pa_ty (by rfl) E.z_tuple bt_tuple pa_ty0)))) (simB_cons (simS_if (PW.pt (simW_or (simT_cmp (opg_ne hr.units) (sim_is1 (c := "list") rfl (by rfl) E.z_isinstance (sim_var 0) (by rfl) E.z_list bt_list) (sim_is1 (c := "list") rfl (by rfl) E.z_isinstance (sim_var 1) (by rfl) E.z_list bt_list) (nomark _)) (simW_or1 (simT_cmp (opg_ne hr.units) (sim_is1 (c := "tuple") rfl (by rfl) E.z_isinstance (sim_var 0) (by rfl) E.z_tuple bt_tuple) (sim_is1 (c := "tuple") rfl (by rfl) E.z_isinstance (sim_var 1) (by rfl) E.z_tuple bt_tuple) (nomark _))))) (simB_one (simS_ret sim_bl)) simB_nil)
    (simB_one (simS_ret (sim_and (sim_cmp (opg_eq hr.units) (sim_b1 crg_len (by rfl) E.z_len bt_len (sim_var 0)) (sim_b1 crg_len (by rfl) E.z_len bt_len (sim_var 1)) (nomark _)) (sim_one (sim_b1 (crg_all rfl) (by rfl) E.z_all bt_all (sim_lc (own := [("_law_mine", 2), ("_law_its", 3)]) rfl sc_q_same.nd (simI_zip (by rfl) E.z_zip (sim_var 0) (sim_var 1)) (blkOk_by (N := N_q_same) (sc := defScope s_q_same) (by decide +kernel)) (fun _ _ _ _ _ => (simG_tup rfl (simG_cons (simG_name sc_q_same.nd) (simG_cons (simG_name sc_q_same.nd) simG_nil)))) (fun _ _ _ _ _ => simTs_nil) (fun _ _ _ _ _ => (sim_call ih (hr.mono (by omega)) (by rfl) E.m_q_same E.F_q_same.kp E.b_q_same .nil (fun _ _ _ => Reps.nil) (simA_cons (sim_var 2) (simA_cons (sim_var 3) simA_nil)))) (by decide)))))))) simB_nil)
    (simB_cons (simS_if (PW.pt (simW_or (simT_cmp opg_is (sim_var 1) sim_non (nomark _)) (simW_or1 (simT_val (sim_isT (cs := ["bool", "str"]) rfl (by decide) (by rfl) E.z_isinstance (sim_var 1) (pa_ty (by rfl) E.z_bool bt_bool (pa_ty (by rfl) E.z_str bt_str pa_ty0))))))) (simB_one (simS_ret (sim_and (sim_cmp (opg_eq hr.units) (sim_var 0) (sim_var 1) (nomark _)) (sim_and (sim_cmp (opg_eq hr.units) (sim_is1 (c := "bool") rfl (by rfl) E.z_isinstance (sim_var 0) (by rfl) E.z_bool bt_bool) (sim_is1 (c := "bool") rfl (by rfl) E.z_isinstance (sim_var 1) (by rfl) E.z_bool bt_bool) (nomark _)) (sim_one (sim_cmp (opg_eq hr.units) (sim_cmp opg_is (sim_var 0) sim_non (nomark _)) (sim_cmp opg_is (sim_var 1) sim_non (nomark _)) (nomark _))))))) simB_nil)
    (simB_one (simS_ret (sim_and (sim_is1 (c := "int") rfl (by rfl) E.z_isinstance (sim_var 0) (by rfl) E.z_int bt_int) (sim_and (sim_not (sim_is1 (c := "bool") rfl (by rfl) E.z_isinstance (sim_var 0) (by rfl) E.z_bool bt_bool)) (sim_one (sim_cmp (opg_eq hr.units) (sim_var 0) (sim_var 1) (nomark _)))))))))) (fun as r as' _ h => ⟨0, h⟩)
theorem ok_q_same (E : En K mg) : FnOk P w K mg base CX0 9 E.a_q_same E.d_q_same P_q_same (spF ⟨P, w, K⟩ 2 g_q_same) := okd_q_same E 8
def b_q_turning : BV := (bRet (ev1 gTuple (evCallIo 3 g_q_pick [] (evCons (evVar 0) (evCons (evListRg (ivRng1 (evVar 1))) (evCons (evVar 1) evNil))))))
def g_q_turning : EV := gOf b_q_turning N_q_turning.length
theorem ok_q_turning (E : En K mg) : FnOk P w K mg base CX0 3 E.a_q_turning E.d_q_turning P_q_turning (spF ⟨P, w, K⟩ 2 g_q_turning) :=
  fn_ok (fun _ => b_q_turning) E.F_q_turning sc_q_turning (fun n cdv A outer s H Ex hr =>
    (simB_one (simS_ret (sim_t1 crg_tuple (by rfl) E.z_tuple bt_tuple (sim_callIo (ok_q_pick E) (hr.mono (by decide)) (by rfl) E.m_q_pick E.F_q_pick.kp E.b_q_pick .nil (fun _ _ _ => Reps.nil) (simA_cons (sim_var 0) (simA_cons (sim_listRg rfl (by rfl) E.z_list (by rfl) E.z_range (sim_var 1)) (simA_cons (sim_var 1) simA_nil)))))))) (fun as r as' _ h => ⟨0, h⟩)
def l_q_breath_1 : BV := (bFor (ivSeq (ev2 gIxA (evVar 6) (evC (.int 2)))) (gvN 7) (bIf (evB (ev2 gNe (evVar 7) (evC (.str "-")))) (bPut 5 (evVar 7) (ev2 gAdd (evGet2 (evVar 5) (evVar 7) (evC (.int 0))) (evGet2 (evVar 4) (ev2 gIxA (evVar 6) (evC (.int 0))) (evC (.int 0))))) bNil))
def l_q_breath_2 : BV := (bFor (ivSeq (ev2 gIxA (evVar 0) (evC (.int 1)))) (gvN 6) l_q_breath_1)
def c_q_breath_1 : EV := (evLc (ivKeys 5) (gvN 6) tYesA (ev2 gIxA (evVar 5) (evVar 6)) [6])
def l_q_breath_3 : BV := (bFor (ivRng1 (evC (.int 12))) (gvN 2) (bSeq (bSet 5 evD0)
    (bSeq l_q_breath_2
    (bPar 4 3 (evVar 5) (ev2 gMax2 (evVar 3) (ev1 gSum c_q_breath_1))))))
def b_q_breath : BV := (bSeq (bPar 3 4 (evC (.int 1)) (evD1 (evVar 1) (evC (.int 1))))
    (bSeq l_q_breath_3
    (bRet (evVar 3))))
def g_q_breath : EV := gOf b_q_breath N_q_breath.length
theorem ok_q_breath (E : En K mg) : FnOk P w K mg base CX0 1 E.a_q_breath E.d_q_breath P_q_breath (spF ⟨P, w, K⟩ 2 g_q_breath) :=
  fn_ok (fun _ => b_q_breath) E.F_q_breath sc_q_breath (fun n cdv A outer s H Ex hr =>
    (simB_cons (simS_par rfl sc_q_breath.nd sim_int (sim_d1 (sim_var 1) sim_int))
    (simB_cons (simS_for PassesOwn.never rfl (simI_range1 (by rfl) E.z_range sim_int) (simG_name sc_q_breath.nd) (simB_cons (simS_set sc_q_breath.nd sim_d0)
    (simB_cons (simS_for PassesOwn.never rfl (simI_seq (sim_ix (r := fun _ _ _ _ => True) (ixgA hr.units) (sim_var 0) sim_int (fun _ _ => rfl))) (simG_name sc_q_breath.nd) (simB_one (simS_for PassesOwn.never rfl (simI_seq (sim_ix (r := fun _ _ _ _ => True) (ixgA hr.units) (sim_var 6) sim_int (fun _ _ => rfl))) (simG_name sc_q_breath.nd) (simB_one (simS_if (simT_cmp (opg_ne hr.units) (sim_var 7) sim_str (nomark _)) (simB_one (simS_put hr.units (sim_op opg_add (sim_get2 hr.units (sim_var 5) (sim_var 7) sim_int) (sim_get2 hr.units (sim_var 4) (sim_ix (r := fun _ _ _ _ => True) (ixgA hr.units) (sim_var 6) sim_int (fun _ _ => rfl)) sim_int)) (sim_var 7))) simB_nil)))))
    (simB_one (simS_par rfl sc_q_breath.nd (sim_var 5) (sim_b2 (crg_max2 rfl) (by rfl) E.z_max bt_max (sim_var 3) (sim_b1 (crg_sum rfl) (by rfl) E.z_sum bt_sum (sim_lcK (own := [("_law_own", 6)]) rfl sc_q_breath.nd (blkOk_by (N := N_q_breath) (sc := defScope s_q_breath) (by decide +kernel)) (fun _ _ _ _ _ => (simG_name sc_q_breath.nd)) (fun _ _ _ _ _ => simTs_nil) (fun _ _ _ _ _ => (sim_ix (r := fun _ _ _ _ => True) (ixgA hr.units) (sim_var 5) (sim_var 6) (fun _ _ => rfl))) (by decide)))))))))
    (simB_one (simS_ret (sim_var 3)))))) (fun as r as' _ h => ⟨0, h⟩)
def c_q_known_kit_1 : EV := (evLc (ivRng1 (ev2 gIxA (evVar 3) (evC (.int 0)))) (gvN 10) tYesA (evTup (evCons (ev2 gIxA (evVar 4) (evVar 10)) (evCons (ev2 gIxA (evVar 4) (ev2 gIxA (evVar 7) (evVar 10))) (evCons (ev2 gIxA (evVar 8) (evVar 10)) evNil)))) [10])
def c_q_known_kit_2 : EV := (evLc (ivSeq (evVar 9)) (gvN 11) tYesA (ev2 gIxA (evVar 11) (evC (.int 2))) [11])
def c_q_known_kit_3 : EV := (evLc (ivSeq (evVar 9)) (gvN 11) tYesA (ev2 gIxA (evVar 11) (evC (.int 1))) [11])
def l_q_known_kit_1 : BV := (bFor (ivSeq (ev2 gIxA (evVar 3) (evC (.int 1)))) (gvT 3 (gvCons (gvN 6) (gvCons (gvN 7) (gvCons (gvN 8) gvNil)))) (bSeq (bSet 9 c_q_known_kit_1)
    (bSeq (bSet 9 (ev1 gSorted (evVar 9)))
    (bExp (evMt 5 fAppend true (evTup (evCons (evVar 6) (evCons (ev1 gTuple c_q_known_kit_3) (evCons (ev1 gTuple c_q_known_kit_2) evNil)))))))))
def b_q_known_kit : BV := (bSeq (bSet 1 (evF (.lst [.tup [.int 2, .tup [.tup [.str "c", .tup [.int 1, .int 0], .tup [.str "-", .str "c"]]]], .tup [.int 3, .tup [.tup [.str "c", .tup [.int 1, .int 2, .int 0], .tup [.str "-", .str "-", .str "c"]]]]])))
    (bSeq (bExp (evMt 1 fAppend true (evC (.tup [.int 2, .tup [.tup [.str "c", .tup [.int 1, .int 0], .tup [.str "c", .str "-"]]]]))))
    (bSeq (bSet 2 (evC (.tup [.tup [.str "p", .tup [.int 1, .int 0, .int 2], .tup [.str "-", .str "-", .str "p"]], .tup [.str "q", .tup [.int 0, .int 2, .int 1], .tup [.str "q", .str "-", .str "-"]], .tup [.str "r", .tup [.int 2, .int 1, .int 0], .tup [.str "-", .str "r", .str "-"]]])))
    (bSeq (bSet 3 (evCallIo 2 g_q_of [] (evCons (evVar 0) (evCons (ev2 gAdd (evVar 1) (evLst (evCons (evTup (evCons (evC (.int 3)) (evCons (evVar 2) evNil))) (evCons (evC (.tup [.int 2, .tup [.tup [.str "a", .tup [.int 1, .int 0], .tup [.str "-", .str "-"]], .tup [.str "b", .tup [.int 0, .int 1], .tup [.str "b", .str "a"]]]])) evNil)))) evNil))))
    (bSeq (bSet 4 (evCallIo 2 g_q_turning [] (evCons (evVar 0) (evCons (ev2 gIxA (evVar 3) (evC (.int 0))) evNil))))
    (bSeq (bSet 5 (evLst evNil))
    (bSeq l_q_known_kit_1
    (bRet (evTup (evCons (ev2 gIxA (evVar 3) (evC (.int 0))) (evCons (ev1 gTuple (evVar 5)) evNil)))))))))))
def g_q_known_kit : EV := gOf b_q_known_kit N_q_known_kit.length
theorem ok_q_known_kit (E : En K mg) : FnOk P w K mg base CX0 4 E.a_q_known_kit E.d_q_known_kit P_q_known_kit (spF ⟨P, w, K⟩ 1 g_q_known_kit) :=
  fn_ok (fun _ => b_q_known_kit) E.F_q_known_kit sc_q_known_kit (fun n cdv A outer s H Ex hr =>
    (simB_cons (simS_set sc_q_known_kit.nd (sim_cst (sim_lst (simA_cons (sim_tup (simA_cons sim_int (simA_cons (sim_tup (simA_cons (sim_tup (simA_cons sim_str (simA_cons (sim_tup (simA_cons sim_int (simA_cons sim_int simA_nil))) (simA_cons (sim_tup (simA_cons sim_str (simA_cons sim_str simA_nil))) simA_nil)))) simA_nil)) simA_nil))) (simA_cons (sim_tup (simA_cons sim_int (simA_cons (sim_tup (simA_cons (sim_tup (simA_cons sim_str (simA_cons (sim_tup (simA_cons sim_int (simA_cons sim_int (simA_cons sim_int simA_nil)))) (simA_cons (sim_tup (simA_cons sim_str (simA_cons sim_str (simA_cons sim_str simA_nil)))) simA_nil)))) simA_nil)) simA_nil))) simA_nil))) rfl))
    (simB_cons (simS_exp (sim_append (sim_cst (sim_tup (simA_cons sim_int (simA_cons (sim_tup (simA_cons (sim_tup (simA_cons sim_str (simA_cons (sim_tup (simA_cons sim_int (simA_cons sim_int simA_nil))) (simA_cons (sim_tup (simA_cons sim_str (simA_cons sim_str simA_nil))) simA_nil)))) simA_nil)) simA_nil))) rfl)))
    (simB_cons (simS_set sc_q_known_kit.nd (sim_cst (sim_tup (simA_cons (sim_tup (simA_cons sim_str (simA_cons (sim_tup (simA_cons sim_int (simA_cons sim_int (simA_cons sim_int simA_nil)))) (simA_cons (sim_tup (simA_cons sim_str (simA_cons sim_str (simA_cons sim_str simA_nil)))) simA_nil)))) (simA_cons (sim_tup (simA_cons sim_str (simA_cons (sim_tup (simA_cons sim_int (simA_cons sim_int (simA_cons sim_int simA_nil)))) (simA_cons (sim_tup (simA_cons sim_str (simA_cons sim_str (simA_cons sim_str simA_nil)))) simA_nil)))) (simA_cons (sim_tup (simA_cons sim_str (simA_cons (sim_tup (simA_cons sim_int (simA_cons sim_int (simA_cons sim_int simA_nil)))) (simA_cons (sim_tup (simA_cons sim_str (simA_cons sim_str (simA_cons sim_str simA_nil)))) simA_nil)))) simA_nil)))) rfl))
    (simB_cons (simS_set sc_q_known_kit.nd (sim_callIo (ok_q_of E) (hr.mono (by decide)) (by rfl) E.m_q_of E.F_q_of.kp E.b_q_of .nil (fun _ _ _ => Reps.nil) (simA_cons (sim_var 0) (simA_cons (sim_op opg_add (sim_var 1) (sim_lst (simA_cons (sim_tup (simA_cons sim_int (simA_cons (sim_var 2) simA_nil))) (simA_cons (sim_cst (sim_tup (simA_cons sim_int (simA_cons (sim_tup (simA_cons (sim_tup (simA_cons sim_str (simA_cons (sim_tup (simA_cons sim_int (simA_cons sim_int simA_nil))) (simA_cons (sim_tup (simA_cons sim_str (simA_cons sim_str simA_nil))) simA_nil)))) (simA_cons (sim_tup (simA_cons sim_str (simA_cons (sim_tup (simA_cons sim_int (simA_cons sim_int simA_nil))) (simA_cons (sim_tup (simA_cons sim_str (simA_cons sim_str simA_nil))) simA_nil)))) simA_nil))) simA_nil))) rfl) simA_nil)))) simA_nil))))
    (simB_cons (simS_set sc_q_known_kit.nd (sim_callIo (ok_q_turning E) (hr.mono (by decide)) (by rfl) E.m_q_turning E.F_q_turning.kp E.b_q_turning .nil (fun _ _ _ => Reps.nil) (simA_cons (sim_var 0) (simA_cons (sim_ix (r := fun _ _ _ _ => True) (ixgA hr.units) (sim_var 3) sim_int (fun _ _ => rfl)) simA_nil))))
    (simB_cons (simS_set sc_q_known_kit.nd (sim_lst simA_nil))
    (simB_cons (simS_for PassesOwn.never rfl (simI_seq (sim_ix (r := fun _ _ _ _ => True) (ixgA hr.units) (sim_var 3) sim_int (fun _ _ => rfl))) (simG_tup rfl (simG_cons (simG_name sc_q_known_kit.nd) (simG_cons (simG_name sc_q_known_kit.nd) (simG_cons (simG_name sc_q_known_kit.nd) simG_nil)))) (simB_cons (simS_setLc (own := [("_law_k", 10)]) rfl sc_q_known_kit.nd (sw_true rfl rfl rfl rfl) (simI_range1 (by rfl) E.z_range (sim_ix (r := fun _ _ _ _ => True) (ixgA hr.units) (sim_var 3) sim_int (fun _ _ => rfl))) (blkOk_by (N := N_q_known_kit) (sc := defScope s_q_known_kit) (by decide +kernel)) (fun _ _ _ _ _ => (simG_name sc_q_known_kit.nd)) (fun _ _ _ _ _ => simTs_nil) (fun _ _ _ _ _ => (sim_tup (simA_cons (sim_ix (r := fun _ _ _ _ => True) (ixgA hr.units) (sim_var 4) (sim_var 10) (fun _ _ => rfl)) (simA_cons (sim_ix (r := fun _ _ _ _ => True) (ixgA hr.units) (sim_var 4) (sim_ix (r := fun _ _ _ _ => True) (ixgA hr.units) (sim_var 7) (sim_var 10) (fun _ _ => rfl)) (fun _ _ => rfl)) (simA_cons (sim_ix (r := fun _ _ _ _ => True) (ixgA hr.units) (sim_var 8) (sim_var 10) (fun _ _ => rfl)) simA_nil))))) (by decide))
    (simB_cons (simS_set sc_q_known_kit.nd (sim_b1 (crg_sorted rfl hr.units) (by rfl) E.z_sorted bt_sorted (sim_var 9)))
    (simB_one (simS_exp (sim_append (sim_tup (simA_cons (sim_var 6) (simA_cons (sim_t1 crg_tuple (by rfl) E.z_tuple bt_tuple (sim_lc (own := [("_law_own", 11)]) rfl sc_q_known_kit.nd (simI_seq (sim_var 9)) (blkOk_by (N := N_q_known_kit) (sc := defScope s_q_known_kit) (by decide +kernel)) (fun _ _ _ _ _ => (simG_name sc_q_known_kit.nd)) (fun _ _ _ _ _ => simTs_nil) (fun _ _ _ _ _ => (sim_ix (r := fun _ _ _ _ => True) (ixgA hr.units) (sim_var 11) sim_int (fun _ _ => rfl))) (by decide))) (simA_cons (sim_t1 crg_tuple (by rfl) E.z_tuple bt_tuple (sim_lc (own := [("_law_own", 11)]) rfl sc_q_known_kit.nd (simI_seq (sim_var 9)) (blkOk_by (N := N_q_known_kit) (sc := defScope s_q_known_kit) (by decide +kernel)) (fun _ _ _ _ _ => (simG_name sc_q_known_kit.nd)) (fun _ _ _ _ _ => simTs_nil) (fun _ _ _ _ _ => (sim_ix (r := fun _ _ _ _ => True) (ixgA hr.units) (sim_var 11) sim_int (fun _ _ => rfl))) (by decide))) simA_nil))))))))))
    (simB_one (simS_ret (sim_tup (simA_cons (sim_ix (r := fun _ _ _ _ => True) (ixgA hr.units) (sim_var 3) sim_int (fun _ _ => rfl)) (simA_cons (sim_t1 crg_tuple (by rfl) E.z_tuple bt_tuple (sim_var 5)) simA_nil))))))))))))) (fun as r as' _ h => ⟨0, h⟩)
def c_q_kit_1 : EV := (evLc (ivSeq (evVar 3)) (gvN 8) tYesA (evCallIo 2 g_q_of [] (evCons (evVar 0) (evCons (evF (.lst [.int 0, .int 1, .int 1, .int 2])) evNil))) [8])
def c_q_kit_2 : EV := (evLc (ivRng1 (ev1 gLen (evVar 3))) (gvN 12) (evAndT (evB (ev2 gEq (ev2 gIxA (evVar 4) (evVar 12)) (evC (.int 2)))) (evOrT (evB (ev2 gLt (ev2 gIxA (evVar 4) (evVar 7)) (evC (.int 2)))) (evB (ev2 gGt (evVar 12) (evVar 7))))) (ev2 gIxA (evVar 3) (evVar 12)) [12])
def c_q_kit_3 : EV := (evLc (ivRng1 (ev1 gLen (evVar 3))) (gvN 12) (evOrT (evB (ev2 gEq (ev2 gIxA (evVar 4) (evVar 12)) (evC (.int 1)))) (evAndT (evB (ev2 gEq (ev2 gIxA (evVar 4) (evVar 12)) (evC (.int 0)))) (evB (ev2 gGt (evVar 12) (evVar 7))))) (ev2 gIxA (evVar 3) (evVar 12)) [12])
def c_q_kit_4 : EV := (evLc (ivRng1 (evVar 2)) (gvN 13) tYesA (evCallIo 2 g_q_of [] (evCons (evVar 0) (evCons (evVar 10) evNil))) [13])
def l_q_kit_1 : BV := (bFor (ivEnum (evVar 3)) (gvT 2 (gvCons (gvN 7) (gvCons (gvN 8) gvNil))) (bSeq (bSet 9 c_q_kit_2)
    (bSeq (bSet 10 (ev2 gAdd (evF (.lst [.str "-"])) (evVar 9)))
    (bSeq (bIf (evB (ev2 gEq (ev2 gIxA (evVar 4) (evVar 7)) (evC (.int 0)))) (bSet 10 (ev2 gAdd (evVar 10) c_q_kit_3)) bNil)
    (bSeq (bSet 11 c_q_kit_4)
    (bSeq (bIf (evB (ev2 gEq (ev2 gIxA (evVar 4) (evVar 7)) (evC (.int 1)))) (bPut 11 (evCallIo 2 g_q_take [] (evCons (evVar 0) (evCons (evVar 2) evNil))) (evVar 8)) bNil)
    (bExp (evMt 5 fAppend true (evTup (evCons (evVar 8) (evCons (evCallIo 2 g_q_turning [] (evCons (evVar 0) (evCons (evVar 2) evNil))) (evCons (ev1 gTuple (evVar 11)) evNil))))))))))))
def c_q_kit_5 : EV := (evLc (ivSeq (evVar 3)) (gvN 8) tYesA (evCall 2 g_q_breath [] (evCons (evVar 6) (evCons (evVar 8) evNil))) [8])
def b_q_kit : BV := (bSeq (bSet 2 (evCallIo 2 g_q_of [] (evCons (evVar 0) (evCons (evF (.lst [.int 2, .int 2, .int 2, .int 3])) evNil))))
    (bSeq (bSet 3 (ev1 gSorted (evCallIo 3 g_q_pick [] (evCons (evVar 0) (evCons (evF (.lst [.str "a", .str "b.1", .str "c", .str "k", .str "m2", .str "q", .str "z"])) (evCons (ev2 gAdd (evC (.int 1)) (evCallIo 2 g_q_take [] (evCons (evVar 0) (evCons (evVar 1) evNil)))) evNil))))))
    (bSeq (bSet 4 c_q_kit_1)
    (bSeq (bSet 5 (evLst evNil))
    (bSeq l_q_kit_1
    (bSeq (bSet 6 (evTup (evCons (evVar 2) (evCons (ev1 gTuple (evVar 5)) evNil))))
    (bRet (evIf (evB (ev2 gLt (ev1 gMaxL c_q_kit_5) (evC (.int 17)))) (evVar 6) (evCallIo 1 g_q_known_kit [] (evCons (evVar 0) evNil))))))))))
def g_q_kit : EV := gOf b_q_kit N_q_kit.length
theorem ok_q_kit (E : En K mg) : FnOk P w K mg base CX0 5 E.a_q_kit E.d_q_kit P_q_kit (spF ⟨P, w, K⟩ 2 g_q_kit) :=
  fn_ok (fun _ => b_q_kit) E.F_q_kit sc_q_kit (fun n cdv A outer s H Ex hr =>
    (simB_cons (simS_set sc_q_kit.nd (sim_callIo (ok_q_of E) (hr.mono (by decide)) (by rfl) E.m_q_of E.F_q_of.kp E.b_q_of .nil (fun _ _ _ => Reps.nil) (simA_cons (sim_var 0) (simA_cons (sim_cst (sim_lst (simA_cons sim_int (simA_cons sim_int (simA_cons sim_int (simA_cons sim_int simA_nil))))) rfl) simA_nil))))
    (simB_cons (simS_set sc_q_kit.nd (sim_b1 (crg_sorted rfl hr.units) (by rfl) E.z_sorted bt_sorted (sim_callIo (ok_q_pick E) (hr.mono (by decide)) (by rfl) E.m_q_pick E.F_q_pick.kp E.b_q_pick .nil (fun _ _ _ => Reps.nil) (simA_cons (sim_var 0) (simA_cons (sim_cst (sim_lst (simA_cons sim_str (simA_cons sim_str (simA_cons sim_str (simA_cons sim_str (simA_cons sim_str (simA_cons sim_str (simA_cons sim_str simA_nil)))))))) rfl) (simA_cons (sim_op opg_add sim_int (sim_callIo (ok_q_take E) (hr.mono (by decide)) (by rfl) E.m_q_take E.F_q_take.kp E.b_q_take .nil (fun _ _ _ => Reps.nil) (simA_cons (sim_var 0) (simA_cons (sim_var 1) simA_nil)))) simA_nil))))))
    (simB_cons (simS_set sc_q_kit.nd (sim_lc (own := [("_law_tag", 8)]) rfl sc_q_kit.nd (simI_seq (sim_var 3)) (blkOk_by (N := N_q_kit) (sc := defScope s_q_kit) (by decide +kernel)) (fun _ _ _ _ _ => (simG_name sc_q_kit.nd)) (fun _ _ _ _ _ => simTs_nil) (fun _ _ _ _ _ => (sim_callIo (ok_q_of E) (hr.mono (by decide)) (by rfl) E.m_q_of E.F_q_of.kp E.b_q_of .nil (fun _ _ _ => Reps.nil) (simA_cons (sim_var 0) (simA_cons (sim_cst (sim_lst (simA_cons sim_int (simA_cons sim_int (simA_cons sim_int (simA_cons sim_int simA_nil))))) rfl) simA_nil)))) (by decide)))
    (simB_cons (simS_set sc_q_kit.nd (sim_lst simA_nil))
    (simB_cons (simS_for PassesOwn.never rfl (simI_enum (by rfl) E.z_enumerate (sim_var 3)) (simG_tup rfl (simG_cons (simG_name sc_q_kit.nd) (simG_cons (simG_name sc_q_kit.nd) simG_nil))) (simB_cons (simS_setLc (own := [("_law_j", 12)]) rfl sc_q_kit.nd (sw_true rfl rfl rfl rfl) (simI_range1 (by rfl) E.z_range (sim_b1 crg_len (by rfl) E.z_len bt_len (sim_var 3))) (blkOk_by (N := N_q_kit) (sc := defScope s_q_kit) (by decide +kernel)) (fun _ _ _ _ _ => (simG_name sc_q_kit.nd)) (fun _ _ _ _ _ => (simTs_one (PW.pt (simW_and (simT_cmp (opg_eq hr.units) (sim_ix (r := fun _ _ _ _ => True) (ixgA hr.units) (sim_var 4) (sim_var 12) (fun _ _ => rfl)) sim_int (nomark _)) (simW_and1 (PW.pt (simW_or (simT_cmp opg_lt (sim_ix (r := fun _ _ _ _ => True) (ixgA hr.units) (sim_var 4) (sim_var 7) (fun _ _ => rfl)) sim_int (nomark _)) (simW_or1 (simT_cmp opg_gt (sim_var 12) (sim_var 7) (nomark _)))))))))) (fun _ _ _ _ _ => (sim_ix (r := fun _ _ _ _ => True) (ixgA hr.units) (sim_var 3) (sim_var 12) (fun _ _ => rfl))) (by decide))
    (simB_cons (simS_set sc_q_kit.nd (sim_op opg_add (sim_cst (sim_lst (simA_cons sim_str simA_nil)) rfl) (sim_var 9)))
    (simB_cons (simS_if (simT_cmp (opg_eq hr.units) (sim_ix (r := fun _ _ _ _ => True) (ixgA hr.units) (sim_var 4) (sim_var 7) (fun _ _ => rfl)) sim_int (nomark _)) (simB_one (simS_set sc_q_kit.nd (sim_op opg_add (sim_var 10) (sim_lc (own := [("_law_j", 12)]) rfl sc_q_kit.nd (simI_range1 (by rfl) E.z_range (sim_b1 crg_len (by rfl) E.z_len bt_len (sim_var 3))) (blkOk_by (N := N_q_kit) (sc := defScope s_q_kit) (by decide +kernel)) (fun _ _ _ _ _ => (simG_name sc_q_kit.nd)) (fun _ _ _ _ _ => (simTs_one (PW.pt (simW_or (simT_cmp (opg_eq hr.units) (sim_ix (r := fun _ _ _ _ => True) (ixgA hr.units) (sim_var 4) (sim_var 12) (fun _ _ => rfl)) sim_int (nomark _)) (simW_or1 (PW.pt (simW_and (simT_cmp (opg_eq hr.units) (sim_ix (r := fun _ _ _ _ => True) (ixgA hr.units) (sim_var 4) (sim_var 12) (fun _ _ => rfl)) sim_int (nomark _)) (simW_and1 (simT_cmp opg_gt (sim_var 12) (sim_var 7) (nomark _)))))))))) (fun _ _ _ _ _ => (sim_ix (r := fun _ _ _ _ => True) (ixgA hr.units) (sim_var 3) (sim_var 12) (fun _ _ => rfl))) (by decide))))) simB_nil)
    (simB_cons (simS_setLc (own := [("_law_spot", 13)]) rfl sc_q_kit.nd (sw_true rfl rfl rfl rfl) (simI_range1 (by rfl) E.z_range (sim_var 2)) (blkOk_by (N := N_q_kit) (sc := defScope s_q_kit) (by decide +kernel)) (fun _ _ _ _ _ => (simG_name sc_q_kit.nd)) (fun _ _ _ _ _ => simTs_nil) (fun _ _ _ _ _ => (sim_callIo (ok_q_of E) (hr.mono (by decide)) (by rfl) E.m_q_of E.F_q_of.kp E.b_q_of .nil (fun _ _ _ => Reps.nil) (simA_cons (sim_var 0) (simA_cons (sim_var 10) simA_nil)))) (by decide))
    (simB_cons (simS_if (simT_cmp (opg_eq hr.units) (sim_ix (r := fun _ _ _ _ => True) (ixgA hr.units) (sim_var 4) (sim_var 7) (fun _ _ => rfl)) sim_int (nomark _)) (simB_one (simS_put hr.units (sim_var 8) (sim_callIo (ok_q_take E) (hr.mono (by decide)) (by rfl) E.m_q_take E.F_q_take.kp E.b_q_take .nil (fun _ _ _ => Reps.nil) (simA_cons (sim_var 0) (simA_cons (sim_var 2) simA_nil))))) simB_nil)
    (simB_one (simS_exp (sim_append (sim_tup (simA_cons (sim_var 8) (simA_cons (sim_callIo (ok_q_turning E) (hr.mono (by decide)) (by rfl) E.m_q_turning E.F_q_turning.kp E.b_q_turning .nil (fun _ _ _ => Reps.nil) (simA_cons (sim_var 0) (simA_cons (sim_var 2) simA_nil))) (simA_cons (sim_t1 crg_tuple (by rfl) E.z_tuple bt_tuple (sim_var 11)) simA_nil)))))))))))))
    (simB_cons (simS_set sc_q_kit.nd (sim_tup (simA_cons (sim_var 2) (simA_cons (sim_t1 crg_tuple (by rfl) E.z_tuple bt_tuple (sim_var 5)) simA_nil))))
    (simB_one (simS_ret (sim_if (simT_cmp opg_lt (sim_b1 (crg_maxL rfl) (by rfl) E.z_max bt_max (sim_lc (own := [("_law_tag", 8)]) rfl sc_q_kit.nd (simI_seq (sim_var 3)) (blkOk_by (N := N_q_kit) (sc := defScope s_q_kit) (by decide +kernel)) (fun _ _ _ _ _ => (simG_name sc_q_kit.nd)) (fun _ _ _ _ _ => simTs_nil) (fun _ _ _ _ _ => (sim_call (ok_q_breath E) (hr.mono (by decide)) (by rfl) E.m_q_breath E.F_q_breath.kp E.b_q_breath .nil (fun _ _ _ => Reps.nil) (simA_cons (sim_var 6) (simA_cons (sim_var 8) simA_nil)))) (by decide))) sim_int (nomark _)) (sim_var 6) (sim_callIo (ok_q_known_kit E) (hr.mono (by decide)) (by rfl) E.m_q_known_kit E.F_q_known_kit.kp E.b_q_known_kit .nil (fun _ _ _ => Reps.nil) (simA_cons (sim_var 0) simA_nil)))))))))))) (fun as r as' _ h => ⟨0, h⟩)
def c_q_any_1 : EV := (evLc (ivRng1 (evVar 2)) (gvN 7) tYesA (evCallIo 2 g_q_of [] (evCons (evVar 0) (evCons (ev2 gAdd (evVar 3) (ev2 gMul (evF (.lst [.str "-"])) (evCallIo 2 g_q_take [] (evCons (evVar 0) (evCons (evC (.int 4)) evNil))))) evNil))) [7])
def l_q_any_1 : BV := (bFor (ivSeq (evVar 3)) (gvN 5) (bSeq (bSet 6 (ev1 gTuple c_q_any_1))
    (bExp (evMt 4 fAppend true (evTup (evCons (evVar 5) (evCons (evCallIo 2 g_q_turning [] (evCons (evVar 0) (evCons (evVar 2) evNil))) (evCons (evVar 6) evNil))))))))
def b_q_any : BV := (bSeq (bSet 2 (evCallIo 2 g_q_of [] (evCons (evVar 0) (evCons (evF (.lst [.int 2, .int 2, .int 2, .int 3])) evNil))))
    (bSeq (bSet 3 (ev1 gSorted (evCallIo 3 g_q_pick [] (evCons (evVar 0) (evCons (evF (.lst [.str "a", .str "b.1", .str "c", .str "k", .str "m2", .str "q", .str "z"])) (evCons (ev2 gAdd (evC (.int 1)) (evCallIo 2 g_q_take [] (evCons (evVar 0) (evCons (evVar 1) evNil)))) evNil))))))
    (bSeq (bSet 4 (evLst evNil))
    (bSeq l_q_any_1
    (bRet (evTup (evCons (evVar 2) (evCons (ev1 gTuple (evVar 4)) evNil))))))))
def g_q_any : EV := gOf b_q_any N_q_any.length
theorem ok_q_any (E : En K mg) : FnOk P w K mg base CX0 4 E.a_q_any E.d_q_any P_q_any (spF ⟨P, w, K⟩ 2 g_q_any) :=
  fn_ok (fun _ => b_q_any) E.F_q_any sc_q_any (fun n cdv A outer s H Ex hr =>
    (simB_cons (simS_set sc_q_any.nd (sim_callIo (ok_q_of E) (hr.mono (by decide)) (by rfl) E.m_q_of E.F_q_of.kp E.b_q_of .nil (fun _ _ _ => Reps.nil) (simA_cons (sim_var 0) (simA_cons (sim_cst (sim_lst (simA_cons sim_int (simA_cons sim_int (simA_cons sim_int (simA_cons sim_int simA_nil))))) rfl) simA_nil))))
    (simB_cons (simS_set sc_q_any.nd (sim_b1 (crg_sorted rfl hr.units) (by rfl) E.z_sorted bt_sorted (sim_callIo (ok_q_pick E) (hr.mono (by decide)) (by rfl) E.m_q_pick E.F_q_pick.kp E.b_q_pick .nil (fun _ _ _ => Reps.nil) (simA_cons (sim_var 0) (simA_cons (sim_cst (sim_lst (simA_cons sim_str (simA_cons sim_str (simA_cons sim_str (simA_cons sim_str (simA_cons sim_str (simA_cons sim_str (simA_cons sim_str simA_nil)))))))) rfl) (simA_cons (sim_op opg_add sim_int (sim_callIo (ok_q_take E) (hr.mono (by decide)) (by rfl) E.m_q_take E.F_q_take.kp E.b_q_take .nil (fun _ _ _ => Reps.nil) (simA_cons (sim_var 0) (simA_cons (sim_var 1) simA_nil)))) simA_nil))))))
    (simB_cons (simS_set sc_q_any.nd (sim_lst simA_nil))
    (simB_cons (simS_for PassesOwn.never rfl (simI_seq (sim_var 3)) (simG_name sc_q_any.nd) (simB_cons (simS_set sc_q_any.nd (sim_t1 crg_tuple (by rfl) E.z_tuple bt_tuple (sim_lc (own := [("_law_spot", 7)]) rfl sc_q_any.nd (simI_range1 (by rfl) E.z_range (sim_var 2)) (blkOk_by (N := N_q_any) (sc := defScope s_q_any) (by decide +kernel)) (fun _ _ _ _ _ => (simG_name sc_q_any.nd)) (fun _ _ _ _ _ => simTs_nil) (fun _ _ _ _ _ => (sim_callIo (ok_q_of E) (hr.mono (by decide)) (by rfl) E.m_q_of E.F_q_of.kp E.b_q_of .nil (fun _ _ _ => Reps.nil) (simA_cons (sim_var 0) (simA_cons (sim_op opg_add (sim_var 3) (sim_op opg_mul (sim_cst (sim_lst (simA_cons sim_str simA_nil)) rfl) (sim_callIo (ok_q_take E) (hr.mono (by decide)) (by rfl) E.m_q_take E.F_q_take.kp E.b_q_take .nil (fun _ _ _ => Reps.nil) (simA_cons (sim_var 0) (simA_cons sim_int simA_nil))))) simA_nil)))) (by decide))))
    (simB_one (simS_exp (sim_append (sim_tup (simA_cons (sim_var 5) (simA_cons (sim_callIo (ok_q_turning E) (hr.mono (by decide)) (by rfl) E.m_q_turning E.F_q_turning.kp E.b_q_turning .nil (fun _ _ _ => Reps.nil) (simA_cons (sim_var 0) (simA_cons (sim_var 2) simA_nil))) (simA_cons (sim_var 6) simA_nil)))))))))
    (simB_one (simS_ret (sim_tup (simA_cons (sim_var 2) (simA_cons (sim_t1 crg_tuple (by rfl) E.z_tuple bt_tuple (sim_var 4)) simA_nil)))))))))) (fun as r as' _ h => ⟨0, h⟩)
def b_q_drawn_kit : BV := (bSeq (bSet 2 (evCallIo 2 g_q_take [] (evCons (evVar 0) (evCons (evC (.int 4)) evNil))))
    (bSeq (bIf (evB (ev2 gEq (evVar 2) (evC (.int 0)))) (bRet (evCallIo 1 g_q_known_kit [] (evCons (evVar 0) evNil))) bNil)
    (bRet (evIf (evB (ev2 gEq (evVar 2) (evC (.int 1)))) (evCallIo 2 g_q_any [] (evCons (evVar 0) (evCons (evVar 1) evNil))) (evCallIo 2 g_q_kit [] (evCons (evVar 0) (evCons (evVar 1) evNil)))))))
def g_q_drawn_kit : EV := gOf b_q_drawn_kit N_q_drawn_kit.length
theorem ok_q_drawn_kit (E : En K mg) : FnOk P w K mg base CX0 6 E.a_q_drawn_kit E.d_q_drawn_kit P_q_drawn_kit (spF ⟨P, w, K⟩ 2 g_q_drawn_kit) :=
  fn_ok (fun _ => b_q_drawn_kit) E.F_q_drawn_kit sc_q_drawn_kit (fun n cdv A outer s H Ex hr =>
    (simB_cons (simS_set sc_q_drawn_kit.nd (sim_callIo (ok_q_take E) (hr.mono (by decide)) (by rfl) E.m_q_take E.F_q_take.kp E.b_q_take .nil (fun _ _ _ => Reps.nil) (simA_cons (sim_var 0) (simA_cons sim_int simA_nil))))
    (simB_cons (simS_if (simT_cmp (opg_eq hr.units) (sim_var 2) sim_int (nomark _)) (simB_one (simS_ret (sim_callIo (ok_q_known_kit E) (hr.mono (by decide)) (by rfl) E.m_q_known_kit E.F_q_known_kit.kp E.b_q_known_kit .nil (fun _ _ _ => Reps.nil) (simA_cons (sim_var 0) simA_nil)))) simB_nil)
    (simB_one (simS_ret (sim_if (simT_cmp (opg_eq hr.units) (sim_var 2) sim_int (nomark _)) (sim_callIo (ok_q_any E) (hr.mono (by decide)) (by rfl) E.m_q_any E.F_q_any.kp E.b_q_any .nil (fun _ _ _ => Reps.nil) (simA_cons (sim_var 0) (simA_cons (sim_var 1) simA_nil))) (sim_callIo (ok_q_kit E) (hr.mono (by decide)) (by rfl) E.m_q_kit E.F_q_kit.kp E.b_q_kit .nil (fun _ _ _ => Reps.nil) (simA_cons (sim_var 0) (simA_cons (sim_var 1) simA_nil))))))))) (fun as r as' _ h => ⟨0, h⟩)
def c_q_done_1 : EV := (evLc (ivSeq (ev2 gIxA (evVar 0) (evC (.int 1)))) (gvN 8) (evB (ev2 gEq (ev2 gIxA (evVar 8) (evC (.int 0))) (evSl (evVar 5) eoNone (eoSome (ev1 gNeg (evC (.int 1))))))) (evVar 8) [8])
def c_q_done_2 : EV := (evLc (ivRng1 (ev2 gIxA (evVar 0) (evC (.int 0)))) (gvN 9) (evB (ev2 gEq (ev2 gIxA (ev2 gIxA (evVar 6) (evC (.int 1))) (evVar 9)) (evVar 3))) (evVar 9) [9])
def c_q_done_3 : EV := (evLc (ivSeq (ev2 gIxA (evVar 0) (evC (.int 1)))) (gvN 8) (evB (ev2 gEq (ev2 gIxA (evVar 8) (evC (.int 0))) (evVar 5))) (evVar 8) [8])
def l_q_done_1 : BV := (bFor (ivSeq (evVar 2)) (gvN 3) (bIf (evB (ev2 gEq (evVar 5) (evC (.str "-")))) (bExp (evMt 4 fAppend true (evVar 3))) (bIf (evB (ev2 gEq (ev2 gIxA (evVar 5) (ev1 gNeg (evC (.int 1)))) (evC (.str "-")))) (bSeq (bSet 6 (ev2 gIxA c_q_done_1 (evC (.int 0))))
    (bSeq (bSet 7 (ev2 gIxA c_q_done_2 (evC (.int 0))))
    (bSeq (bExp (evMt 4 fAppend true (evVar 7)))
    (bSet 5 (evIf (evB (ev2 gNe (ev2 gIxA (ev2 gIxA (evVar 6) (evC (.int 2))) (evVar 7)) (evC (.str "-")))) (ev2 gAdd (ev2 gIxA (ev2 gIxA (evVar 6) (evC (.int 2))) (evVar 7)) (evC (.str "-"))) (evC (.str "-"))))))) (bSeq (bSet 6 (ev2 gIxA c_q_done_3 (evC (.int 0))))
    (bSeq (bExp (evMt 4 fAppend true (ev2 gIxA (ev2 gIxA (evVar 6) (evC (.int 1))) (evVar 3))))
    (bSet 5 (ev2 gIxA (ev2 gIxA (evVar 6) (evC (.int 2))) (evVar 3))))))))
def b_q_done : BV := (bSeq (bPar 4 5 (evLst evNil) (evVar 1))
    (bSeq l_q_done_1
    (bRet (evTup (evCons (ev1 gTuple (evVar 4)) (evCons (evVar 5) evNil))))))
def g_q_done : EV := gOf b_q_done N_q_done.length
theorem ok_q_done (E : En K mg) : FnOk P w K mg base CX0 1 E.a_q_done E.d_q_done P_q_done (spF ⟨P, w, K⟩ 3 g_q_done) :=
  fn_ok (fun _ => b_q_done) E.F_q_done sc_q_done (fun n cdv A outer s H Ex hr =>
    (simB_cons (simS_parC rfl sc_q_done.nd (sim_lst simA_nil) (sim_var 1))
    (simB_cons (simS_for PassesOwn.never rfl (simI_seq (sim_var 2)) (simG_name sc_q_done.nd) (simB_one (simS_if (simT_cmp (opg_eq hr.units) (sim_var 5) sim_str (nomark _)) (simB_one (simS_exp (sim_append (sim_var 3)))) (simB_one (simS_if (simT_cmp (opg_eq hr.units) (sim_ix (r := fun _ _ _ _ => True) (ixgA hr.units) (sim_var 5) (sim_un ung_neg sim_int) (fun _ _ => rfl)) sim_str (nomark _)) (simB_cons (simS_set sc_q_done.nd (sim_ix (r := fun _ _ _ _ => True) (ixgA hr.units) (sim_lc (own := [("_law_own", 8)]) rfl sc_q_done.nd (simI_seq (sim_ix (r := fun _ _ _ _ => True) (ixgA hr.units) (sim_var 0) sim_int (fun _ _ => rfl))) (blkOk_by (N := N_q_done) (sc := defScope s_q_done) (by decide +kernel)) (fun _ _ _ _ _ => (simG_name sc_q_done.nd)) (fun _ _ _ _ _ => (simTs_one (simT_cmp (opg_eq hr.units) (sim_ix (r := fun _ _ _ _ => True) (ixgA hr.units) (sim_var 8) sim_int (fun _ _ => rfl)) (sim_sl (sim_var 5) simO_none (simO_some (sim_un ung_neg sim_int))) (nomark _)))) (fun _ _ _ _ _ => (sim_var 8)) (by decide)) sim_int (fun _ _ => rfl)))
    (simB_cons (simS_set sc_q_done.nd (sim_ix (r := fun _ _ _ _ => True) (ixgA hr.units) (sim_lc (own := [("_law_k", 9)]) rfl sc_q_done.nd (simI_range1 (by rfl) E.z_range (sim_ix (r := fun _ _ _ _ => True) (ixgA hr.units) (sim_var 0) sim_int (fun _ _ => rfl))) (blkOk_by (N := N_q_done) (sc := defScope s_q_done) (by decide +kernel)) (fun _ _ _ _ _ => (simG_name sc_q_done.nd)) (fun _ _ _ _ _ => (simTs_one (simT_cmp (opg_eq hr.units) (sim_ix (r := fun _ _ _ _ => True) (ixgA hr.units) (sim_ix (r := fun _ _ _ _ => True) (ixgA hr.units) (sim_var 6) sim_int (fun _ _ => rfl)) (sim_var 9) (fun _ _ => rfl)) (sim_var 3) (nomark _)))) (fun _ _ _ _ _ => (sim_var 9)) (by decide)) sim_int (fun _ _ => rfl)))
    (simB_cons (simS_exp (sim_append (sim_var 7)))
    (simB_one (simS_set sc_q_done.nd (sim_if (simT_cmp (opg_ne hr.units) (sim_ix (r := fun _ _ _ _ => True) (ixgA hr.units) (sim_ix (r := fun _ _ _ _ => True) (ixgA hr.units) (sim_var 6) sim_int (fun _ _ => rfl)) (sim_var 7) (fun _ _ => rfl)) sim_str (nomark _)) (sim_op opg_add (sim_ix (r := fun _ _ _ _ => True) (ixgA hr.units) (sim_ix (r := fun _ _ _ _ => True) (ixgA hr.units) (sim_var 6) sim_int (fun _ _ => rfl)) (sim_var 7) (fun _ _ => rfl)) sim_str) sim_str)))))) (simB_cons (simS_set sc_q_done.nd (sim_ix (r := fun _ _ _ _ => True) (ixgA hr.units) (sim_lc (own := [("_law_own", 8)]) rfl sc_q_done.nd (simI_seq (sim_ix (r := fun _ _ _ _ => True) (ixgA hr.units) (sim_var 0) sim_int (fun _ _ => rfl))) (blkOk_by (N := N_q_done) (sc := defScope s_q_done) (by decide +kernel)) (fun _ _ _ _ _ => (simG_name sc_q_done.nd)) (fun _ _ _ _ _ => (simTs_one (simT_cmp (opg_eq hr.units) (sim_ix (r := fun _ _ _ _ => True) (ixgA hr.units) (sim_var 8) sim_int (fun _ _ => rfl)) (sim_var 5) (nomark _)))) (fun _ _ _ _ _ => (sim_var 8)) (by decide)) sim_int (fun _ _ => rfl)))
    (simB_cons (simS_exp (sim_append (sim_ix (r := fun _ _ _ _ => True) (ixgA hr.units) (sim_ix (r := fun _ _ _ _ => True) (ixgA hr.units) (sim_var 6) sim_int (fun _ _ => rfl)) (sim_var 3) (fun _ _ => rfl))))
    (simB_one (simS_set sc_q_done.nd (sim_ix (r := fun _ _ _ _ => True) (ixgA hr.units) (sim_ix (r := fun _ _ _ _ => True) (ixgA hr.units) (sim_var 6) sim_int (fun _ _ => rfl)) (sim_var 3) (fun _ _ => rfl)))))))))))
    (simB_one (simS_ret (sim_tup (simA_cons (sim_t1 crg_tuple (by rfl) E.z_tuple bt_tuple (sim_var 4)) (simA_cons (sim_var 5) simA_nil)))))))) (fun as r as' _ h => ⟨0, h⟩)
def c_q_wider_1 : EV := (evLc (ivRng1 (ev2 gIxA (evVar 0) (evC (.int 0)))) (gvN 4) tYesA (ev2 gAdd (evVar 3) (evTup (evCons (evVar 4) evNil))) [4])
def l_q_wider_1 : BV := (bFor (ivSeq (evVar 1)) (gvN 3) (bSet 2 (ev2 gAdd (evVar 2) c_q_wider_1)))
def b_q_wider : BV := (bSeq (bSet 2 (evLst evNil))
    (bSeq l_q_wider_1
    (bRet (evVar 2))))
def g_q_wider : EV := gOf b_q_wider N_q_wider.length
theorem ok_q_wider (E : En K mg) : FnOk P w K mg base CX0 1 E.a_q_wider E.d_q_wider P_q_wider (spF ⟨P, w, K⟩ 2 g_q_wider) :=
  fn_ok (fun _ => b_q_wider) E.F_q_wider sc_q_wider (fun n cdv A outer s H Ex hr =>
    (simB_cons (simS_set sc_q_wider.nd (sim_lst simA_nil))
    (simB_cons (simS_for PassesOwn.never rfl (simI_seq (sim_var 1)) (simG_name sc_q_wider.nd) (simB_one (simS_set sc_q_wider.nd (sim_op opg_add (sim_var 2) (sim_lc (own := [("_law_spot", 4)]) rfl sc_q_wider.nd (simI_range1 (by rfl) E.z_range (sim_ix (r := fun _ _ _ _ => True) (ixgA hr.units) (sim_var 0) sim_int (fun _ _ => rfl))) (blkOk_by (N := N_q_wider) (sc := defScope s_q_wider) (by decide +kernel)) (fun _ _ _ _ _ => (simG_name sc_q_wider.nd)) (fun _ _ _ _ _ => simTs_nil) (fun _ _ _ _ _ => (sim_op opg_add (sim_var 3) (sim_tup (simA_cons (sim_var 4) simA_nil)))) (by decide))))))
    (simB_one (simS_ret (sim_var 2)))))) (fun as r as' _ h => ⟨0, h⟩)
def l_q_lines_1 : BV := (bFor (ivRng1 (evVar 1)) (gvN 3) (bSet 2 (evCall 2 g_q_wider [] (evCons (evVar 0) (evCons (evVar 2) evNil)))))
def b_q_lines : BV := (bSeq (bSet 2 (evF (.lst [.tup []])))
    (bSeq l_q_lines_1
    (bRet (evVar 2))))
def g_q_lines : EV := gOf b_q_lines N_q_lines.length
theorem ok_q_lines (E : En K mg) : FnOk P w K mg base CX0 2 E.a_q_lines E.d_q_lines P_q_lines (spF ⟨P, w, K⟩ 2 g_q_lines) :=
  fn_ok (fun _ => b_q_lines) E.F_q_lines sc_q_lines (fun n cdv A outer s H Ex hr =>
    (simB_cons (simS_set sc_q_lines.nd (sim_cst (sim_lst (simA_cons (sim_tup simA_nil) simA_nil)) rfl))
    (simB_cons (simS_for PassesOwn.never rfl (simI_range1 (by rfl) E.z_range (sim_var 1)) (simG_name sc_q_lines.nd) (simB_one (simS_set sc_q_lines.nd (sim_call (ok_q_wider E) (hr.mono (by decide)) (by rfl) E.m_q_wider E.F_q_wider.kp E.b_q_wider .nil (fun _ _ _ => Reps.nil) (simA_cons (sim_var 0) (simA_cons (sim_var 2) simA_nil))))))
    (simB_one (simS_ret (sim_var 2)))))) (fun as r as' _ h => ⟨0, h⟩)
def c_q_kinds_1 : EV := (evLc (ivSeq (ev2 gIxA (evVar 0) (evC (.int 1)))) (gvN 5) tYesA (ev2 gIxA (evVar 5) (evC (.int 0))) [5])
def c_q_kinds_2 : EV := (evLc (ivSeq (evCall 2 g_q_lines [] (evCons (evVar 0) (evCons (evVar 1) evNil)))) (gvN 6) tYesA (ev2 gIxA (evCall 3 g_q_done [] (evCons (evVar 0) (evCons (evVar 3) (evCons (evVar 6) evNil)))) (evC (.int 0))) [6])
def l_q_kinds_1 : BV := (bFor (ivSeq (ev2 gAdd (evF (.lst [.str "-"])) c_q_kinds_1)) (gvN 3) (bSeq (bSet 4 (ev1 gTuple c_q_kinds_2))
    (bPut 2 (evVar 4) (ev2 gAdd (evGet2 (evVar 2) (evVar 4) (evLst evNil)) (evLst (evCons (evVar 3) evNil))))))
def c_q_kinds_3 : EV := (evLc (ivKeys 2) (gvN 4) tYesA (ev1 gTuple (ev1 gSorted (ev2 gIxA (evVar 2) (evVar 4)))) [4])
def b_q_kinds : BV := (bSeq (bSet 2 evD0)
    (bSeq l_q_kinds_1
    (bRet (ev1 gSorted c_q_kinds_3))))
def g_q_kinds : EV := gOf b_q_kinds N_q_kinds.length
theorem ok_q_kinds (E : En K mg) : FnOk P w K mg base CX0 3 E.a_q_kinds E.d_q_kinds P_q_kinds (spF ⟨P, w, K⟩ 2 g_q_kinds) :=
  fn_ok (fun _ => b_q_kinds) E.F_q_kinds sc_q_kinds (fun n cdv A outer s H Ex hr =>
    (simB_cons (simS_set sc_q_kinds.nd sim_d0)
    (simB_cons (simS_for PassesOwn.never rfl (simI_seq (sim_op opg_add (sim_cst (sim_lst (simA_cons sim_str simA_nil)) rfl) (sim_lc (own := [("_law_own", 5)]) rfl sc_q_kinds.nd (simI_seq (sim_ix (r := fun _ _ _ _ => True) (ixgA hr.units) (sim_var 0) sim_int (fun _ _ => rfl))) (blkOk_by (N := N_q_kinds) (sc := defScope s_q_kinds) (by decide +kernel)) (fun _ _ _ _ _ => (simG_name sc_q_kinds.nd)) (fun _ _ _ _ _ => simTs_nil) (fun _ _ _ _ _ => (sim_ix (r := fun _ _ _ _ => True) (ixgA hr.units) (sim_var 5) sim_int (fun _ _ => rfl))) (by decide)))) (simG_name sc_q_kinds.nd) (simB_cons (simS_set sc_q_kinds.nd (sim_t1 crg_tuple (by rfl) E.z_tuple bt_tuple (sim_lc (own := [("_law_line", 6)]) rfl sc_q_kinds.nd (simI_seq (sim_call (ok_q_lines E) (hr.mono (by decide)) (by rfl) E.m_q_lines E.F_q_lines.kp E.b_q_lines .nil (fun _ _ _ => Reps.nil) (simA_cons (sim_var 0) (simA_cons (sim_var 1) simA_nil)))) (blkOk_by (N := N_q_kinds) (sc := defScope s_q_kinds) (by decide +kernel)) (fun _ _ _ _ _ => (simG_name sc_q_kinds.nd)) (fun _ _ _ _ _ => simTs_nil) (fun _ _ _ _ _ => (sim_ix (r := fun _ _ _ _ => True) (ixgA hr.units) (sim_call (ok_q_done E) (hr.mono (by decide)) (by rfl) E.m_q_done E.F_q_done.kp E.b_q_done .nil (fun _ _ _ => Reps.nil) (simA_cons (sim_var 0) (simA_cons (sim_var 3) (simA_cons (sim_var 6) simA_nil)))) sim_int (fun _ _ => rfl))) (by decide))))
    (simB_one (simS_put hr.units (sim_op opg_add (sim_get2 hr.units (sim_var 2) (sim_var 4) (sim_lst simA_nil)) (sim_lst (simA_cons (sim_var 3) simA_nil))) (sim_var 4)))))
    (simB_one (simS_ret (sim_b1 (crg_sorted rfl hr.units) (by rfl) E.z_sorted bt_sorted (sim_lcK (own := [("_law_made", 4)]) rfl sc_q_kinds.nd (blkOk_by (N := N_q_kinds) (sc := defScope s_q_kinds) (by decide +kernel)) (fun _ _ _ _ _ => (simG_name sc_q_kinds.nd)) (fun _ _ _ _ _ => simTs_nil) (fun _ _ _ _ _ => (sim_t1 crg_tuple (by rfl) E.z_tuple bt_tuple (sim_b1 (crg_sorted rfl hr.units) (by rfl) E.z_sorted bt_sorted (sim_ix (r := fun _ _ _ _ => True) (ixgA hr.units) (sim_var 2) (sim_var 4) (fun _ _ => rfl))))) (by decide)))))))) (fun as r as' _ h => ⟨0, h⟩)
def c_q_doubled_1 : EV := (evLc (ivSeq (evVar 6)) (gvN 8) tYesA (evIf (evAndT (evB (ev2 gEq (evVar 8) (ev2 gIxA (evVar 2) (evC (.int 0))))) (evB (ev2 gEq (evCallIo 2 g_q_take [] (evCons (evVar 0) (evCons (evC (.int 2)) evNil))) (evC (.int 0))))) (evC (.str "tw")) (evVar 8)) [8])
def l_q_doubled_1 : BV := (bFor (ivSeq (ev2 gAdd (ev1 gTuple (ev2 gIxA (evVar 1) (evC (.int 1)))) (evTup (evCons (evTup (evCons (evC (.str "tw")) (evCons (ev2 gIxA (evVar 2) (evC (.int 1))) (evCons (ev2 gIxA (evVar 2) (evC (.int 2))) evNil)))) evNil)))) (gvT 3 (gvCons (gvN 4) (gvCons (gvN 5) (gvCons (gvN 6) gvNil)))) (bSeq (bSet 7 c_q_doubled_1)
    (bExp (evMt 3 fAppend true (evTup (evCons (evVar 4) (evCons (evVar 5) (evCons (ev1 gTuple (evVar 7)) evNil))))))))
def b_q_doubled : BV := (bSeq (bIf (evOrT (evB (ev2 gEq (evCallIo 2 g_q_take [] (evCons (evVar 0) (evCons (evC (.int 2)) evNil))) (evC (.int 0)))) (evB (ev2 gGt (ev1 gLen (ev2 gIxA (evVar 1) (evC (.int 1)))) (evC (.int 4))))) (bRet (evVar 1)) bNil)
    (bSeq (bSet 2 (evCallIo 2 g_q_of [] (evCons (evVar 0) (evCons (ev2 gIxA (evVar 1) (evC (.int 1))) evNil))))
    (bSeq (bSet 3 (evLst evNil))
    (bSeq l_q_doubled_1
    (bRet (evTup (evCons (ev2 gIxA (evVar 1) (evC (.int 0))) (evCons (ev1 gTuple (ev1 gSorted (evVar 3))) evNil))))))))
def g_q_doubled : EV := gOf b_q_doubled N_q_doubled.length
theorem ok_q_doubled (E : En K mg) : FnOk P w K mg base CX0 3 E.a_q_doubled E.d_q_doubled P_q_doubled (spF ⟨P, w, K⟩ 2 g_q_doubled) :=
  fn_ok (fun _ => b_q_doubled) E.F_q_doubled sc_q_doubled (fun n cdv A outer s H Ex hr =>
    (simB_cons (simS_if (PW.pt (simW_or (simT_cmp (opg_eq hr.units) (sim_callIo (ok_q_take E) (hr.mono (by decide)) (by rfl) E.m_q_take E.F_q_take.kp E.b_q_take .nil (fun _ _ _ => Reps.nil) (simA_cons (sim_var 0) (simA_cons sim_int simA_nil))) sim_int (nomark _)) (simW_or1 (simT_cmp opg_gt (sim_b1 crg_len (by rfl) E.z_len bt_len (sim_ix (r := fun _ _ _ _ => True) (ixgA hr.units) (sim_var 1) sim_int (fun _ _ => rfl))) sim_int (nomark _))))) (simB_one (simS_ret (sim_var 1))) simB_nil)
    (simB_cons (simS_set sc_q_doubled.nd (sim_callIo (ok_q_of E) (hr.mono (by decide)) (by rfl) E.m_q_of E.F_q_of.kp E.b_q_of .nil (fun _ _ _ => Reps.nil) (simA_cons (sim_var 0) (simA_cons (sim_ix (r := fun _ _ _ _ => True) (ixgA hr.units) (sim_var 1) sim_int (fun _ _ => rfl)) simA_nil))))
    (simB_cons (simS_set sc_q_doubled.nd (sim_lst simA_nil))
    (simB_cons (simS_for PassesOwn.never rfl (simI_seq (sim_op opg_add (sim_t1 crg_tuple (by rfl) E.z_tuple bt_tuple (sim_ix (r := fun _ _ _ _ => True) (ixgA hr.units) (sim_var 1) sim_int (fun _ _ => rfl))) (sim_tup (simA_cons (sim_tup (simA_cons sim_str (simA_cons (sim_ix (r := fun _ _ _ _ => True) (ixgA hr.units) (sim_var 2) sim_int (fun _ _ => rfl)) (simA_cons (sim_ix (r := fun _ _ _ _ => True) (ixgA hr.units) (sim_var 2) sim_int (fun _ _ => rfl)) simA_nil)))) simA_nil)))) (simG_tup rfl (simG_cons (simG_name sc_q_doubled.nd) (simG_cons (simG_name sc_q_doubled.nd) (simG_cons (simG_name sc_q_doubled.nd) simG_nil)))) (simB_cons (simS_setLc (own := [("_law_far", 8)]) rfl sc_q_doubled.nd (sw_true rfl rfl rfl rfl) (simI_seq (sim_var 6)) (blkOk_by (N := N_q_doubled) (sc := defScope s_q_doubled) (by decide +kernel)) (fun _ _ _ _ _ => (simG_name sc_q_doubled.nd)) (fun _ _ _ _ _ => simTs_nil) (fun _ _ _ _ _ => (sim_if (PW.pt (simW_and (simT_cmp (opg_eq hr.units) (sim_var 8) (sim_ix (r := fun _ _ _ _ => True) (ixgA hr.units) (sim_var 2) sim_int (fun _ _ => rfl)) (nomark _)) (simW_and1 (simT_cmp (opg_eq hr.units) (sim_callIo (ok_q_take E) (hr.mono (by decide)) (by rfl) E.m_q_take E.F_q_take.kp E.b_q_take .nil (fun _ _ _ => Reps.nil) (simA_cons (sim_var 0) (simA_cons sim_int simA_nil))) sim_int (nomark _))))) sim_str (sim_var 8))) (by decide))
    (simB_one (simS_exp (sim_append (sim_tup (simA_cons (sim_var 4) (simA_cons (sim_var 5) (simA_cons (sim_t1 crg_tuple (by rfl) E.z_tuple bt_tuple (sim_var 7)) simA_nil)))))))))
    (simB_one (simS_ret (sim_tup (simA_cons (sim_ix (r := fun _ _ _ _ => True) (ixgA hr.units) (sim_var 1) sim_int (fun _ _ => rfl)) (simA_cons (sim_t1 crg_tuple (by rfl) E.z_tuple bt_tuple (sim_b1 (crg_sorted rfl hr.units) (by rfl) E.z_sorted bt_sorted (sim_var 3))) simA_nil)))))))))) (fun as r as' _ h => ⟨0, h⟩)
def l_q_first_1 : BV := (bFor (ivRng1 (evVar 1)) (gvN 2) (bIf (evB (ev2 gEq (evCall 2 g_q_kinds [] (evCons (evVar 0) (evCons (evVar 2) evNil))) (evCall 2 g_q_kinds [] (evCons (evVar 0) (evCons (evVar 1) evNil))))) (bRet (evVar 2)) bNil))
def b_q_first : BV := (bSeq l_q_first_1
    (bRet (evVar 1)))
def g_q_first : EV := gOf b_q_first N_q_first.length
theorem ok_q_first (E : En K mg) : FnOk P w K mg base CX0 4 E.a_q_first E.d_q_first P_q_first (spF ⟨P, w, K⟩ 2 g_q_first) :=
  fn_ok (fun _ => b_q_first) E.F_q_first sc_q_first (fun n cdv A outer s H Ex hr =>
    (simB_cons (simS_for PassesOwn.never rfl (simI_range1 (by rfl) E.z_range (sim_var 1)) (simG_name sc_q_first.nd) (simB_one (simS_if (simT_cmp (opg_eq hr.units) (sim_call (ok_q_kinds E) (hr.mono (by decide)) (by rfl) E.m_q_kinds E.F_q_kinds.kp E.b_q_kinds .nil (fun _ _ _ => Reps.nil) (simA_cons (sim_var 0) (simA_cons (sim_var 2) simA_nil))) (sim_call (ok_q_kinds E) (hr.mono (by decide)) (by rfl) E.m_q_kinds E.F_q_kinds.kp E.b_q_kinds .nil (fun _ _ _ => Reps.nil) (simA_cons (sim_var 0) (simA_cons (sim_var 1) simA_nil))) (nomark _)) (simB_one (simS_ret (sim_var 2))) simB_nil)))
    (simB_one (simS_ret (sim_var 1))))) (fun as r as' _ h => ⟨0, h⟩)
def c_q_by_hand_right_1 : EV := (evLc (ivRng1 (evC (.int 5))) (gvN 7) tYesA (evCall 2 g_classes_by [] (evCons (evVar 0) (evCons (evVar 7) evNil))) [7])
def b_q_by_hand_right : BV := (bSeq (bSet 0 (evC (.tup [.int 2, .tup [.tup [.str "a", .tup [.int 0, .int 1], .tup [.str "-", .str "b"]], .tup [.str "b", .tup [.int 0, .int 1], .tup [.str "-", .str "c"]], .tup [.str "c", .tup [.int 1, .int 0], .tup [.str "-", .str "-"]]]])))
    (bSeq (bSet 1 (evC (.tup [.int 2, .tup [.tup [.str "a", .tup [.int 1, .int 0], .tup [.str "-", .str "b"]], .tup [.str "b", .tup [.int 1, .int 0], .tup [.str "-", .str "a"]], .tup [.str "e", .tup [.int 0, .int 1], .tup [.str "e", .str "e"]]]])))
    (bSeq (bSet 2 c_q_by_hand_right_1)
    (bSeq (bSet 2 (ev2 gAdd (evVar 2) (evLst (evCons (evCall 1 g_classes_of [] (evCons (evVar 0) evNil)) (evCons (evCall 1 g_sees_all [] (evCons (evVar 0) evNil)) (evCons (evCall 1 g_classes_of [] (evCons (evVar 1) evNil)) (evCons (evCall 1 g_sees_all [] (evCons (evVar 1) evNil)) evNil)))))))
    (bSeq (bSet 3 (evF (.lst [.tup [.str "-"], .tup [.str "a"], .tup [.str "b"], .tup [.str "c"]])))
    (bSeq (bSet 4 (evLst (evCons (evF (.lst [.tup [.str "-", .str "a", .str "b", .str "c"]])) (evCons (evF (.lst [.tup [.str "-", .str "a", .str "b"], .tup [.str "c"]])) (evCons (evF (.lst [.tup [.str "-", .str "a"], .tup [.str "b"], .tup [.str "c"]])) (evCons (evVar 3) (evCons (evVar 3) (evCons (evVar 3) (evCons (evC (.int 3)) evNil)))))))))
    (bSeq (bSet 4 (ev2 gAdd (evVar 4) (evF (.lst [.lst [.tup [.str "-", .str "e"], .tup [.str "a", .str "b"]], .int 1]))))
    (bSeq (bSet 5 (evC (.tup [.tup [.str "a", .tup [.int 1, .int 0], .tup [.str "-", .str "c"]], .tup [.str "b", .tup [.int 1, .int 0], .tup [.str "-", .str "d"]]])))
    (bSeq (bSet 6 (evTup (evCons (evC (.int 2)) (evCons (ev2 gAdd (evVar 5) (evC (.tup [.tup [.str "c", .tup [.int 0, .int 1], .tup [.str "-", .str "-"]], .tup [.str "d", .tup [.int 0, .int 1], .tup [.str "b", .str "-"]]]))) evNil))))
    (bSeq (bSet 2 (ev2 gAdd (evVar 2) (evLst (evCons (evCall 2 g_classes_by [] (evCons (evVar 6) (evCons (evC (.int 1)) evNil))) (evCons (evCall 2 g_classes_by [] (evCons (evVar 6) (evCons (evC (.int 2)) evNil))) (evCons (evCall 2 g_classes_by [] (evCons (evVar 6) (evCons (evC (.int 3)) evNil))) (evCons (evCall 1 g_sees_all [] (evCons (evVar 6) evNil)) (evCons (evCall 1 g_classes_of [] (evCons (evC (.tup [.int 3, .tup []])) evNil)) evNil))))))))
    (bSeq (bSet 4 (ev2 gAdd (evVar 4) (evF (.lst [.lst [.tup [.str "-", .str "c", .str "d"], .tup [.str "a", .str "b"]], .lst [.tup [.str "-", .str "c"], .tup [.str "a", .str "b"], .tup [.str "d"]]]))))
    (bSeq (bSet 4 (ev2 gAdd (evVar 4) (evF (.lst [.lst [.tup [.str "-", .str "c"], .tup [.str "a"], .tup [.str "b"], .tup [.str "d"]], .int 3]))))
    (bSeq (bSet 2 (ev2 gAdd (evVar 2) (evLst (evCons (evCall 1 g_sees_all [] (evCons (evC (.tup [.int 3, .tup []])) evNil)) (evCons (evCall 2 g_classes_by [] (evCons (evVar 1) (evCons (evC (.int 0)) evNil))) (evCons (evCall 2 g_classes_by [] (evCons (evC (.tup [.int 2, .tup []])) (evCons (evC (.int 9)) evNil))) evNil))))))
    (bRet (evCall 2 g_q_same [] (evCons (evVar 2) (evCons (ev2 gAdd (evVar 4) (evF (.lst [.lst [.tup [.str "-"]], .int 0, .lst [.tup [.str "-", .str "a", .str "b", .str "e"]], .lst [.tup [.str "-"]]]))) evNil)))))))))))))))))
def g_q_by_hand_right : EV := gOf b_q_by_hand_right N_q_by_hand_right.length
theorem ok_q_by_hand_right (E : En K mg) : FnOk P w K mg base CX0 14 E.a_q_by_hand_right E.d_q_by_hand_right P_q_by_hand_right (spF ⟨P, w, K⟩ 0 g_q_by_hand_right) :=
  fn_ok (fun _ => b_q_by_hand_right) E.F_q_by_hand_right sc_q_by_hand_right (fun n cdv A outer s H Ex hr =>
    (simB_cons (simS_set sc_q_by_hand_right.nd (sim_cst (sim_tup (simA_cons sim_int (simA_cons (sim_tup (simA_cons (sim_tup (simA_cons sim_str (simA_cons (sim_tup (simA_cons sim_int (simA_cons sim_int simA_nil))) (simA_cons (sim_tup (simA_cons sim_str (simA_cons sim_str simA_nil))) simA_nil)))) (simA_cons (sim_tup (simA_cons sim_str (simA_cons (sim_tup (simA_cons sim_int (simA_cons sim_int simA_nil))) (simA_cons (sim_tup (simA_cons sim_str (simA_cons sim_str simA_nil))) simA_nil)))) (simA_cons (sim_tup (simA_cons sim_str (simA_cons (sim_tup (simA_cons sim_int (simA_cons sim_int simA_nil))) (simA_cons (sim_tup (simA_cons sim_str (simA_cons sim_str simA_nil))) simA_nil)))) simA_nil)))) simA_nil))) rfl))
    (simB_cons (simS_set sc_q_by_hand_right.nd (sim_cst (sim_tup (simA_cons sim_int (simA_cons (sim_tup (simA_cons (sim_tup (simA_cons sim_str (simA_cons (sim_tup (simA_cons sim_int (simA_cons sim_int simA_nil))) (simA_cons (sim_tup (simA_cons sim_str (simA_cons sim_str simA_nil))) simA_nil)))) (simA_cons (sim_tup (simA_cons sim_str (simA_cons (sim_tup (simA_cons sim_int (simA_cons sim_int simA_nil))) (simA_cons (sim_tup (simA_cons sim_str (simA_cons sim_str simA_nil))) simA_nil)))) (simA_cons (sim_tup (simA_cons sim_str (simA_cons (sim_tup (simA_cons sim_int (simA_cons sim_int simA_nil))) (simA_cons (sim_tup (simA_cons sim_str (simA_cons sim_str simA_nil))) simA_nil)))) simA_nil)))) simA_nil))) rfl))
    (simB_cons (simS_setLc (own := [("_law_k", 7)]) rfl sc_q_by_hand_right.nd (sw_true rfl rfl rfl rfl) (simI_range1 (by rfl) E.z_range sim_int) (blkOk_by (N := N_q_by_hand_right) (sc := defScope s_q_by_hand_right) (by decide +kernel)) (fun _ _ _ _ _ => (simG_name sc_q_by_hand_right.nd)) (fun _ _ _ _ _ => simTs_nil) (fun _ _ _ _ _ => (sim_call (ok_classes_by E) (hr.mono (by decide)) (by rfl) E.m_classes_by E.F_classes_by.kp E.b_classes_by .nil (fun _ _ _ => Reps.nil) (simA_cons (sim_var 0) (simA_cons (sim_var 7) simA_nil)))) (by decide))
    (simB_cons (simS_set sc_q_by_hand_right.nd (sim_op opg_add (sim_var 2) (sim_lst (simA_cons (sim_call (ok_classes_of E) (hr.mono (by decide)) (by rfl) E.m_classes_of E.F_classes_of.kp E.b_classes_of .nil (fun _ _ _ => Reps.nil) (simA_cons (sim_var 0) simA_nil)) (simA_cons (sim_call (ok_sees_all E) (hr.mono (by decide)) (by rfl) E.m_sees_all E.F_sees_all.kp E.b_sees_all .nil (fun _ _ _ => Reps.nil) (simA_cons (sim_var 0) simA_nil)) (simA_cons (sim_call (ok_classes_of E) (hr.mono (by decide)) (by rfl) E.m_classes_of E.F_classes_of.kp E.b_classes_of .nil (fun _ _ _ => Reps.nil) (simA_cons (sim_var 1) simA_nil)) (simA_cons (sim_call (ok_sees_all E) (hr.mono (by decide)) (by rfl) E.m_sees_all E.F_sees_all.kp E.b_sees_all .nil (fun _ _ _ => Reps.nil) (simA_cons (sim_var 1) simA_nil)) simA_nil)))))))
    (simB_cons (simS_set sc_q_by_hand_right.nd (sim_cst (sim_lst (simA_cons (sim_tup (simA_cons sim_str simA_nil)) (simA_cons (sim_tup (simA_cons sim_str simA_nil)) (simA_cons (sim_tup (simA_cons sim_str simA_nil)) (simA_cons (sim_tup (simA_cons sim_str simA_nil)) simA_nil))))) rfl))
    (simB_cons (simS_set sc_q_by_hand_right.nd (sim_lst (simA_cons (sim_cst (sim_lst (simA_cons (sim_tup (simA_cons sim_str (simA_cons sim_str (simA_cons sim_str (simA_cons sim_str simA_nil))))) simA_nil)) rfl) (simA_cons (sim_cst (sim_lst (simA_cons (sim_tup (simA_cons sim_str (simA_cons sim_str (simA_cons sim_str simA_nil)))) (simA_cons (sim_tup (simA_cons sim_str simA_nil)) simA_nil))) rfl) (simA_cons (sim_cst (sim_lst (simA_cons (sim_tup (simA_cons sim_str (simA_cons sim_str simA_nil))) (simA_cons (sim_tup (simA_cons sim_str simA_nil)) (simA_cons (sim_tup (simA_cons sim_str simA_nil)) simA_nil)))) rfl) (simA_cons (sim_var 3) (simA_cons (sim_var 3) (simA_cons (sim_var 3) (simA_cons sim_int simA_nil)))))))))
    (simB_cons (simS_set sc_q_by_hand_right.nd (sim_op opg_add (sim_var 4) (sim_cst (sim_lst (simA_cons (sim_lst (simA_cons (sim_tup (simA_cons sim_str (simA_cons sim_str simA_nil))) (simA_cons (sim_tup (simA_cons sim_str (simA_cons sim_str simA_nil))) simA_nil))) (simA_cons sim_int simA_nil))) rfl)))
    (simB_cons (simS_set sc_q_by_hand_right.nd (sim_cst (sim_tup (simA_cons (sim_tup (simA_cons sim_str (simA_cons (sim_tup (simA_cons sim_int (simA_cons sim_int simA_nil))) (simA_cons (sim_tup (simA_cons sim_str (simA_cons sim_str simA_nil))) simA_nil)))) (simA_cons (sim_tup (simA_cons sim_str (simA_cons (sim_tup (simA_cons sim_int (simA_cons sim_int simA_nil))) (simA_cons (sim_tup (simA_cons sim_str (simA_cons sim_str simA_nil))) simA_nil)))) simA_nil))) rfl))
    (simB_cons (simS_set sc_q_by_hand_right.nd (sim_tup (simA_cons sim_int (simA_cons (sim_op opg_add (sim_var 5) (sim_cst (sim_tup (simA_cons (sim_tup (simA_cons sim_str (simA_cons (sim_tup (simA_cons sim_int (simA_cons sim_int simA_nil))) (simA_cons (sim_tup (simA_cons sim_str (simA_cons sim_str simA_nil))) simA_nil)))) (simA_cons (sim_tup (simA_cons sim_str (simA_cons (sim_tup (simA_cons sim_int (simA_cons sim_int simA_nil))) (simA_cons (sim_tup (simA_cons sim_str (simA_cons sim_str simA_nil))) simA_nil)))) simA_nil))) rfl)) simA_nil))))
    (simB_cons (simS_set sc_q_by_hand_right.nd (sim_op opg_add (sim_var 2) (sim_lst (simA_cons (sim_call (ok_classes_by E) (hr.mono (by decide)) (by rfl) E.m_classes_by E.F_classes_by.kp E.b_classes_by .nil (fun _ _ _ => Reps.nil) (simA_cons (sim_var 6) (simA_cons sim_int simA_nil))) (simA_cons (sim_call (ok_classes_by E) (hr.mono (by decide)) (by rfl) E.m_classes_by E.F_classes_by.kp E.b_classes_by .nil (fun _ _ _ => Reps.nil) (simA_cons (sim_var 6) (simA_cons sim_int simA_nil))) (simA_cons (sim_call (ok_classes_by E) (hr.mono (by decide)) (by rfl) E.m_classes_by E.F_classes_by.kp E.b_classes_by .nil (fun _ _ _ => Reps.nil) (simA_cons (sim_var 6) (simA_cons sim_int simA_nil))) (simA_cons (sim_call (ok_sees_all E) (hr.mono (by decide)) (by rfl) E.m_sees_all E.F_sees_all.kp E.b_sees_all .nil (fun _ _ _ => Reps.nil) (simA_cons (sim_var 6) simA_nil)) (simA_cons (sim_call (ok_classes_of E) (hr.mono (by decide)) (by rfl) E.m_classes_of E.F_classes_of.kp E.b_classes_of .nil (fun _ _ _ => Reps.nil) (simA_cons (sim_cst (sim_tup (simA_cons sim_int (simA_cons (sim_tup simA_nil) simA_nil))) rfl) simA_nil)) simA_nil))))))))
    (simB_cons (simS_set sc_q_by_hand_right.nd (sim_op opg_add (sim_var 4) (sim_cst (sim_lst (simA_cons (sim_lst (simA_cons (sim_tup (simA_cons sim_str (simA_cons sim_str (simA_cons sim_str simA_nil)))) (simA_cons (sim_tup (simA_cons sim_str (simA_cons sim_str simA_nil))) simA_nil))) (simA_cons (sim_lst (simA_cons (sim_tup (simA_cons sim_str (simA_cons sim_str simA_nil))) (simA_cons (sim_tup (simA_cons sim_str (simA_cons sim_str simA_nil))) (simA_cons (sim_tup (simA_cons sim_str simA_nil)) simA_nil)))) simA_nil))) rfl)))
    (simB_cons (simS_set sc_q_by_hand_right.nd (sim_op opg_add (sim_var 4) (sim_cst (sim_lst (simA_cons (sim_lst (simA_cons (sim_tup (simA_cons sim_str (simA_cons sim_str simA_nil))) (simA_cons (sim_tup (simA_cons sim_str simA_nil)) (simA_cons (sim_tup (simA_cons sim_str simA_nil)) (simA_cons (sim_tup (simA_cons sim_str simA_nil)) simA_nil))))) (simA_cons sim_int simA_nil))) rfl)))
    (simB_cons (simS_set sc_q_by_hand_right.nd (sim_op opg_add (sim_var 2) (sim_lst (simA_cons (sim_call (ok_sees_all E) (hr.mono (by decide)) (by rfl) E.m_sees_all E.F_sees_all.kp E.b_sees_all .nil (fun _ _ _ => Reps.nil) (simA_cons (sim_cst (sim_tup (simA_cons sim_int (simA_cons (sim_tup simA_nil) simA_nil))) rfl) simA_nil)) (simA_cons (sim_call (ok_classes_by E) (hr.mono (by decide)) (by rfl) E.m_classes_by E.F_classes_by.kp E.b_classes_by .nil (fun _ _ _ => Reps.nil) (simA_cons (sim_var 1) (simA_cons sim_int simA_nil))) (simA_cons (sim_call (ok_classes_by E) (hr.mono (by decide)) (by rfl) E.m_classes_by E.F_classes_by.kp E.b_classes_by .nil (fun _ _ _ => Reps.nil) (simA_cons (sim_cst (sim_tup (simA_cons sim_int (simA_cons (sim_tup simA_nil) simA_nil))) rfl) (simA_cons sim_int simA_nil))) simA_nil))))))
    (simB_one (simS_ret (sim_call (ok_q_same E) (hr.mono (by decide)) (by rfl) E.m_q_same E.F_q_same.kp E.b_q_same .nil (fun _ _ _ => Reps.nil) (simA_cons (sim_var 2) (simA_cons (sim_op opg_add (sim_var 4) (sim_cst (sim_lst (simA_cons (sim_lst (simA_cons (sim_tup (simA_cons sim_str simA_nil)) simA_nil)) (simA_cons sim_int (simA_cons (sim_lst (simA_cons (sim_tup (simA_cons sim_str (simA_cons sim_str (simA_cons sim_str (simA_cons sim_str simA_nil))))) simA_nil)) (simA_cons (sim_lst (simA_cons (sim_tup (simA_cons sim_str simA_nil)) simA_nil)) simA_nil))))) rfl)) simA_nil))))))))))))))))))) (fun as r as' _ h => ⟨0, h⟩)
def l_q_case_right_1 : BV := (bFor (ivRng1 (ev2 gAdd (evVar 7) (evC (.int 1)))) (gvN 2) (bSeq (bSet 8 (evCall 2 g_q_kinds [] (evCons (evVar 1) (evCons (evVar 2) evNil))))
    (bIf (evNotT (evB (evCall 2 g_q_same [] (evCons (evLst (evCons (evCall 2 g_classes_by [] (evCons (evVar 1) (evCons (evVar 2) evNil))) (evCons (evCall 2 g_classes_by [] (evCons (evVar 6) (evCons (evVar 2) evNil))) evNil))) (evCons (evLst (evCons (evVar 8) (evCons (evVar 8) evNil))) evNil))))) (bRet (evC (.bl false))) bNil)))
def c_q_case_right_1 : EV := (evLc (ivSeq (evVar 9)) (gvN 10) tYesA (evGet2 (evVar 5) (evVar 10) (evC (.str "-"))) [10])
def c_q_case_right_2 : EV := (evLc (ivSeq (ev2 gIxA (evVar 4) (evC (.int 0)))) (gvN 9) tYesA (ev2 gEq (ev1 gLenSet c_q_case_right_1) (evC (.int 1))) [9])
def b_q_case_right : BV := (bSeq (bSet 1 (evCallIo 2 g_q_doubled [] (evCons (evVar 0) (evCons (evCallIo 2 g_q_drawn_kit [] (evCons (evVar 0) (evCons (evC (.int 4)) evNil))) evNil))))
    (bSeq (bPar 6 7 (evCall 1 g_q_lists [] (evCons (evVar 1) evNil)) (evIf (evB (ev2 gGt (ev1 gLen (ev2 gIxA (evVar 1) (evC (.int 1)))) (evC (.int 4)))) (evC (.int 5)) (ev1 gLen (ev2 gIxA (evVar 1) (evC (.int 1))))))
    (bSeq l_q_case_right_1
    (bSeq (bSet 3 (evLst (evCons (evCall 1 g_classes_of [] (evCons (evVar 1) evNil)) (evCons (evCall 1 g_sees_all [] (evCons (evVar 1) evNil)) (evCons (evCall 1 g_classes_of [] (evCons (evVar 6) evNil)) (evCons (evCall 1 g_sees_all [] (evCons (evVar 6) evNil)) evNil))))))
    (bSeq (bSet 4 (evLst (evCons (evCall 2 g_q_kinds [] (evCons (evVar 1) (evCons (evVar 7) evNil))) (evCons (evCall 2 g_q_first [] (evCons (evVar 1) (evCons (evVar 7) evNil))) evNil))))
    (bSeq (bIf (evOrT (evNotT (evB (evCall 2 g_q_same [] (evCons (evVar 3) (evCons (ev2 gAdd (evVar 4) (evVar 4)) evNil))))) (evB (ev2 gNe (evVar 6) (evCall 1 g_q_lists [] (evCons (evVar 1) evNil))))) (bRet (evC (.bl false))) bNil)
    (bSeq (bSet 5 (ev2 gIxA (evCall 1 g_least_box [] (evCons (evVar 1) evNil)) (evC (.int 1))))
    (bRet (ev1 gAll c_q_case_right_2)))))))))
def g_q_case_right : EV := gOf b_q_case_right N_q_case_right.length
theorem ok_q_case_right (E : En K mg) : FnOk P w K mg base CX0 14 E.a_q_case_right E.d_q_case_right P_q_case_right (spF ⟨P, w, K⟩ 1 g_q_case_right) :=
  fn_ok (fun _ => b_q_case_right) E.F_q_case_right sc_q_case_right (fun n cdv A outer s H Ex hr =>
    (simB_cons (simS_set sc_q_case_right.nd (sim_callIo (ok_q_doubled E) (hr.mono (by decide)) (by rfl) E.m_q_doubled E.F_q_doubled.kp E.b_q_doubled .nil (fun _ _ _ => Reps.nil) (simA_cons (sim_var 0) (simA_cons (sim_callIo (ok_q_drawn_kit E) (hr.mono (by decide)) (by rfl) E.m_q_drawn_kit E.F_q_drawn_kit.kp E.b_q_drawn_kit .nil (fun _ _ _ => Reps.nil) (simA_cons (sim_var 0) (simA_cons sim_int simA_nil))) simA_nil))))
    (simB_cons (simS_par rfl sc_q_case_right.nd (sim_call (ok_q_lists E) (hr.mono (by decide)) (by rfl) E.m_q_lists E.F_q_lists.kp E.b_q_lists .nil (fun _ _ _ => Reps.nil) (simA_cons (sim_var 1) simA_nil)) (sim_if (simT_cmp opg_gt (sim_b1 crg_len (by rfl) E.z_len bt_len (sim_ix (r := fun _ _ _ _ => True) (ixgA hr.units) (sim_var 1) sim_int (fun _ _ => rfl))) sim_int (nomark _)) sim_int (sim_b1 crg_len (by rfl) E.z_len bt_len (sim_ix (r := fun _ _ _ _ => True) (ixgA hr.units) (sim_var 1) sim_int (fun _ _ => rfl)))))
    (simB_cons (simS_for PassesOwn.never rfl (simI_range1 (by rfl) E.z_range (sim_op opg_add (sim_var 7) sim_int)) (simG_name sc_q_case_right.nd) (simB_cons (simS_set sc_q_case_right.nd (sim_call (ok_q_kinds E) (hr.mono (by decide)) (by rfl) E.m_q_kinds E.F_q_kinds.kp E.b_q_kinds .nil (fun _ _ _ => Reps.nil) (simA_cons (sim_var 1) (simA_cons (sim_var 2) simA_nil))))
    (simB_one (simS_if (simT_not (simT_val (sim_call (ok_q_same E) (hr.mono (by decide)) (by rfl) E.m_q_same E.F_q_same.kp E.b_q_same .nil (fun _ _ _ => Reps.nil) (simA_cons (sim_lst (simA_cons (sim_call (ok_classes_by E) (hr.mono (by decide)) (by rfl) E.m_classes_by E.F_classes_by.kp E.b_classes_by .nil (fun _ _ _ => Reps.nil) (simA_cons (sim_var 1) (simA_cons (sim_var 2) simA_nil))) (simA_cons (sim_call (ok_classes_by E) (hr.mono (by decide)) (by rfl) E.m_classes_by E.F_classes_by.kp E.b_classes_by .nil (fun _ _ _ => Reps.nil) (simA_cons (sim_var 6) (simA_cons (sim_var 2) simA_nil))) simA_nil))) (simA_cons (sim_lst (simA_cons (sim_var 8) (simA_cons (sim_var 8) simA_nil))) simA_nil))))) (simB_one (simS_ret sim_bl)) simB_nil))))
    (simB_cons (simS_set sc_q_case_right.nd (sim_lst (simA_cons (sim_call (ok_classes_of E) (hr.mono (by decide)) (by rfl) E.m_classes_of E.F_classes_of.kp E.b_classes_of .nil (fun _ _ _ => Reps.nil) (simA_cons (sim_var 1) simA_nil)) (simA_cons (sim_call (ok_sees_all E) (hr.mono (by decide)) (by rfl) E.m_sees_all E.F_sees_all.kp E.b_sees_all .nil (fun _ _ _ => Reps.nil) (simA_cons (sim_var 1) simA_nil)) (simA_cons (sim_call (ok_classes_of E) (hr.mono (by decide)) (by rfl) E.m_classes_of E.F_classes_of.kp E.b_classes_of .nil (fun _ _ _ => Reps.nil) (simA_cons (sim_var 6) simA_nil)) (simA_cons (sim_call (ok_sees_all E) (hr.mono (by decide)) (by rfl) E.m_sees_all E.F_sees_all.kp E.b_sees_all .nil (fun _ _ _ => Reps.nil) (simA_cons (sim_var 6) simA_nil)) simA_nil))))))
    (simB_cons (simS_set sc_q_case_right.nd (sim_lst (simA_cons (sim_call (ok_q_kinds E) (hr.mono (by decide)) (by rfl) E.m_q_kinds E.F_q_kinds.kp E.b_q_kinds .nil (fun _ _ _ => Reps.nil) (simA_cons (sim_var 1) (simA_cons (sim_var 7) simA_nil))) (simA_cons (sim_call (ok_q_first E) (hr.mono (by decide)) (by rfl) E.m_q_first E.F_q_first.kp E.b_q_first .nil (fun _ _ _ => Reps.nil) (simA_cons (sim_var 1) (simA_cons (sim_var 7) simA_nil))) simA_nil))))
    (simB_cons (simS_if (PW.pt (simW_or (simT_not (simT_val (sim_call (ok_q_same E) (hr.mono (by decide)) (by rfl) E.m_q_same E.F_q_same.kp E.b_q_same .nil (fun _ _ _ => Reps.nil) (simA_cons (sim_var 3) (simA_cons (sim_op opg_add (sim_var 4) (sim_var 4)) simA_nil))))) (simW_or1 (simT_cmp (opg_ne hr.units) (sim_var 6) (sim_call (ok_q_lists E) (hr.mono (by decide)) (by rfl) E.m_q_lists E.F_q_lists.kp E.b_q_lists .nil (fun _ _ _ => Reps.nil) (simA_cons (sim_var 1) simA_nil)) (nomark _))))) (simB_one (simS_ret sim_bl)) simB_nil)
    (simB_cons (simS_set sc_q_case_right.nd (sim_ix (r := fun _ _ _ _ => True) (ixgA hr.units) (sim_call (ok_least_box E) (hr.mono (by decide)) (by rfl) E.m_least_box E.F_least_box.kp E.b_least_box .nil (fun _ _ _ => Reps.nil) (simA_cons (sim_var 1) simA_nil)) sim_int (fun _ _ => rfl)))
    (simB_one (simS_ret (sim_b1 (crg_all rfl) (by rfl) E.z_all bt_all (sim_lc (own := [("_law_kind", 9)]) rfl sc_q_case_right.nd (simI_seq (sim_ix (r := fun _ _ _ _ => True) (ixgA hr.units) (sim_var 4) sim_int (fun _ _ => rfl))) (blkOk_by (N := N_q_case_right) (sc := defScope s_q_case_right) (by decide +kernel)) (fun _ _ _ _ _ => (simG_name sc_q_case_right.nd)) (fun _ _ _ _ _ => simTs_nil) (fun _ _ _ _ _ => (sim_cmp (opg_eq hr.units) (sim_lenSet rfl (by rfl) E.z_len (by rfl) E.z_set (sim_lc (own := [("_law_tag", 10)]) rfl sc_q_case_right.nd (simI_seq (sim_var 9)) (blkOk_by (by rfl)) (fun _ _ _ _ _ => (simG_name sc_q_case_right.nd)) (fun _ _ _ _ _ => simTs_nil) (fun _ _ _ _ _ => (sim_get2 hr.units (sim_var 5) (sim_var 10) sim_str)) (by decide))) sim_int (nomark _))) (by decide))))))))))))) (fun as r as' _ h => ⟨0, h⟩)
def c_q_right_1 : EV := (evLc (ivRng1 (evC (.int 6))) (gvN 1) tYesA (evCallIo 1 g_q_case_right [] (evCons (evVar 0) evNil)) [1])
def b_q_right : BV := (bRet (evAnd (evCall 0 g_q_by_hand_right [] evNil) (ev1 gAll c_q_right_1)))
def g_q_right : EV := gOf b_q_right N_q_right.length
theorem ok_q_right (E : En K mg) : FnOk P w K mg base CX0 15 E.a_q_right E.d_q_right P_q_right (spF ⟨P, w, K⟩ 1 g_q_right) :=
  fn_ok (fun _ => b_q_right) E.F_q_right sc_q_right (fun n cdv A outer s H Ex hr =>
    (simB_one (simS_ret (sim_and (sim_call0 (ok_q_by_hand_right E) (hr.mono (by decide)) (by rfl) E.m_q_by_hand_right E.F_q_by_hand_right.kp E.b_q_by_hand_right .nil (fun _ _ _ => Reps.nil)) (sim_one (sim_b1 (crg_all rfl) (by rfl) E.z_all bt_all (sim_lc (own := [("_law_turn", 1)]) rfl sc_q_right.nd (simI_range1 (by rfl) E.z_range sim_int) (blkOk_by (N := N_q_right) (sc := defScope s_q_right) (by decide +kernel)) (fun _ _ _ _ _ => (simG_name sc_q_right.nd)) (fun _ _ _ _ _ => simTs_nil) (fun _ _ _ _ _ => (sim_callIo (ok_q_case_right E) (hr.mono (by decide)) (by rfl) E.m_q_case_right E.F_q_case_right.kp E.b_q_case_right .nil (fun _ _ _ => Reps.nil) (simA_cons (sim_var 0) simA_nil))) (by decide)))))))) (fun as r as' _ h => ⟨0, h⟩)
def c_law_1 : EV := (evLc (ivRng1 (ev1 gLen (evVar 1))) (gvN 2) tYesA (evCallFr 1 g_q_right [] (evCons (evCall 2 g_q_box [] (evCons (evVar 1) (evCons (evVar 2) evNil))) evNil)) [2])
def b_law : BV := (bSeq (bSet 1 (evCall 2 g_q_cells [] (evCons (evVar 0) (evCons (evC (.int 3)) evNil))))
    (bRet (ev1 gAll c_law_1)))
def g_law : EV := gOf b_law N_law.length
theorem ok_law (E : En K mg) : FnOk P w K mg base CX0 16 E.a_law E.d_law P_law (spF ⟨P, w, K⟩ 1 g_law) :=
  fn_ok (fun _ => b_law) E.F_law sc_law (fun n cdv A outer s H Ex hr =>
    (simB_cons (simS_set sc_law.nd (sim_call (ok_q_cells E) (hr.mono (by decide)) (by rfl) E.m_q_cells E.F_q_cells.kp E.b_q_cells .nil (fun _ _ _ => Reps.nil) (simA_cons (sim_var 0) (simA_cons sim_int simA_nil))))
    (simB_one (simS_ret (sim_b1 (crg_all rfl) (by rfl) E.z_all bt_all (sim_lc (own := [("_law_k", 2)]) rfl sc_law.nd (simI_range1 (by rfl) E.z_range (sim_b1 crg_len (by rfl) E.z_len bt_len (sim_var 1))) (blkOk_by (N := N_law) (sc := defScope s_law) (by decide +kernel)) (fun _ _ _ _ _ => (simG_name sc_law.nd)) (fun _ _ _ _ _ => simTs_nil) (fun _ _ _ _ _ => (sim_callFr (ok_q_right E) (hr.mono (by decide)) (by rfl) E.m_q_right E.F_q_right.kp E.b_q_right .nil (fun _ _ _ => Reps.nil) (simA_cons (sim_call (ok_q_box E) (hr.mono (by decide)) (by rfl) E.m_q_box E.F_q_box.kp E.b_q_box .nil (fun _ _ _ => Reps.nil) (simA_cons (sim_var 1) (simA_cons (sim_var 2) simA_nil))) simA_nil))) (by decide))))))) (fun as r as' _ h => ⟨0, h⟩)
end
/-- the facts of the top, as the head gives them -/
theorem en_mk {K : PySem.W.Frag} {h : Heap} {mg : Str → Option Value} (X : K.In h) (G : h.Ns mainGlobals mg)
    {f_plain : Addr} {oc_plain kV_plain dc_plain pm_plain cd_plain ct_plain : Value} {od_plain an_plain : Option Addr} {sl_plain : Array (Option Value)}
    {f_notes : Addr} {oc_notes kV_notes dc_notes pm_notes cd_notes ct_notes : Value} {od_notes an_notes : Option Addr} {sl_notes : Array (Option Value)}
    {f_alike_notes : Addr} {oc_alike_notes kV_alike_notes dc_alike_notes pm_alike_notes cd_alike_notes ct_alike_notes : Value} {od_alike_notes an_alike_notes : Option Addr} {sl_alike_notes : Array (Option Value)}
    {f_least_box : Addr} {oc_least_box kV_least_box dc_least_box pm_least_box cd_least_box ct_least_box : Value} {od_least_box an_least_box : Option Addr} {sl_least_box : Array (Option Value)}
    {f_finer : Addr} {oc_finer kV_finer dc_finer pm_finer cd_finer ct_finer : Value} {od_finer an_finer : Option Addr} {sl_finer : Array (Option Value)}
    {f_numbers_by : Addr} {oc_numbers_by kV_numbers_by dc_numbers_by pm_numbers_by cd_numbers_by ct_numbers_by : Value} {od_numbers_by an_numbers_by : Option Addr} {sl_numbers_by : Array (Option Value)}
    {f_classes_by : Addr} {oc_classes_by kV_classes_by dc_classes_by pm_classes_by cd_classes_by ct_classes_by : Value} {od_classes_by an_classes_by : Option Addr} {sl_classes_by : Array (Option Value)}
    {f_classes_of : Addr} {oc_classes_of kV_classes_of dc_classes_of pm_classes_of cd_classes_of ct_classes_of : Value} {od_classes_of an_classes_of : Option Addr} {sl_classes_of : Array (Option Value)}
    {f_sees_all : Addr} {oc_sees_all kV_sees_all dc_sees_all pm_sees_all cd_sees_all ct_sees_all : Value} {od_sees_all an_sees_all : Option Addr} {sl_sees_all : Array (Option Value)}
    {f_q_box : Addr} {oc_q_box kV_q_box dc_q_box pm_q_box cd_q_box ct_q_box : Value} {od_q_box an_q_box : Option Addr} {sl_q_box : Array (Option Value)}
    {f_q_take : Addr} {oc_q_take kV_q_take dc_q_take pm_q_take cd_q_take ct_q_take : Value} {od_q_take an_q_take : Option Addr} {sl_q_take : Array (Option Value)}
    {f_q_cells : Addr} {oc_q_cells kV_q_cells dc_q_cells pm_q_cells cd_q_cells ct_q_cells : Value} {od_q_cells an_q_cells : Option Addr} {sl_q_cells : Array (Option Value)}
    {f_q_of : Addr} {oc_q_of kV_q_of dc_q_of pm_q_of cd_q_of ct_q_of : Value} {od_q_of an_q_of : Option Addr} {sl_q_of : Array (Option Value)}
    {f_q_pick : Addr} {oc_q_pick kV_q_pick dc_q_pick pm_q_pick cd_q_pick ct_q_pick : Value} {od_q_pick an_q_pick : Option Addr} {sl_q_pick : Array (Option Value)}
    {f_q_lists : Addr} {oc_q_lists kV_q_lists dc_q_lists pm_q_lists cd_q_lists ct_q_lists : Value} {od_q_lists an_q_lists : Option Addr} {sl_q_lists : Array (Option Value)}
    {f_q_same : Addr} {oc_q_same kV_q_same dc_q_same pm_q_same cd_q_same ct_q_same : Value} {od_q_same an_q_same : Option Addr} {sl_q_same : Array (Option Value)}
    {f_q_turning : Addr} {oc_q_turning kV_q_turning dc_q_turning pm_q_turning cd_q_turning ct_q_turning : Value} {od_q_turning an_q_turning : Option Addr} {sl_q_turning : Array (Option Value)}
    {f_q_breath : Addr} {oc_q_breath kV_q_breath dc_q_breath pm_q_breath cd_q_breath ct_q_breath : Value} {od_q_breath an_q_breath : Option Addr} {sl_q_breath : Array (Option Value)}
    {f_q_known_kit : Addr} {oc_q_known_kit kV_q_known_kit dc_q_known_kit pm_q_known_kit cd_q_known_kit ct_q_known_kit : Value} {od_q_known_kit an_q_known_kit : Option Addr} {sl_q_known_kit : Array (Option Value)}
    {f_q_kit : Addr} {oc_q_kit kV_q_kit dc_q_kit pm_q_kit cd_q_kit ct_q_kit : Value} {od_q_kit an_q_kit : Option Addr} {sl_q_kit : Array (Option Value)}
    {f_q_any : Addr} {oc_q_any kV_q_any dc_q_any pm_q_any cd_q_any ct_q_any : Value} {od_q_any an_q_any : Option Addr} {sl_q_any : Array (Option Value)}
    {f_q_drawn_kit : Addr} {oc_q_drawn_kit kV_q_drawn_kit dc_q_drawn_kit pm_q_drawn_kit cd_q_drawn_kit ct_q_drawn_kit : Value} {od_q_drawn_kit an_q_drawn_kit : Option Addr} {sl_q_drawn_kit : Array (Option Value)}
    {f_q_done : Addr} {oc_q_done kV_q_done dc_q_done pm_q_done cd_q_done ct_q_done : Value} {od_q_done an_q_done : Option Addr} {sl_q_done : Array (Option Value)}
    {f_q_wider : Addr} {oc_q_wider kV_q_wider dc_q_wider pm_q_wider cd_q_wider ct_q_wider : Value} {od_q_wider an_q_wider : Option Addr} {sl_q_wider : Array (Option Value)}
    {f_q_lines : Addr} {oc_q_lines kV_q_lines dc_q_lines pm_q_lines cd_q_lines ct_q_lines : Value} {od_q_lines an_q_lines : Option Addr} {sl_q_lines : Array (Option Value)}
    {f_q_kinds : Addr} {oc_q_kinds kV_q_kinds dc_q_kinds pm_q_kinds cd_q_kinds ct_q_kinds : Value} {od_q_kinds an_q_kinds : Option Addr} {sl_q_kinds : Array (Option Value)}
    {f_q_doubled : Addr} {oc_q_doubled kV_q_doubled dc_q_doubled pm_q_doubled cd_q_doubled ct_q_doubled : Value} {od_q_doubled an_q_doubled : Option Addr} {sl_q_doubled : Array (Option Value)}
    {f_q_first : Addr} {oc_q_first kV_q_first dc_q_first pm_q_first cd_q_first ct_q_first : Value} {od_q_first an_q_first : Option Addr} {sl_q_first : Array (Option Value)}
    {f_q_by_hand_right : Addr} {oc_q_by_hand_right kV_q_by_hand_right dc_q_by_hand_right pm_q_by_hand_right cd_q_by_hand_right ct_q_by_hand_right : Value} {od_q_by_hand_right an_q_by_hand_right : Option Addr} {sl_q_by_hand_right : Array (Option Value)}
    {f_q_case_right : Addr} {oc_q_case_right kV_q_case_right dc_q_case_right pm_q_case_right cd_q_case_right ct_q_case_right : Value} {od_q_case_right an_q_case_right : Option Addr} {sl_q_case_right : Array (Option Value)}
    {f_q_right : Addr} {oc_q_right kV_q_right dc_q_right pm_q_right cd_q_right ct_q_right : Value} {od_q_right an_q_right : Option Addr} {sl_q_right : Array (Option Value)}
    {f_law : Addr} {oc_law kV_law dc_law pm_law cd_law ct_law : Value} {od_law an_law : Option Addr} {sl_law : Array (Option Value)}
    {t_NONE : Tok}
    (a_plain : PySem.W.nsIn K mainGlobals "plain" = some (some (.ref f_plain))) (l_plain : K.lookup f_plain = some ⟨oc_plain, od_plain, .func (PySem.W.fnOf "plain" "plain" (defArgs s_plain) (defBody s_plain) (defScope s_plain) .none kV_plain dc_plain pm_plain an_plain cd_plain ct_plain), sl_plain⟩) (c_plain : PySem.W.codeIn K cd_plain "plain" = true) (k_plain : PySem.W.keepIn K (.ref f_plain) = true)
    (a_notes : PySem.W.nsIn K mainGlobals "notes" = some (some (.ref f_notes))) (l_notes : K.lookup f_notes = some ⟨oc_notes, od_notes, .func (PySem.W.fnOf "notes" "notes" (defArgs s_notes) (defBody s_notes) (defScope s_notes) .none kV_notes dc_notes pm_notes an_notes cd_notes ct_notes), sl_notes⟩) (c_notes : PySem.W.codeIn K cd_notes "notes" = true) (k_notes : PySem.W.keepIn K (.ref f_notes) = true)
    (a_alike_notes : PySem.W.nsIn K mainGlobals "alike_notes" = some (some (.ref f_alike_notes))) (l_alike_notes : K.lookup f_alike_notes = some ⟨oc_alike_notes, od_alike_notes, .func (PySem.W.fnOf "alike_notes" "alike_notes" (defArgs s_alike_notes) (defBody s_alike_notes) (defScope s_alike_notes) .none kV_alike_notes dc_alike_notes pm_alike_notes an_alike_notes cd_alike_notes ct_alike_notes), sl_alike_notes⟩) (c_alike_notes : PySem.W.codeIn K cd_alike_notes "alike_notes" = true) (k_alike_notes : PySem.W.keepIn K (.ref f_alike_notes) = true)
    (a_least_box : PySem.W.nsIn K mainGlobals "least_box" = some (some (.ref f_least_box))) (l_least_box : K.lookup f_least_box = some ⟨oc_least_box, od_least_box, .func (PySem.W.fnOf "least_box" "least_box" (defArgs s_least_box) (defBody s_least_box) (defScope s_least_box) .none kV_least_box dc_least_box pm_least_box an_least_box cd_least_box ct_least_box), sl_least_box⟩) (c_least_box : PySem.W.codeIn K cd_least_box "least_box" = true) (k_least_box : PySem.W.keepIn K (.ref f_least_box) = true)
    (a_finer : PySem.W.nsIn K mainGlobals "finer" = some (some (.ref f_finer))) (l_finer : K.lookup f_finer = some ⟨oc_finer, od_finer, .func (PySem.W.fnOf "finer" "finer" (defArgs s_finer) (defBody s_finer) (defScope s_finer) .none kV_finer dc_finer pm_finer an_finer cd_finer ct_finer), sl_finer⟩) (c_finer : PySem.W.codeIn K cd_finer "finer" = true) (k_finer : PySem.W.keepIn K (.ref f_finer) = true)
    (a_numbers_by : PySem.W.nsIn K mainGlobals "numbers_by" = some (some (.ref f_numbers_by))) (l_numbers_by : K.lookup f_numbers_by = some ⟨oc_numbers_by, od_numbers_by, .func (PySem.W.fnOf "numbers_by" "numbers_by" (defArgs s_numbers_by) (defBody s_numbers_by) (defScope s_numbers_by) .none kV_numbers_by dc_numbers_by pm_numbers_by an_numbers_by cd_numbers_by ct_numbers_by), sl_numbers_by⟩) (c_numbers_by : PySem.W.codeIn K cd_numbers_by "numbers_by" = true) (k_numbers_by : PySem.W.keepIn K (.ref f_numbers_by) = true)
    (a_classes_by : PySem.W.nsIn K mainGlobals "classes_by" = some (some (.ref f_classes_by))) (l_classes_by : K.lookup f_classes_by = some ⟨oc_classes_by, od_classes_by, .func (PySem.W.fnOf "classes_by" "classes_by" (defArgs s_classes_by) (defBody s_classes_by) (defScope s_classes_by) .none kV_classes_by dc_classes_by pm_classes_by an_classes_by cd_classes_by ct_classes_by), sl_classes_by⟩) (c_classes_by : PySem.W.codeIn K cd_classes_by "classes_by" = true) (k_classes_by : PySem.W.keepIn K (.ref f_classes_by) = true)
    (a_classes_of : PySem.W.nsIn K mainGlobals "classes_of" = some (some (.ref f_classes_of))) (l_classes_of : K.lookup f_classes_of = some ⟨oc_classes_of, od_classes_of, .func (PySem.W.fnOf "classes_of" "classes_of" (defArgs s_classes_of) (defBody s_classes_of) (defScope s_classes_of) .none kV_classes_of dc_classes_of pm_classes_of an_classes_of cd_classes_of ct_classes_of), sl_classes_of⟩) (c_classes_of : PySem.W.codeIn K cd_classes_of "classes_of" = true) (k_classes_of : PySem.W.keepIn K (.ref f_classes_of) = true)
    (a_sees_all : PySem.W.nsIn K mainGlobals "sees_all" = some (some (.ref f_sees_all))) (l_sees_all : K.lookup f_sees_all = some ⟨oc_sees_all, od_sees_all, .func (PySem.W.fnOf "sees_all" "sees_all" (defArgs s_sees_all) (defBody s_sees_all) (defScope s_sees_all) .none kV_sees_all dc_sees_all pm_sees_all an_sees_all cd_sees_all ct_sees_all), sl_sees_all⟩) (c_sees_all : PySem.W.codeIn K cd_sees_all "sees_all" = true) (k_sees_all : PySem.W.keepIn K (.ref f_sees_all) = true)
    (a_q_box : PySem.W.nsIn K mainGlobals "_law_box" = some (some (.ref f_q_box))) (l_q_box : K.lookup f_q_box = some ⟨oc_q_box, od_q_box, .func (PySem.W.fnOf "_law_box" "_law_box" (defArgs s_q_box) (defBody s_q_box) (defScope s_q_box) .none kV_q_box dc_q_box pm_q_box an_q_box cd_q_box ct_q_box), sl_q_box⟩) (c_q_box : PySem.W.codeIn K cd_q_box "_law_box" = true) (k_q_box : PySem.W.keepIn K (.ref f_q_box) = true)
    (a_q_take : PySem.W.nsIn K mainGlobals "_law_take" = some (some (.ref f_q_take))) (l_q_take : K.lookup f_q_take = some ⟨oc_q_take, od_q_take, .func (PySem.W.fnOf "_law_take" "_law_take" (defArgs s_q_take) (defBody s_q_take) (defScope s_q_take) .none kV_q_take dc_q_take pm_q_take an_q_take cd_q_take ct_q_take), sl_q_take⟩) (c_q_take : PySem.W.codeIn K cd_q_take "_law_take" = true) (k_q_take : PySem.W.keepIn K (.ref f_q_take) = true)
    (a_q_cells : PySem.W.nsIn K mainGlobals "_law_cells" = some (some (.ref f_q_cells))) (l_q_cells : K.lookup f_q_cells = some ⟨oc_q_cells, od_q_cells, .func (PySem.W.fnOf "_law_cells" "_law_cells" (defArgs s_q_cells) (defBody s_q_cells) (defScope s_q_cells) .none kV_q_cells dc_q_cells pm_q_cells an_q_cells cd_q_cells ct_q_cells), sl_q_cells⟩) (c_q_cells : PySem.W.codeIn K cd_q_cells "_law_cells" = true) (k_q_cells : PySem.W.keepIn K (.ref f_q_cells) = true)
    (a_q_of : PySem.W.nsIn K mainGlobals "_law_of" = some (some (.ref f_q_of))) (l_q_of : K.lookup f_q_of = some ⟨oc_q_of, od_q_of, .func (PySem.W.fnOf "_law_of" "_law_of" (defArgs s_q_of) (defBody s_q_of) (defScope s_q_of) .none kV_q_of dc_q_of pm_q_of an_q_of cd_q_of ct_q_of), sl_q_of⟩) (c_q_of : PySem.W.codeIn K cd_q_of "_law_of" = true) (k_q_of : PySem.W.keepIn K (.ref f_q_of) = true)
    (a_q_pick : PySem.W.nsIn K mainGlobals "_law_pick" = some (some (.ref f_q_pick))) (l_q_pick : K.lookup f_q_pick = some ⟨oc_q_pick, od_q_pick, .func (PySem.W.fnOf "_law_pick" "_law_pick" (defArgs s_q_pick) (defBody s_q_pick) (defScope s_q_pick) .none kV_q_pick dc_q_pick pm_q_pick an_q_pick cd_q_pick ct_q_pick), sl_q_pick⟩) (c_q_pick : PySem.W.codeIn K cd_q_pick "_law_pick" = true) (k_q_pick : PySem.W.keepIn K (.ref f_q_pick) = true)
    (a_q_lists : PySem.W.nsIn K mainGlobals "_law_lists" = some (some (.ref f_q_lists))) (l_q_lists : K.lookup f_q_lists = some ⟨oc_q_lists, od_q_lists, .func (PySem.W.fnOf "_law_lists" "_law_lists" (defArgs s_q_lists) (defBody s_q_lists) (defScope s_q_lists) .none kV_q_lists dc_q_lists pm_q_lists an_q_lists cd_q_lists ct_q_lists), sl_q_lists⟩) (c_q_lists : PySem.W.codeIn K cd_q_lists "_law_lists" = true) (k_q_lists : PySem.W.keepIn K (.ref f_q_lists) = true)
    (a_q_same : PySem.W.nsIn K mainGlobals "_law_same" = some (some (.ref f_q_same))) (l_q_same : K.lookup f_q_same = some ⟨oc_q_same, od_q_same, .func (PySem.W.fnOf "_law_same" "_law_same" (defArgs s_q_same) (defBody s_q_same) (defScope s_q_same) .none kV_q_same dc_q_same pm_q_same an_q_same cd_q_same ct_q_same), sl_q_same⟩) (c_q_same : PySem.W.codeIn K cd_q_same "_law_same" = true) (k_q_same : PySem.W.keepIn K (.ref f_q_same) = true)
    (a_q_turning : PySem.W.nsIn K mainGlobals "_law_turning" = some (some (.ref f_q_turning))) (l_q_turning : K.lookup f_q_turning = some ⟨oc_q_turning, od_q_turning, .func (PySem.W.fnOf "_law_turning" "_law_turning" (defArgs s_q_turning) (defBody s_q_turning) (defScope s_q_turning) .none kV_q_turning dc_q_turning pm_q_turning an_q_turning cd_q_turning ct_q_turning), sl_q_turning⟩) (c_q_turning : PySem.W.codeIn K cd_q_turning "_law_turning" = true) (k_q_turning : PySem.W.keepIn K (.ref f_q_turning) = true)
    (a_q_breath : PySem.W.nsIn K mainGlobals "_law_breath" = some (some (.ref f_q_breath))) (l_q_breath : K.lookup f_q_breath = some ⟨oc_q_breath, od_q_breath, .func (PySem.W.fnOf "_law_breath" "_law_breath" (defArgs s_q_breath) (defBody s_q_breath) (defScope s_q_breath) .none kV_q_breath dc_q_breath pm_q_breath an_q_breath cd_q_breath ct_q_breath), sl_q_breath⟩) (c_q_breath : PySem.W.codeIn K cd_q_breath "_law_breath" = true) (k_q_breath : PySem.W.keepIn K (.ref f_q_breath) = true)
    (a_q_known_kit : PySem.W.nsIn K mainGlobals "_law_known_kit" = some (some (.ref f_q_known_kit))) (l_q_known_kit : K.lookup f_q_known_kit = some ⟨oc_q_known_kit, od_q_known_kit, .func (PySem.W.fnOf "_law_known_kit" "_law_known_kit" (defArgs s_q_known_kit) (defBody s_q_known_kit) (defScope s_q_known_kit) .none kV_q_known_kit dc_q_known_kit pm_q_known_kit an_q_known_kit cd_q_known_kit ct_q_known_kit), sl_q_known_kit⟩) (c_q_known_kit : PySem.W.codeIn K cd_q_known_kit "_law_known_kit" = true) (k_q_known_kit : PySem.W.keepIn K (.ref f_q_known_kit) = true)
    (a_q_kit : PySem.W.nsIn K mainGlobals "_law_kit" = some (some (.ref f_q_kit))) (l_q_kit : K.lookup f_q_kit = some ⟨oc_q_kit, od_q_kit, .func (PySem.W.fnOf "_law_kit" "_law_kit" (defArgs s_q_kit) (defBody s_q_kit) (defScope s_q_kit) .none kV_q_kit dc_q_kit pm_q_kit an_q_kit cd_q_kit ct_q_kit), sl_q_kit⟩) (c_q_kit : PySem.W.codeIn K cd_q_kit "_law_kit" = true) (k_q_kit : PySem.W.keepIn K (.ref f_q_kit) = true)
    (a_q_any : PySem.W.nsIn K mainGlobals "_law_any" = some (some (.ref f_q_any))) (l_q_any : K.lookup f_q_any = some ⟨oc_q_any, od_q_any, .func (PySem.W.fnOf "_law_any" "_law_any" (defArgs s_q_any) (defBody s_q_any) (defScope s_q_any) .none kV_q_any dc_q_any pm_q_any an_q_any cd_q_any ct_q_any), sl_q_any⟩) (c_q_any : PySem.W.codeIn K cd_q_any "_law_any" = true) (k_q_any : PySem.W.keepIn K (.ref f_q_any) = true)
    (a_q_drawn_kit : PySem.W.nsIn K mainGlobals "_law_drawn_kit" = some (some (.ref f_q_drawn_kit))) (l_q_drawn_kit : K.lookup f_q_drawn_kit = some ⟨oc_q_drawn_kit, od_q_drawn_kit, .func (PySem.W.fnOf "_law_drawn_kit" "_law_drawn_kit" (defArgs s_q_drawn_kit) (defBody s_q_drawn_kit) (defScope s_q_drawn_kit) .none kV_q_drawn_kit dc_q_drawn_kit pm_q_drawn_kit an_q_drawn_kit cd_q_drawn_kit ct_q_drawn_kit), sl_q_drawn_kit⟩) (c_q_drawn_kit : PySem.W.codeIn K cd_q_drawn_kit "_law_drawn_kit" = true) (k_q_drawn_kit : PySem.W.keepIn K (.ref f_q_drawn_kit) = true)
    (a_q_done : PySem.W.nsIn K mainGlobals "_law_done" = some (some (.ref f_q_done))) (l_q_done : K.lookup f_q_done = some ⟨oc_q_done, od_q_done, .func (PySem.W.fnOf "_law_done" "_law_done" (defArgs s_q_done) (defBody s_q_done) (defScope s_q_done) .none kV_q_done dc_q_done pm_q_done an_q_done cd_q_done ct_q_done), sl_q_done⟩) (c_q_done : PySem.W.codeIn K cd_q_done "_law_done" = true) (k_q_done : PySem.W.keepIn K (.ref f_q_done) = true)
    (a_q_wider : PySem.W.nsIn K mainGlobals "_law_wider" = some (some (.ref f_q_wider))) (l_q_wider : K.lookup f_q_wider = some ⟨oc_q_wider, od_q_wider, .func (PySem.W.fnOf "_law_wider" "_law_wider" (defArgs s_q_wider) (defBody s_q_wider) (defScope s_q_wider) .none kV_q_wider dc_q_wider pm_q_wider an_q_wider cd_q_wider ct_q_wider), sl_q_wider⟩) (c_q_wider : PySem.W.codeIn K cd_q_wider "_law_wider" = true) (k_q_wider : PySem.W.keepIn K (.ref f_q_wider) = true)
    (a_q_lines : PySem.W.nsIn K mainGlobals "_law_lines" = some (some (.ref f_q_lines))) (l_q_lines : K.lookup f_q_lines = some ⟨oc_q_lines, od_q_lines, .func (PySem.W.fnOf "_law_lines" "_law_lines" (defArgs s_q_lines) (defBody s_q_lines) (defScope s_q_lines) .none kV_q_lines dc_q_lines pm_q_lines an_q_lines cd_q_lines ct_q_lines), sl_q_lines⟩) (c_q_lines : PySem.W.codeIn K cd_q_lines "_law_lines" = true) (k_q_lines : PySem.W.keepIn K (.ref f_q_lines) = true)
    (a_q_kinds : PySem.W.nsIn K mainGlobals "_law_kinds" = some (some (.ref f_q_kinds))) (l_q_kinds : K.lookup f_q_kinds = some ⟨oc_q_kinds, od_q_kinds, .func (PySem.W.fnOf "_law_kinds" "_law_kinds" (defArgs s_q_kinds) (defBody s_q_kinds) (defScope s_q_kinds) .none kV_q_kinds dc_q_kinds pm_q_kinds an_q_kinds cd_q_kinds ct_q_kinds), sl_q_kinds⟩) (c_q_kinds : PySem.W.codeIn K cd_q_kinds "_law_kinds" = true) (k_q_kinds : PySem.W.keepIn K (.ref f_q_kinds) = true)
    (a_q_doubled : PySem.W.nsIn K mainGlobals "_law_doubled" = some (some (.ref f_q_doubled))) (l_q_doubled : K.lookup f_q_doubled = some ⟨oc_q_doubled, od_q_doubled, .func (PySem.W.fnOf "_law_doubled" "_law_doubled" (defArgs s_q_doubled) (defBody s_q_doubled) (defScope s_q_doubled) .none kV_q_doubled dc_q_doubled pm_q_doubled an_q_doubled cd_q_doubled ct_q_doubled), sl_q_doubled⟩) (c_q_doubled : PySem.W.codeIn K cd_q_doubled "_law_doubled" = true) (k_q_doubled : PySem.W.keepIn K (.ref f_q_doubled) = true)
    (a_q_first : PySem.W.nsIn K mainGlobals "_law_first" = some (some (.ref f_q_first))) (l_q_first : K.lookup f_q_first = some ⟨oc_q_first, od_q_first, .func (PySem.W.fnOf "_law_first" "_law_first" (defArgs s_q_first) (defBody s_q_first) (defScope s_q_first) .none kV_q_first dc_q_first pm_q_first an_q_first cd_q_first ct_q_first), sl_q_first⟩) (c_q_first : PySem.W.codeIn K cd_q_first "_law_first" = true) (k_q_first : PySem.W.keepIn K (.ref f_q_first) = true)
    (a_q_by_hand_right : PySem.W.nsIn K mainGlobals "_law_by_hand_right" = some (some (.ref f_q_by_hand_right))) (l_q_by_hand_right : K.lookup f_q_by_hand_right = some ⟨oc_q_by_hand_right, od_q_by_hand_right, .func (PySem.W.fnOf "_law_by_hand_right" "_law_by_hand_right" (defArgs s_q_by_hand_right) (defBody s_q_by_hand_right) (defScope s_q_by_hand_right) .none kV_q_by_hand_right dc_q_by_hand_right pm_q_by_hand_right an_q_by_hand_right cd_q_by_hand_right ct_q_by_hand_right), sl_q_by_hand_right⟩) (c_q_by_hand_right : PySem.W.codeIn K cd_q_by_hand_right "_law_by_hand_right" = true) (k_q_by_hand_right : PySem.W.keepIn K (.ref f_q_by_hand_right) = true)
    (a_q_case_right : PySem.W.nsIn K mainGlobals "_law_case_right" = some (some (.ref f_q_case_right))) (l_q_case_right : K.lookup f_q_case_right = some ⟨oc_q_case_right, od_q_case_right, .func (PySem.W.fnOf "_law_case_right" "_law_case_right" (defArgs s_q_case_right) (defBody s_q_case_right) (defScope s_q_case_right) .none kV_q_case_right dc_q_case_right pm_q_case_right an_q_case_right cd_q_case_right ct_q_case_right), sl_q_case_right⟩) (c_q_case_right : PySem.W.codeIn K cd_q_case_right "_law_case_right" = true) (k_q_case_right : PySem.W.keepIn K (.ref f_q_case_right) = true)
    (a_q_right : PySem.W.nsIn K mainGlobals "_law_right" = some (some (.ref f_q_right))) (l_q_right : K.lookup f_q_right = some ⟨oc_q_right, od_q_right, .func (PySem.W.fnOf "_law_right" "_law_right" (defArgs s_q_right) (defBody s_q_right) (defScope s_q_right) .none kV_q_right dc_q_right pm_q_right an_q_right cd_q_right ct_q_right), sl_q_right⟩) (c_q_right : PySem.W.codeIn K cd_q_right "_law_right" = true) (k_q_right : PySem.W.keepIn K (.ref f_q_right) = true)
    (a_law : PySem.W.nsIn K mainGlobals "law" = some (some (.ref f_law))) (l_law : K.lookup f_law = some ⟨oc_law, od_law, .func (PySem.W.fnOf "law" "law" (defArgs s_law) (defBody s_law) (defScope s_law) .none kV_law dc_law pm_law an_law cd_law ct_law), sl_law⟩) (c_law : PySem.W.codeIn K cd_law "law" = true) (k_law : PySem.W.keepIn K (.ref f_law) = true)
    (z_abs : PySem.W.nsIn K mainGlobals "abs" = some none)
    (z_all : PySem.W.nsIn K mainGlobals "all" = some none)
    (z_bool : PySem.W.nsIn K mainGlobals "bool" = some none)
    (z_enumerate : PySem.W.nsIn K mainGlobals "enumerate" = some none)
    (z_int : PySem.W.nsIn K mainGlobals "int" = some none)
    (z_isinstance : PySem.W.nsIn K mainGlobals "isinstance" = some none)
    (z_len : PySem.W.nsIn K mainGlobals "len" = some none)
    (z_list : PySem.W.nsIn K mainGlobals "list" = some none)
    (z_max : PySem.W.nsIn K mainGlobals "max" = some none)
    (z_min : PySem.W.nsIn K mainGlobals "min" = some none)
    (z_range : PySem.W.nsIn K mainGlobals "range" = some none)
    (z_set : PySem.W.nsIn K mainGlobals "set" = some none)
    (z_sorted : PySem.W.nsIn K mainGlobals "sorted" = some none)
    (z_str : PySem.W.nsIn K mainGlobals "str" = some none)
    (z_sum : PySem.W.nsIn K mainGlobals "sum" = some none)
    (z_tuple : PySem.W.nsIn K mainGlobals "tuple" = some none)
    (z_zip : PySem.W.nsIn K mainGlobals "zip" = some none)
    (y_NONE : PySem.W.nsIn K mainGlobals "NONE" = some (some (.str "-" t_NONE)))
    : ∃ E : En K mg, E.a_law = f_law ∧ E.d_law = PySem.W.fnOf "law" "law" (defArgs s_law) (defBody s_law) (defScope s_law) .none kV_law dc_law pm_law an_law cd_law ct_law := by
  have F_plain := fun_mk (st := s_plain) l_plain c_plain k_plain
  have B_plain := F_plain.binds (ps := P_plain) fun _ _ _ _ _ _ us hl => match us, hl with | [_], _ => rfl
  have F_notes := fun_mk (st := s_notes) l_notes c_notes k_notes
  have B_notes := F_notes.binds (ps := P_notes) fun _ _ _ _ _ _ us hl => match us, hl with | [_], _ => rfl
  have F_alike_notes := fun_mk (st := s_alike_notes) l_alike_notes c_alike_notes k_alike_notes
  have B_alike_notes := F_alike_notes.binds (ps := P_alike_notes) fun _ _ _ _ _ _ us hl => match us, hl with | [_], _ => rfl
  have F_least_box := fun_mk (st := s_least_box) l_least_box c_least_box k_least_box
  have B_least_box := F_least_box.binds (ps := P_least_box) fun _ _ _ _ _ _ us hl => match us, hl with | [_], _ => rfl
  have F_finer := fun_mk (st := s_finer) l_finer c_finer k_finer
  have B_finer := F_finer.binds (ps := P_finer) fun _ _ _ _ _ _ us hl => match us, hl with | [_, _], _ => rfl
  have F_numbers_by := fun_mk (st := s_numbers_by) l_numbers_by c_numbers_by k_numbers_by
  have B_numbers_by := F_numbers_by.binds (ps := P_numbers_by) fun _ _ _ _ _ _ us hl => match us, hl with | [_, _], _ => rfl
  have F_classes_by := fun_mk (st := s_classes_by) l_classes_by c_classes_by k_classes_by
  have B_classes_by := F_classes_by.binds (ps := P_classes_by) fun _ _ _ _ _ _ us hl => match us, hl with | [_, _], _ => rfl
  have F_classes_of := fun_mk (st := s_classes_of) l_classes_of c_classes_of k_classes_of
  have B_classes_of := F_classes_of.binds (ps := P_classes_of) fun _ _ _ _ _ _ us hl => match us, hl with | [_], _ => rfl
  have F_sees_all := fun_mk (st := s_sees_all) l_sees_all c_sees_all k_sees_all
  have B_sees_all := F_sees_all.binds (ps := P_sees_all) fun _ _ _ _ _ _ us hl => match us, hl with | [_], _ => rfl
  have F_q_box := fun_mk (st := s_q_box) l_q_box c_q_box k_q_box
  have B_q_box := F_q_box.binds (ps := P_q_box) fun _ _ _ _ _ _ us hl => match us, hl with | [_, _], _ => rfl
  have F_q_take := fun_mk (st := s_q_take) l_q_take c_q_take k_q_take
  have B_q_take := F_q_take.binds (ps := P_q_take) fun _ _ _ _ _ _ us hl => match us, hl with | [_, _], _ => rfl
  have F_q_cells := fun_mk (st := s_q_cells) l_q_cells c_q_cells k_q_cells
  have B_q_cells := F_q_cells.binds (ps := P_q_cells) fun _ _ _ _ _ _ us hl => match us, hl with | [_, _], _ => rfl
  have F_q_of := fun_mk (st := s_q_of) l_q_of c_q_of k_q_of
  have B_q_of := F_q_of.binds (ps := P_q_of) fun _ _ _ _ _ _ us hl => match us, hl with | [_, _], _ => rfl
  have F_q_pick := fun_mk (st := s_q_pick) l_q_pick c_q_pick k_q_pick
  have B_q_pick := F_q_pick.binds (ps := P_q_pick) fun _ _ _ _ _ _ us hl => match us, hl with | [_, _, _], _ => rfl
  have F_q_lists := fun_mk (st := s_q_lists) l_q_lists c_q_lists k_q_lists
  have B_q_lists := F_q_lists.binds (ps := P_q_lists) fun _ _ _ _ _ _ us hl => match us, hl with | [_], _ => rfl
  have F_q_same := fun_mk (st := s_q_same) l_q_same c_q_same k_q_same
  have B_q_same := F_q_same.binds (ps := P_q_same) fun _ _ _ _ _ _ us hl => match us, hl with | [_, _], _ => rfl
  have F_q_turning := fun_mk (st := s_q_turning) l_q_turning c_q_turning k_q_turning
  have B_q_turning := F_q_turning.binds (ps := P_q_turning) fun _ _ _ _ _ _ us hl => match us, hl with | [_, _], _ => rfl
  have F_q_breath := fun_mk (st := s_q_breath) l_q_breath c_q_breath k_q_breath
  have B_q_breath := F_q_breath.binds (ps := P_q_breath) fun _ _ _ _ _ _ us hl => match us, hl with | [_, _], _ => rfl
  have F_q_known_kit := fun_mk (st := s_q_known_kit) l_q_known_kit c_q_known_kit k_q_known_kit
  have B_q_known_kit := F_q_known_kit.binds (ps := P_q_known_kit) fun _ _ _ _ _ _ us hl => match us, hl with | [_], _ => rfl
  have F_q_kit := fun_mk (st := s_q_kit) l_q_kit c_q_kit k_q_kit
  have B_q_kit := F_q_kit.binds (ps := P_q_kit) fun _ _ _ _ _ _ us hl => match us, hl with | [_, _], _ => rfl
  have F_q_any := fun_mk (st := s_q_any) l_q_any c_q_any k_q_any
  have B_q_any := F_q_any.binds (ps := P_q_any) fun _ _ _ _ _ _ us hl => match us, hl with | [_, _], _ => rfl
  have F_q_drawn_kit := fun_mk (st := s_q_drawn_kit) l_q_drawn_kit c_q_drawn_kit k_q_drawn_kit
  have B_q_drawn_kit := F_q_drawn_kit.binds (ps := P_q_drawn_kit) fun _ _ _ _ _ _ us hl => match us, hl with | [_, _], _ => rfl
  have F_q_done := fun_mk (st := s_q_done) l_q_done c_q_done k_q_done
  have B_q_done := F_q_done.binds (ps := P_q_done) fun _ _ _ _ _ _ us hl => match us, hl with | [_, _, _], _ => rfl
  have F_q_wider := fun_mk (st := s_q_wider) l_q_wider c_q_wider k_q_wider
  have B_q_wider := F_q_wider.binds (ps := P_q_wider) fun _ _ _ _ _ _ us hl => match us, hl with | [_, _], _ => rfl
  have F_q_lines := fun_mk (st := s_q_lines) l_q_lines c_q_lines k_q_lines
  have B_q_lines := F_q_lines.binds (ps := P_q_lines) fun _ _ _ _ _ _ us hl => match us, hl with | [_, _], _ => rfl
  have F_q_kinds := fun_mk (st := s_q_kinds) l_q_kinds c_q_kinds k_q_kinds
  have B_q_kinds := F_q_kinds.binds (ps := P_q_kinds) fun _ _ _ _ _ _ us hl => match us, hl with | [_, _], _ => rfl
  have F_q_doubled := fun_mk (st := s_q_doubled) l_q_doubled c_q_doubled k_q_doubled
  have B_q_doubled := F_q_doubled.binds (ps := P_q_doubled) fun _ _ _ _ _ _ us hl => match us, hl with | [_, _], _ => rfl
  have F_q_first := fun_mk (st := s_q_first) l_q_first c_q_first k_q_first
  have B_q_first := F_q_first.binds (ps := P_q_first) fun _ _ _ _ _ _ us hl => match us, hl with | [_, _], _ => rfl
  have F_q_by_hand_right := fun_mk (st := s_q_by_hand_right) l_q_by_hand_right c_q_by_hand_right k_q_by_hand_right
  have B_q_by_hand_right := F_q_by_hand_right.binds (ps := P_q_by_hand_right) fun _ _ _ _ _ _ us hl => match us, hl with | [], _ => rfl
  have F_q_case_right := fun_mk (st := s_q_case_right) l_q_case_right c_q_case_right k_q_case_right
  have B_q_case_right := F_q_case_right.binds (ps := P_q_case_right) fun _ _ _ _ _ _ us hl => match us, hl with | [_], _ => rfl
  have F_q_right := fun_mk (st := s_q_right) l_q_right c_q_right k_q_right
  have B_q_right := F_q_right.binds (ps := P_q_right) fun _ _ _ _ _ _ us hl => match us, hl with | [_], _ => rfl
  have F_law := fun_mk (st := s_law) l_law c_law k_law
  have B_law := F_law.binds (ps := P_law) fun _ _ _ _ _ _ us hl => match us, hl with | [_], _ => rfl
  exact ⟨{ z_abs := PySem.W.mg_none_of X G z_abs, z_all := PySem.W.mg_none_of X G z_all, z_bool := PySem.W.mg_none_of X G z_bool, z_enumerate := PySem.W.mg_none_of X G z_enumerate, z_int := PySem.W.mg_none_of X G z_int, z_isinstance := PySem.W.mg_none_of X G z_isinstance, z_len := PySem.W.mg_none_of X G z_len, z_list := PySem.W.mg_none_of X G z_list, z_max := PySem.W.mg_none_of X G z_max, z_min := PySem.W.mg_none_of X G z_min, z_range := PySem.W.mg_none_of X G z_range, z_set := PySem.W.mg_none_of X G z_set, z_sorted := PySem.W.mg_none_of X G z_sorted, z_str := PySem.W.mg_none_of X G z_str, z_sum := PySem.W.mg_none_of X G z_sum, z_tuple := PySem.W.mg_none_of X G z_tuple, z_zip := PySem.W.mg_none_of X G z_zip, c_NONE := ⟨_, PySem.W.mg_of X G y_NONE⟩, a_plain := f_plain, d_plain := _, F_plain := F_plain, m_plain := PySem.W.mg_of X G a_plain, b_plain := B_plain, a_notes := f_notes, d_notes := _, F_notes := F_notes, m_notes := PySem.W.mg_of X G a_notes, b_notes := B_notes, a_alike_notes := f_alike_notes, d_alike_notes := _, F_alike_notes := F_alike_notes, m_alike_notes := PySem.W.mg_of X G a_alike_notes, b_alike_notes := B_alike_notes, a_least_box := f_least_box, d_least_box := _, F_least_box := F_least_box, m_least_box := PySem.W.mg_of X G a_least_box, b_least_box := B_least_box, a_finer := f_finer, d_finer := _, F_finer := F_finer, m_finer := PySem.W.mg_of X G a_finer, b_finer := B_finer, a_numbers_by := f_numbers_by, d_numbers_by := _, F_numbers_by := F_numbers_by, m_numbers_by := PySem.W.mg_of X G a_numbers_by, b_numbers_by := B_numbers_by, a_classes_by := f_classes_by, d_classes_by := _, F_classes_by := F_classes_by, m_classes_by := PySem.W.mg_of X G a_classes_by, b_classes_by := B_classes_by, a_classes_of := f_classes_of, d_classes_of := _, F_classes_of := F_classes_of, m_classes_of := PySem.W.mg_of X G a_classes_of, b_classes_of := B_classes_of, a_sees_all := f_sees_all, d_sees_all := _, F_sees_all := F_sees_all, m_sees_all := PySem.W.mg_of X G a_sees_all, b_sees_all := B_sees_all, a_q_box := f_q_box, d_q_box := _, F_q_box := F_q_box, m_q_box := PySem.W.mg_of X G a_q_box, b_q_box := B_q_box, a_q_take := f_q_take, d_q_take := _, F_q_take := F_q_take, m_q_take := PySem.W.mg_of X G a_q_take, b_q_take := B_q_take, a_q_cells := f_q_cells, d_q_cells := _, F_q_cells := F_q_cells, m_q_cells := PySem.W.mg_of X G a_q_cells, b_q_cells := B_q_cells, a_q_of := f_q_of, d_q_of := _, F_q_of := F_q_of, m_q_of := PySem.W.mg_of X G a_q_of, b_q_of := B_q_of, a_q_pick := f_q_pick, d_q_pick := _, F_q_pick := F_q_pick, m_q_pick := PySem.W.mg_of X G a_q_pick, b_q_pick := B_q_pick, a_q_lists := f_q_lists, d_q_lists := _, F_q_lists := F_q_lists, m_q_lists := PySem.W.mg_of X G a_q_lists, b_q_lists := B_q_lists, a_q_same := f_q_same, d_q_same := _, F_q_same := F_q_same, m_q_same := PySem.W.mg_of X G a_q_same, b_q_same := B_q_same, a_q_turning := f_q_turning, d_q_turning := _, F_q_turning := F_q_turning, m_q_turning := PySem.W.mg_of X G a_q_turning, b_q_turning := B_q_turning, a_q_breath := f_q_breath, d_q_breath := _, F_q_breath := F_q_breath, m_q_breath := PySem.W.mg_of X G a_q_breath, b_q_breath := B_q_breath, a_q_known_kit := f_q_known_kit, d_q_known_kit := _, F_q_known_kit := F_q_known_kit, m_q_known_kit := PySem.W.mg_of X G a_q_known_kit, b_q_known_kit := B_q_known_kit, a_q_kit := f_q_kit, d_q_kit := _, F_q_kit := F_q_kit, m_q_kit := PySem.W.mg_of X G a_q_kit, b_q_kit := B_q_kit, a_q_any := f_q_any, d_q_any := _, F_q_any := F_q_any, m_q_any := PySem.W.mg_of X G a_q_any, b_q_any := B_q_any, a_q_drawn_kit := f_q_drawn_kit, d_q_drawn_kit := _, F_q_drawn_kit := F_q_drawn_kit, m_q_drawn_kit := PySem.W.mg_of X G a_q_drawn_kit, b_q_drawn_kit := B_q_drawn_kit, a_q_done := f_q_done, d_q_done := _, F_q_done := F_q_done, m_q_done := PySem.W.mg_of X G a_q_done, b_q_done := B_q_done, a_q_wider := f_q_wider, d_q_wider := _, F_q_wider := F_q_wider, m_q_wider := PySem.W.mg_of X G a_q_wider, b_q_wider := B_q_wider, a_q_lines := f_q_lines, d_q_lines := _, F_q_lines := F_q_lines, m_q_lines := PySem.W.mg_of X G a_q_lines, b_q_lines := B_q_lines, a_q_kinds := f_q_kinds, d_q_kinds := _, F_q_kinds := F_q_kinds, m_q_kinds := PySem.W.mg_of X G a_q_kinds, b_q_kinds := B_q_kinds, a_q_doubled := f_q_doubled, d_q_doubled := _, F_q_doubled := F_q_doubled, m_q_doubled := PySem.W.mg_of X G a_q_doubled, b_q_doubled := B_q_doubled, a_q_first := f_q_first, d_q_first := _, F_q_first := F_q_first, m_q_first := PySem.W.mg_of X G a_q_first, b_q_first := B_q_first, a_q_by_hand_right := f_q_by_hand_right, d_q_by_hand_right := _, F_q_by_hand_right := F_q_by_hand_right, m_q_by_hand_right := PySem.W.mg_of X G a_q_by_hand_right, b_q_by_hand_right := B_q_by_hand_right, a_q_case_right := f_q_case_right, d_q_case_right := _, F_q_case_right := F_q_case_right, m_q_case_right := PySem.W.mg_of X G a_q_case_right, b_q_case_right := B_q_case_right, a_q_right := f_q_right, d_q_right := _, F_q_right := F_q_right, m_q_right := PySem.W.mg_of X G a_q_right, b_q_right := B_q_right, a_law := f_law, d_law := _, F_law := F_law, m_law := PySem.W.mg_of X G a_law, b_law := B_law }, rfl, rfl⟩
theorem law_F {P : Program} {w : World} {K : PySem.W.Frag} {h : Heap} {mg : Str → Option Value} {fa : Addr} (X : K.In h) (G : h.Ns mainGlobals mg) (hfa : mg "law" = some (.ref fa))
    {f_plain : Addr} {oc_plain kV_plain dc_plain pm_plain cd_plain ct_plain : Value} {od_plain an_plain : Option Addr} {sl_plain : Array (Option Value)}
    {f_notes : Addr} {oc_notes kV_notes dc_notes pm_notes cd_notes ct_notes : Value} {od_notes an_notes : Option Addr} {sl_notes : Array (Option Value)}
    {f_alike_notes : Addr} {oc_alike_notes kV_alike_notes dc_alike_notes pm_alike_notes cd_alike_notes ct_alike_notes : Value} {od_alike_notes an_alike_notes : Option Addr} {sl_alike_notes : Array (Option Value)}
    {f_least_box : Addr} {oc_least_box kV_least_box dc_least_box pm_least_box cd_least_box ct_least_box : Value} {od_least_box an_least_box : Option Addr} {sl_least_box : Array (Option Value)}
    {f_finer : Addr} {oc_finer kV_finer dc_finer pm_finer cd_finer ct_finer : Value} {od_finer an_finer : Option Addr} {sl_finer : Array (Option Value)}
    {f_numbers_by : Addr} {oc_numbers_by kV_numbers_by dc_numbers_by pm_numbers_by cd_numbers_by ct_numbers_by : Value} {od_numbers_by an_numbers_by : Option Addr} {sl_numbers_by : Array (Option Value)}
    {f_classes_by : Addr} {oc_classes_by kV_classes_by dc_classes_by pm_classes_by cd_classes_by ct_classes_by : Value} {od_classes_by an_classes_by : Option Addr} {sl_classes_by : Array (Option Value)}
    {f_classes_of : Addr} {oc_classes_of kV_classes_of dc_classes_of pm_classes_of cd_classes_of ct_classes_of : Value} {od_classes_of an_classes_of : Option Addr} {sl_classes_of : Array (Option Value)}
    {f_sees_all : Addr} {oc_sees_all kV_sees_all dc_sees_all pm_sees_all cd_sees_all ct_sees_all : Value} {od_sees_all an_sees_all : Option Addr} {sl_sees_all : Array (Option Value)}
    {f_q_box : Addr} {oc_q_box kV_q_box dc_q_box pm_q_box cd_q_box ct_q_box : Value} {od_q_box an_q_box : Option Addr} {sl_q_box : Array (Option Value)}
    {f_q_take : Addr} {oc_q_take kV_q_take dc_q_take pm_q_take cd_q_take ct_q_take : Value} {od_q_take an_q_take : Option Addr} {sl_q_take : Array (Option Value)}
    {f_q_cells : Addr} {oc_q_cells kV_q_cells dc_q_cells pm_q_cells cd_q_cells ct_q_cells : Value} {od_q_cells an_q_cells : Option Addr} {sl_q_cells : Array (Option Value)}
    {f_q_of : Addr} {oc_q_of kV_q_of dc_q_of pm_q_of cd_q_of ct_q_of : Value} {od_q_of an_q_of : Option Addr} {sl_q_of : Array (Option Value)}
    {f_q_pick : Addr} {oc_q_pick kV_q_pick dc_q_pick pm_q_pick cd_q_pick ct_q_pick : Value} {od_q_pick an_q_pick : Option Addr} {sl_q_pick : Array (Option Value)}
    {f_q_lists : Addr} {oc_q_lists kV_q_lists dc_q_lists pm_q_lists cd_q_lists ct_q_lists : Value} {od_q_lists an_q_lists : Option Addr} {sl_q_lists : Array (Option Value)}
    {f_q_same : Addr} {oc_q_same kV_q_same dc_q_same pm_q_same cd_q_same ct_q_same : Value} {od_q_same an_q_same : Option Addr} {sl_q_same : Array (Option Value)}
    {f_q_turning : Addr} {oc_q_turning kV_q_turning dc_q_turning pm_q_turning cd_q_turning ct_q_turning : Value} {od_q_turning an_q_turning : Option Addr} {sl_q_turning : Array (Option Value)}
    {f_q_breath : Addr} {oc_q_breath kV_q_breath dc_q_breath pm_q_breath cd_q_breath ct_q_breath : Value} {od_q_breath an_q_breath : Option Addr} {sl_q_breath : Array (Option Value)}
    {f_q_known_kit : Addr} {oc_q_known_kit kV_q_known_kit dc_q_known_kit pm_q_known_kit cd_q_known_kit ct_q_known_kit : Value} {od_q_known_kit an_q_known_kit : Option Addr} {sl_q_known_kit : Array (Option Value)}
    {f_q_kit : Addr} {oc_q_kit kV_q_kit dc_q_kit pm_q_kit cd_q_kit ct_q_kit : Value} {od_q_kit an_q_kit : Option Addr} {sl_q_kit : Array (Option Value)}
    {f_q_any : Addr} {oc_q_any kV_q_any dc_q_any pm_q_any cd_q_any ct_q_any : Value} {od_q_any an_q_any : Option Addr} {sl_q_any : Array (Option Value)}
    {f_q_drawn_kit : Addr} {oc_q_drawn_kit kV_q_drawn_kit dc_q_drawn_kit pm_q_drawn_kit cd_q_drawn_kit ct_q_drawn_kit : Value} {od_q_drawn_kit an_q_drawn_kit : Option Addr} {sl_q_drawn_kit : Array (Option Value)}
    {f_q_done : Addr} {oc_q_done kV_q_done dc_q_done pm_q_done cd_q_done ct_q_done : Value} {od_q_done an_q_done : Option Addr} {sl_q_done : Array (Option Value)}
    {f_q_wider : Addr} {oc_q_wider kV_q_wider dc_q_wider pm_q_wider cd_q_wider ct_q_wider : Value} {od_q_wider an_q_wider : Option Addr} {sl_q_wider : Array (Option Value)}
    {f_q_lines : Addr} {oc_q_lines kV_q_lines dc_q_lines pm_q_lines cd_q_lines ct_q_lines : Value} {od_q_lines an_q_lines : Option Addr} {sl_q_lines : Array (Option Value)}
    {f_q_kinds : Addr} {oc_q_kinds kV_q_kinds dc_q_kinds pm_q_kinds cd_q_kinds ct_q_kinds : Value} {od_q_kinds an_q_kinds : Option Addr} {sl_q_kinds : Array (Option Value)}
    {f_q_doubled : Addr} {oc_q_doubled kV_q_doubled dc_q_doubled pm_q_doubled cd_q_doubled ct_q_doubled : Value} {od_q_doubled an_q_doubled : Option Addr} {sl_q_doubled : Array (Option Value)}
    {f_q_first : Addr} {oc_q_first kV_q_first dc_q_first pm_q_first cd_q_first ct_q_first : Value} {od_q_first an_q_first : Option Addr} {sl_q_first : Array (Option Value)}
    {f_q_by_hand_right : Addr} {oc_q_by_hand_right kV_q_by_hand_right dc_q_by_hand_right pm_q_by_hand_right cd_q_by_hand_right ct_q_by_hand_right : Value} {od_q_by_hand_right an_q_by_hand_right : Option Addr} {sl_q_by_hand_right : Array (Option Value)}
    {f_q_case_right : Addr} {oc_q_case_right kV_q_case_right dc_q_case_right pm_q_case_right cd_q_case_right ct_q_case_right : Value} {od_q_case_right an_q_case_right : Option Addr} {sl_q_case_right : Array (Option Value)}
    {f_q_right : Addr} {oc_q_right kV_q_right dc_q_right pm_q_right cd_q_right ct_q_right : Value} {od_q_right an_q_right : Option Addr} {sl_q_right : Array (Option Value)}
    {f_law : Addr} {oc_law kV_law dc_law pm_law cd_law ct_law : Value} {od_law an_law : Option Addr} {sl_law : Array (Option Value)}
    {t_NONE : Tok}
    (a_plain : PySem.W.nsIn K mainGlobals "plain" = some (some (.ref f_plain))) (l_plain : K.lookup f_plain = some ⟨oc_plain, od_plain, .func (PySem.W.fnOf "plain" "plain" (defArgs s_plain) (defBody s_plain) (defScope s_plain) .none kV_plain dc_plain pm_plain an_plain cd_plain ct_plain), sl_plain⟩) (c_plain : PySem.W.codeIn K cd_plain "plain" = true) (k_plain : PySem.W.keepIn K (.ref f_plain) = true)
    (a_notes : PySem.W.nsIn K mainGlobals "notes" = some (some (.ref f_notes))) (l_notes : K.lookup f_notes = some ⟨oc_notes, od_notes, .func (PySem.W.fnOf "notes" "notes" (defArgs s_notes) (defBody s_notes) (defScope s_notes) .none kV_notes dc_notes pm_notes an_notes cd_notes ct_notes), sl_notes⟩) (c_notes : PySem.W.codeIn K cd_notes "notes" = true) (k_notes : PySem.W.keepIn K (.ref f_notes) = true)
    (a_alike_notes : PySem.W.nsIn K mainGlobals "alike_notes" = some (some (.ref f_alike_notes))) (l_alike_notes : K.lookup f_alike_notes = some ⟨oc_alike_notes, od_alike_notes, .func (PySem.W.fnOf "alike_notes" "alike_notes" (defArgs s_alike_notes) (defBody s_alike_notes) (defScope s_alike_notes) .none kV_alike_notes dc_alike_notes pm_alike_notes an_alike_notes cd_alike_notes ct_alike_notes), sl_alike_notes⟩) (c_alike_notes : PySem.W.codeIn K cd_alike_notes "alike_notes" = true) (k_alike_notes : PySem.W.keepIn K (.ref f_alike_notes) = true)
    (a_least_box : PySem.W.nsIn K mainGlobals "least_box" = some (some (.ref f_least_box))) (l_least_box : K.lookup f_least_box = some ⟨oc_least_box, od_least_box, .func (PySem.W.fnOf "least_box" "least_box" (defArgs s_least_box) (defBody s_least_box) (defScope s_least_box) .none kV_least_box dc_least_box pm_least_box an_least_box cd_least_box ct_least_box), sl_least_box⟩) (c_least_box : PySem.W.codeIn K cd_least_box "least_box" = true) (k_least_box : PySem.W.keepIn K (.ref f_least_box) = true)
    (a_finer : PySem.W.nsIn K mainGlobals "finer" = some (some (.ref f_finer))) (l_finer : K.lookup f_finer = some ⟨oc_finer, od_finer, .func (PySem.W.fnOf "finer" "finer" (defArgs s_finer) (defBody s_finer) (defScope s_finer) .none kV_finer dc_finer pm_finer an_finer cd_finer ct_finer), sl_finer⟩) (c_finer : PySem.W.codeIn K cd_finer "finer" = true) (k_finer : PySem.W.keepIn K (.ref f_finer) = true)
    (a_numbers_by : PySem.W.nsIn K mainGlobals "numbers_by" = some (some (.ref f_numbers_by))) (l_numbers_by : K.lookup f_numbers_by = some ⟨oc_numbers_by, od_numbers_by, .func (PySem.W.fnOf "numbers_by" "numbers_by" (defArgs s_numbers_by) (defBody s_numbers_by) (defScope s_numbers_by) .none kV_numbers_by dc_numbers_by pm_numbers_by an_numbers_by cd_numbers_by ct_numbers_by), sl_numbers_by⟩) (c_numbers_by : PySem.W.codeIn K cd_numbers_by "numbers_by" = true) (k_numbers_by : PySem.W.keepIn K (.ref f_numbers_by) = true)
    (a_classes_by : PySem.W.nsIn K mainGlobals "classes_by" = some (some (.ref f_classes_by))) (l_classes_by : K.lookup f_classes_by = some ⟨oc_classes_by, od_classes_by, .func (PySem.W.fnOf "classes_by" "classes_by" (defArgs s_classes_by) (defBody s_classes_by) (defScope s_classes_by) .none kV_classes_by dc_classes_by pm_classes_by an_classes_by cd_classes_by ct_classes_by), sl_classes_by⟩) (c_classes_by : PySem.W.codeIn K cd_classes_by "classes_by" = true) (k_classes_by : PySem.W.keepIn K (.ref f_classes_by) = true)
    (a_classes_of : PySem.W.nsIn K mainGlobals "classes_of" = some (some (.ref f_classes_of))) (l_classes_of : K.lookup f_classes_of = some ⟨oc_classes_of, od_classes_of, .func (PySem.W.fnOf "classes_of" "classes_of" (defArgs s_classes_of) (defBody s_classes_of) (defScope s_classes_of) .none kV_classes_of dc_classes_of pm_classes_of an_classes_of cd_classes_of ct_classes_of), sl_classes_of⟩) (c_classes_of : PySem.W.codeIn K cd_classes_of "classes_of" = true) (k_classes_of : PySem.W.keepIn K (.ref f_classes_of) = true)
    (a_sees_all : PySem.W.nsIn K mainGlobals "sees_all" = some (some (.ref f_sees_all))) (l_sees_all : K.lookup f_sees_all = some ⟨oc_sees_all, od_sees_all, .func (PySem.W.fnOf "sees_all" "sees_all" (defArgs s_sees_all) (defBody s_sees_all) (defScope s_sees_all) .none kV_sees_all dc_sees_all pm_sees_all an_sees_all cd_sees_all ct_sees_all), sl_sees_all⟩) (c_sees_all : PySem.W.codeIn K cd_sees_all "sees_all" = true) (k_sees_all : PySem.W.keepIn K (.ref f_sees_all) = true)
    (a_q_box : PySem.W.nsIn K mainGlobals "_law_box" = some (some (.ref f_q_box))) (l_q_box : K.lookup f_q_box = some ⟨oc_q_box, od_q_box, .func (PySem.W.fnOf "_law_box" "_law_box" (defArgs s_q_box) (defBody s_q_box) (defScope s_q_box) .none kV_q_box dc_q_box pm_q_box an_q_box cd_q_box ct_q_box), sl_q_box⟩) (c_q_box : PySem.W.codeIn K cd_q_box "_law_box" = true) (k_q_box : PySem.W.keepIn K (.ref f_q_box) = true)
    (a_q_take : PySem.W.nsIn K mainGlobals "_law_take" = some (some (.ref f_q_take))) (l_q_take : K.lookup f_q_take = some ⟨oc_q_take, od_q_take, .func (PySem.W.fnOf "_law_take" "_law_take" (defArgs s_q_take) (defBody s_q_take) (defScope s_q_take) .none kV_q_take dc_q_take pm_q_take an_q_take cd_q_take ct_q_take), sl_q_take⟩) (c_q_take : PySem.W.codeIn K cd_q_take "_law_take" = true) (k_q_take : PySem.W.keepIn K (.ref f_q_take) = true)
    (a_q_cells : PySem.W.nsIn K mainGlobals "_law_cells" = some (some (.ref f_q_cells))) (l_q_cells : K.lookup f_q_cells = some ⟨oc_q_cells, od_q_cells, .func (PySem.W.fnOf "_law_cells" "_law_cells" (defArgs s_q_cells) (defBody s_q_cells) (defScope s_q_cells) .none kV_q_cells dc_q_cells pm_q_cells an_q_cells cd_q_cells ct_q_cells), sl_q_cells⟩) (c_q_cells : PySem.W.codeIn K cd_q_cells "_law_cells" = true) (k_q_cells : PySem.W.keepIn K (.ref f_q_cells) = true)
    (a_q_of : PySem.W.nsIn K mainGlobals "_law_of" = some (some (.ref f_q_of))) (l_q_of : K.lookup f_q_of = some ⟨oc_q_of, od_q_of, .func (PySem.W.fnOf "_law_of" "_law_of" (defArgs s_q_of) (defBody s_q_of) (defScope s_q_of) .none kV_q_of dc_q_of pm_q_of an_q_of cd_q_of ct_q_of), sl_q_of⟩) (c_q_of : PySem.W.codeIn K cd_q_of "_law_of" = true) (k_q_of : PySem.W.keepIn K (.ref f_q_of) = true)
    (a_q_pick : PySem.W.nsIn K mainGlobals "_law_pick" = some (some (.ref f_q_pick))) (l_q_pick : K.lookup f_q_pick = some ⟨oc_q_pick, od_q_pick, .func (PySem.W.fnOf "_law_pick" "_law_pick" (defArgs s_q_pick) (defBody s_q_pick) (defScope s_q_pick) .none kV_q_pick dc_q_pick pm_q_pick an_q_pick cd_q_pick ct_q_pick), sl_q_pick⟩) (c_q_pick : PySem.W.codeIn K cd_q_pick "_law_pick" = true) (k_q_pick : PySem.W.keepIn K (.ref f_q_pick) = true)
    (a_q_lists : PySem.W.nsIn K mainGlobals "_law_lists" = some (some (.ref f_q_lists))) (l_q_lists : K.lookup f_q_lists = some ⟨oc_q_lists, od_q_lists, .func (PySem.W.fnOf "_law_lists" "_law_lists" (defArgs s_q_lists) (defBody s_q_lists) (defScope s_q_lists) .none kV_q_lists dc_q_lists pm_q_lists an_q_lists cd_q_lists ct_q_lists), sl_q_lists⟩) (c_q_lists : PySem.W.codeIn K cd_q_lists "_law_lists" = true) (k_q_lists : PySem.W.keepIn K (.ref f_q_lists) = true)
    (a_q_same : PySem.W.nsIn K mainGlobals "_law_same" = some (some (.ref f_q_same))) (l_q_same : K.lookup f_q_same = some ⟨oc_q_same, od_q_same, .func (PySem.W.fnOf "_law_same" "_law_same" (defArgs s_q_same) (defBody s_q_same) (defScope s_q_same) .none kV_q_same dc_q_same pm_q_same an_q_same cd_q_same ct_q_same), sl_q_same⟩) (c_q_same : PySem.W.codeIn K cd_q_same "_law_same" = true) (k_q_same : PySem.W.keepIn K (.ref f_q_same) = true)
    (a_q_turning : PySem.W.nsIn K mainGlobals "_law_turning" = some (some (.ref f_q_turning))) (l_q_turning : K.lookup f_q_turning = some ⟨oc_q_turning, od_q_turning, .func (PySem.W.fnOf "_law_turning" "_law_turning" (defArgs s_q_turning) (defBody s_q_turning) (defScope s_q_turning) .none kV_q_turning dc_q_turning pm_q_turning an_q_turning cd_q_turning ct_q_turning), sl_q_turning⟩) (c_q_turning : PySem.W.codeIn K cd_q_turning "_law_turning" = true) (k_q_turning : PySem.W.keepIn K (.ref f_q_turning) = true)
    (a_q_breath : PySem.W.nsIn K mainGlobals "_law_breath" = some (some (.ref f_q_breath))) (l_q_breath : K.lookup f_q_breath = some ⟨oc_q_breath, od_q_breath, .func (PySem.W.fnOf "_law_breath" "_law_breath" (defArgs s_q_breath) (defBody s_q_breath) (defScope s_q_breath) .none kV_q_breath dc_q_breath pm_q_breath an_q_breath cd_q_breath ct_q_breath), sl_q_breath⟩) (c_q_breath : PySem.W.codeIn K cd_q_breath "_law_breath" = true) (k_q_breath : PySem.W.keepIn K (.ref f_q_breath) = true)
    (a_q_known_kit : PySem.W.nsIn K mainGlobals "_law_known_kit" = some (some (.ref f_q_known_kit))) (l_q_known_kit : K.lookup f_q_known_kit = some ⟨oc_q_known_kit, od_q_known_kit, .func (PySem.W.fnOf "_law_known_kit" "_law_known_kit" (defArgs s_q_known_kit) (defBody s_q_known_kit) (defScope s_q_known_kit) .none kV_q_known_kit dc_q_known_kit pm_q_known_kit an_q_known_kit cd_q_known_kit ct_q_known_kit), sl_q_known_kit⟩) (c_q_known_kit : PySem.W.codeIn K cd_q_known_kit "_law_known_kit" = true) (k_q_known_kit : PySem.W.keepIn K (.ref f_q_known_kit) = true)
    (a_q_kit : PySem.W.nsIn K mainGlobals "_law_kit" = some (some (.ref f_q_kit))) (l_q_kit : K.lookup f_q_kit = some ⟨oc_q_kit, od_q_kit, .func (PySem.W.fnOf "_law_kit" "_law_kit" (defArgs s_q_kit) (defBody s_q_kit) (defScope s_q_kit) .none kV_q_kit dc_q_kit pm_q_kit an_q_kit cd_q_kit ct_q_kit), sl_q_kit⟩) (c_q_kit : PySem.W.codeIn K cd_q_kit "_law_kit" = true) (k_q_kit : PySem.W.keepIn K (.ref f_q_kit) = true)
    (a_q_any : PySem.W.nsIn K mainGlobals "_law_any" = some (some (.ref f_q_any))) (l_q_any : K.lookup f_q_any = some ⟨oc_q_any, od_q_any, .func (PySem.W.fnOf "_law_any" "_law_any" (defArgs s_q_any) (defBody s_q_any) (defScope s_q_any) .none kV_q_any dc_q_any pm_q_any an_q_any cd_q_any ct_q_any), sl_q_any⟩) (c_q_any : PySem.W.codeIn K cd_q_any "_law_any" = true) (k_q_any : PySem.W.keepIn K (.ref f_q_any) = true)
    (a_q_drawn_kit : PySem.W.nsIn K mainGlobals "_law_drawn_kit" = some (some (.ref f_q_drawn_kit))) (l_q_drawn_kit : K.lookup f_q_drawn_kit = some ⟨oc_q_drawn_kit, od_q_drawn_kit, .func (PySem.W.fnOf "_law_drawn_kit" "_law_drawn_kit" (defArgs s_q_drawn_kit) (defBody s_q_drawn_kit) (defScope s_q_drawn_kit) .none kV_q_drawn_kit dc_q_drawn_kit pm_q_drawn_kit an_q_drawn_kit cd_q_drawn_kit ct_q_drawn_kit), sl_q_drawn_kit⟩) (c_q_drawn_kit : PySem.W.codeIn K cd_q_drawn_kit "_law_drawn_kit" = true) (k_q_drawn_kit : PySem.W.keepIn K (.ref f_q_drawn_kit) = true)
    (a_q_done : PySem.W.nsIn K mainGlobals "_law_done" = some (some (.ref f_q_done))) (l_q_done : K.lookup f_q_done = some ⟨oc_q_done, od_q_done, .func (PySem.W.fnOf "_law_done" "_law_done" (defArgs s_q_done) (defBody s_q_done) (defScope s_q_done) .none kV_q_done dc_q_done pm_q_done an_q_done cd_q_done ct_q_done), sl_q_done⟩) (c_q_done : PySem.W.codeIn K cd_q_done "_law_done" = true) (k_q_done : PySem.W.keepIn K (.ref f_q_done) = true)
    (a_q_wider : PySem.W.nsIn K mainGlobals "_law_wider" = some (some (.ref f_q_wider))) (l_q_wider : K.lookup f_q_wider = some ⟨oc_q_wider, od_q_wider, .func (PySem.W.fnOf "_law_wider" "_law_wider" (defArgs s_q_wider) (defBody s_q_wider) (defScope s_q_wider) .none kV_q_wider dc_q_wider pm_q_wider an_q_wider cd_q_wider ct_q_wider), sl_q_wider⟩) (c_q_wider : PySem.W.codeIn K cd_q_wider "_law_wider" = true) (k_q_wider : PySem.W.keepIn K (.ref f_q_wider) = true)
    (a_q_lines : PySem.W.nsIn K mainGlobals "_law_lines" = some (some (.ref f_q_lines))) (l_q_lines : K.lookup f_q_lines = some ⟨oc_q_lines, od_q_lines, .func (PySem.W.fnOf "_law_lines" "_law_lines" (defArgs s_q_lines) (defBody s_q_lines) (defScope s_q_lines) .none kV_q_lines dc_q_lines pm_q_lines an_q_lines cd_q_lines ct_q_lines), sl_q_lines⟩) (c_q_lines : PySem.W.codeIn K cd_q_lines "_law_lines" = true) (k_q_lines : PySem.W.keepIn K (.ref f_q_lines) = true)
    (a_q_kinds : PySem.W.nsIn K mainGlobals "_law_kinds" = some (some (.ref f_q_kinds))) (l_q_kinds : K.lookup f_q_kinds = some ⟨oc_q_kinds, od_q_kinds, .func (PySem.W.fnOf "_law_kinds" "_law_kinds" (defArgs s_q_kinds) (defBody s_q_kinds) (defScope s_q_kinds) .none kV_q_kinds dc_q_kinds pm_q_kinds an_q_kinds cd_q_kinds ct_q_kinds), sl_q_kinds⟩) (c_q_kinds : PySem.W.codeIn K cd_q_kinds "_law_kinds" = true) (k_q_kinds : PySem.W.keepIn K (.ref f_q_kinds) = true)
    (a_q_doubled : PySem.W.nsIn K mainGlobals "_law_doubled" = some (some (.ref f_q_doubled))) (l_q_doubled : K.lookup f_q_doubled = some ⟨oc_q_doubled, od_q_doubled, .func (PySem.W.fnOf "_law_doubled" "_law_doubled" (defArgs s_q_doubled) (defBody s_q_doubled) (defScope s_q_doubled) .none kV_q_doubled dc_q_doubled pm_q_doubled an_q_doubled cd_q_doubled ct_q_doubled), sl_q_doubled⟩) (c_q_doubled : PySem.W.codeIn K cd_q_doubled "_law_doubled" = true) (k_q_doubled : PySem.W.keepIn K (.ref f_q_doubled) = true)
    (a_q_first : PySem.W.nsIn K mainGlobals "_law_first" = some (some (.ref f_q_first))) (l_q_first : K.lookup f_q_first = some ⟨oc_q_first, od_q_first, .func (PySem.W.fnOf "_law_first" "_law_first" (defArgs s_q_first) (defBody s_q_first) (defScope s_q_first) .none kV_q_first dc_q_first pm_q_first an_q_first cd_q_first ct_q_first), sl_q_first⟩) (c_q_first : PySem.W.codeIn K cd_q_first "_law_first" = true) (k_q_first : PySem.W.keepIn K (.ref f_q_first) = true)
    (a_q_by_hand_right : PySem.W.nsIn K mainGlobals "_law_by_hand_right" = some (some (.ref f_q_by_hand_right))) (l_q_by_hand_right : K.lookup f_q_by_hand_right = some ⟨oc_q_by_hand_right, od_q_by_hand_right, .func (PySem.W.fnOf "_law_by_hand_right" "_law_by_hand_right" (defArgs s_q_by_hand_right) (defBody s_q_by_hand_right) (defScope s_q_by_hand_right) .none kV_q_by_hand_right dc_q_by_hand_right pm_q_by_hand_right an_q_by_hand_right cd_q_by_hand_right ct_q_by_hand_right), sl_q_by_hand_right⟩) (c_q_by_hand_right : PySem.W.codeIn K cd_q_by_hand_right "_law_by_hand_right" = true) (k_q_by_hand_right : PySem.W.keepIn K (.ref f_q_by_hand_right) = true)
    (a_q_case_right : PySem.W.nsIn K mainGlobals "_law_case_right" = some (some (.ref f_q_case_right))) (l_q_case_right : K.lookup f_q_case_right = some ⟨oc_q_case_right, od_q_case_right, .func (PySem.W.fnOf "_law_case_right" "_law_case_right" (defArgs s_q_case_right) (defBody s_q_case_right) (defScope s_q_case_right) .none kV_q_case_right dc_q_case_right pm_q_case_right an_q_case_right cd_q_case_right ct_q_case_right), sl_q_case_right⟩) (c_q_case_right : PySem.W.codeIn K cd_q_case_right "_law_case_right" = true) (k_q_case_right : PySem.W.keepIn K (.ref f_q_case_right) = true)
    (a_q_right : PySem.W.nsIn K mainGlobals "_law_right" = some (some (.ref f_q_right))) (l_q_right : K.lookup f_q_right = some ⟨oc_q_right, od_q_right, .func (PySem.W.fnOf "_law_right" "_law_right" (defArgs s_q_right) (defBody s_q_right) (defScope s_q_right) .none kV_q_right dc_q_right pm_q_right an_q_right cd_q_right ct_q_right), sl_q_right⟩) (c_q_right : PySem.W.codeIn K cd_q_right "_law_right" = true) (k_q_right : PySem.W.keepIn K (.ref f_q_right) = true)
    (a_law : PySem.W.nsIn K mainGlobals "law" = some (some (.ref f_law))) (l_law : K.lookup f_law = some ⟨oc_law, od_law, .func (PySem.W.fnOf "law" "law" (defArgs s_law) (defBody s_law) (defScope s_law) .none kV_law dc_law pm_law an_law cd_law ct_law), sl_law⟩) (c_law : PySem.W.codeIn K cd_law "law" = true) (k_law : PySem.W.keepIn K (.ref f_law) = true)
    (z_abs : PySem.W.nsIn K mainGlobals "abs" = some none)
    (z_all : PySem.W.nsIn K mainGlobals "all" = some none)
    (z_bool : PySem.W.nsIn K mainGlobals "bool" = some none)
    (z_enumerate : PySem.W.nsIn K mainGlobals "enumerate" = some none)
    (z_int : PySem.W.nsIn K mainGlobals "int" = some none)
    (z_isinstance : PySem.W.nsIn K mainGlobals "isinstance" = some none)
    (z_len : PySem.W.nsIn K mainGlobals "len" = some none)
    (z_list : PySem.W.nsIn K mainGlobals "list" = some none)
    (z_max : PySem.W.nsIn K mainGlobals "max" = some none)
    (z_min : PySem.W.nsIn K mainGlobals "min" = some none)
    (z_range : PySem.W.nsIn K mainGlobals "range" = some none)
    (z_set : PySem.W.nsIn K mainGlobals "set" = some none)
    (z_sorted : PySem.W.nsIn K mainGlobals "sorted" = some none)
    (z_str : PySem.W.nsIn K mainGlobals "str" = some none)
    (z_sum : PySem.W.nsIn K mainGlobals "sum" = some none)
    (z_tuple : PySem.W.nsIn K mainGlobals "tuple" = some none)
    (z_zip : PySem.W.nsIn K mainGlobals "zip" = some none)
    (y_NONE : PySem.W.nsIn K mainGlobals "NONE" = some (some (.str "-" t_NONE)))
    : ∃ fd : FuncData, (∀ (s : Shared) (u : Value), BindsTo s fd ⟨[u], []⟩ [("_law_script", u)]) ∧ ∀ base : Heap, K.In base → base.Ns mainGlobals mg → FnOk P w K mg base CX0 16 fa fd ["_law_script"] (spF ⟨P, w, K⟩ 1 g_law) := by
  have e := hfa.symm.trans (PySem.W.mg_of X G a_law)
  cases e
  obtain ⟨E, e1, e2⟩ := en_mk X G a_plain l_plain c_plain k_plain a_notes l_notes c_notes k_notes a_alike_notes l_alike_notes c_alike_notes k_alike_notes a_least_box l_least_box c_least_box k_least_box a_finer l_finer c_finer k_finer a_numbers_by l_numbers_by c_numbers_by k_numbers_by a_classes_by l_classes_by c_classes_by k_classes_by a_classes_of l_classes_of c_classes_of k_classes_of a_sees_all l_sees_all c_sees_all k_sees_all a_q_box l_q_box c_q_box k_q_box a_q_take l_q_take c_q_take k_q_take a_q_cells l_q_cells c_q_cells k_q_cells a_q_of l_q_of c_q_of k_q_of a_q_pick l_q_pick c_q_pick k_q_pick a_q_lists l_q_lists c_q_lists k_q_lists a_q_same l_q_same c_q_same k_q_same a_q_turning l_q_turning c_q_turning k_q_turning a_q_breath l_q_breath c_q_breath k_q_breath a_q_known_kit l_q_known_kit c_q_known_kit k_q_known_kit a_q_kit l_q_kit c_q_kit k_q_kit a_q_any l_q_any c_q_any k_q_any a_q_drawn_kit l_q_drawn_kit c_q_drawn_kit k_q_drawn_kit a_q_done l_q_done c_q_done k_q_done a_q_wider l_q_wider c_q_wider k_q_wider a_q_lines l_q_lines c_q_lines k_q_lines a_q_kinds l_q_kinds c_q_kinds k_q_kinds a_q_doubled l_q_doubled c_q_doubled k_q_doubled a_q_first l_q_first c_q_first k_q_first a_q_by_hand_right l_q_by_hand_right c_q_by_hand_right k_q_by_hand_right a_q_case_right l_q_case_right c_q_case_right k_q_case_right a_q_right l_q_right c_q_right k_q_right a_law l_law c_law k_law z_abs z_all z_bool z_enumerate z_int z_isinstance z_len z_list z_max z_min z_range z_set z_sorted z_str z_sum z_tuple z_zip y_NONE
  refine ⟨PySem.W.fnOf "law" "law" (defArgs s_law) (defBody s_law) (defScope s_law) .none kV_law dc_law pm_law an_law cd_law ct_law, fun s v => .of_eq rfl, fun base _ _ => ?_⟩
  rw [← e1, ← e2]
  exact ok_law E
end K72

end
/-! M1: what loops and comprehensions give, for the math. -/
namespace Z
open PySem L2
open PyProof.Rows hiding St
inductive All2 {α β : Type} (P : α → β → Prop) : List α → List β → Prop
  | nil : All2 P [] []
  | cons {x : α} {y : β} {xs : List α} {ys : List β} : P x y → All2 P xs ys → All2 P (x :: xs) (y :: ys)
theorem All2.length {α β : Type} {P : α → β → Prop} {xs : List α} {ys : List β} (h : All2 P xs ys) : ys.length = xs.length := by
  induction h with
  | nil => rfl
  | cons _ _ ih => simp [ih]
theorem All2.right {α β : Type} {P : α → β → Prop} {xs : List α} {ys : List β} (h : All2 P xs ys) : ∀ y ∈ ys, ∃ x ∈ xs, P x y := by
  induction h with
  | nil => intro y h; cases h
  | cons p _ ih =>
    intro y h
    rcases List.mem_cons.mp h with rfl | h
    · exact ⟨_, List.mem_cons_self, p⟩
    · obtain ⟨x, hx, q⟩ := ih y h
      exact ⟨x, List.mem_cons_of_mem _ hx, q⟩
/-- a for loop: I of what is left and of the state -/
theorem forL_inv {g : GV} {body : BV} {I : List D → SS → Prop} (h : ∀ x rest A, I (x :: rest) A → ∃ A1 A2, g x A = some A1 ∧ (body A1 = some (.nx, A2) ∨ body A1 = some (.ct, A2)) ∧ I rest A2) :
    ∀ (xs : List D) (A : SS), I xs A → ∃ A', forL g body xs A = some (.nx, A') ∧ I [] A'
  | [], A, i => ⟨A, rfl, i⟩
  | x :: xs, A, i => by
    obtain ⟨A1, A2, e1, e2, j⟩ := h x xs A i
    obtain ⟨A', e3, k⟩ := forL_inv h xs A2 j
    refine ⟨A', ?_, k⟩
    rcases e2 with e2 | e2 <;> simp only [forL, e1, e2, e3]
/-- a for loop that folds -/
theorem forL_fold {α β : Type} {g : GV} {body : BV} {emb : α → D} {f : β → α → β} {I : β → SS → Prop} : ∀ (l : List α) (h : ∀ a ∈ l, ∀ b A, I b A → ∃ A1 A2, g (emb a) A = some A1 ∧ (body A1 = some (.nx, A2) ∨ body A1 = some (.ct, A2)) ∧ I (f b a) A2) (b : β) (A : SS), I b A →
    ∃ A', forL g body (l.map emb) A = some (.nx, A') ∧ I (l.foldl f b) A'
  | [], _, b, A, i => ⟨A, rfl, i⟩
  | x :: xs, h, b, A, i => by
    obtain ⟨A1, A2, e1, e2, j⟩ := h x List.mem_cons_self b A i
    obtain ⟨A', e3, k⟩ := forL_fold xs (fun a ha => h a (List.mem_cons_of_mem _ ha)) (f b x) A2 j
    refine ⟨A', ?_, k⟩
    rcases e2 with e2 | e2 <;> simp only [List.map_cons, forL, e1, e2, e3]
/-- a comprehension that leaves the state -/
theorem lcL_map {α : Type} {g : GV} {t : ET} {e : EV} {vs : List Nat} {A : SS} {emb : α → D} {f : α → D} {p : α → Bool} : ∀ (l : List α)
    (h : ∀ a ∈ l, ∃ A1 A2, g (emb a) A = some A1 ∧ t A1 = some (p a, A2) ∧ (p a = false → wipeA A2 vs = A) ∧ (p a = true → ∃ r A3 A4, e A2 = some (r, A3) ∧ mv A3 r = some (f a, A4) ∧ wipeA A4 vs = A)),
    lcL g t e vs (l.map emb) A = some ((l.filter p).map f, A)
  | [], _ => rfl
  | x :: xs, h => by
    obtain ⟨A1, A2, e1, e2, w, w2⟩ := h x List.mem_cons_self
    have ih := lcL_map xs fun a ha => h a (List.mem_cons_of_mem _ ha)
    cases hp : p x with
    | false =>
      rw [hp] at e2
      simp only [List.map_cons, lcL, e1, e2, w hp, ih, List.filter_cons, hp]
      rfl
    | true =>
      rw [hp] at e2
      obtain ⟨r, A3, A4, e3, e4, w4⟩ := w2 hp
      simp only [List.map_cons, lcL, e1, e2, e3, e4, w4, ih, List.filter_cons, hp, if_true]
theorem lcL_all {α : Type} {g : GV} {e : EV} {vs : List Nat} {A : SS} {emb : α → D} {f : α → D} (l : List α)
    (h : ∀ a ∈ l, ∃ A1 r A3 A4, g (emb a) A = some A1 ∧ e A1 = some (r, A3) ∧ mv A3 r = some (f a, A4) ∧ wipeA A4 vs = A) :
    lcL g tYesA e vs (l.map emb) A = some (l.map f, A) := by
  have := lcL_map (g := g) (t := tYesA) (e := e) (vs := vs) (A := A) (emb := emb) (f := f) (p := fun _ => true) l fun a ha => by
    obtain ⟨A1, r, A3, A4, e1, e2, e3, w⟩ := h a ha
    exact ⟨A1, A1, e1, rfl, (fun z => by cases z), (fun _ => ⟨r, A3, A4, e2, e3, w⟩)⟩
  rw [this, List.filter_eq_self.mpr fun _ _ => rfl]
/-- a comprehension that draws: I of the number of turns left -/
theorem lcL_rel {g : GV} {e : EV} {vs : List Nat} {I : Nat → SS → Prop} {P : D → D → Prop} : ∀ (xs : List D) (h : ∀ x ∈ xs, ∀ n A, I (n + 1) A → ∃ A1 r A3 y A4, g x A = some A1 ∧ e A1 = some (r, A3) ∧ mv A3 r = some (y, A4) ∧ P x y ∧ I n (wipeA A4 vs)) (n : Nat) (A : SS), I (n + xs.length) A →
    ∃ ys A', lcL g tYesA e vs xs A = some (ys, A') ∧ All2 P xs ys ∧ I n A'
  | [], _, n, A, i => ⟨[], A, rfl, .nil, i⟩
  | x :: xs, h, n, A, i => by
    obtain ⟨A1, r, A3, y, A4, e1, e2, e3, p, j⟩ := h x List.mem_cons_self (n + xs.length) A i
    obtain ⟨ys, A', e5, q, k⟩ := lcL_rel xs (fun a ha => h a (List.mem_cons_of_mem _ ha)) n _ j
    exact ⟨y :: ys, A', by simp only [lcL, tYesA, e1, e2, e3, e5], .cons p q, k⟩
/-- a dict comprehension that leaves the state -/
theorem dcL_fold {α : Type} {g : GV} {ek ev : EV} {vs : List Nat} {A : SS} {emb : α → D} {k : α → Key} {f : α → D} : ∀ (l : List α)
    (h : ∀ a ∈ l, ∃ A1 rk A3 r A4 A5, g (emb a) A = some A1 ∧ ek A1 = some (rk, A3) ∧ peek A3 rk = some (keyD (k a)) ∧ ev A3 = some (r, A4) ∧ mv A4 r = some (f a, A5) ∧ wipeA A5 vs = A) (acc : List (Key × D)),
    dcL g tYesA ek ev vs (l.map emb) acc A = some (l.foldl (fun b a => putA b (k a) (f a)) acc, A)
  | [], _, _ => rfl
  | x :: xs, h, acc => by
    obtain ⟨A1, rk, A3, r, A4, A5, e1, e2, e3, e4, e5, w⟩ := h x List.mem_cons_self
    have ih := dcL_fold xs fun a ha => h a (List.mem_cons_of_mem _ ha)
    simp only [List.map_cons, dcL, tYesA, e1, e2, e3, dkey_keyD, e4, e5, w, ih, List.foldl_cons]
/-- new keys only: the dict is the list -/
theorem putA_new {α : Type} {k : α → Key} {f : α → D} : ∀ (l : List α) (acc : List (Key × D)), (acc.map (·.1) ++ l.map k).Nodup → l.foldl (fun b a => putA b (k a) (f a)) acc = acc ++ l.map fun a => (k a, f a)
  | [], acc, _ => by simp
  | x :: xs, acc, nd => by
    have n1 : ¬ k x ∈ acc.map (·.1) := fun hm => by
      rw [List.map_cons, List.nodup_append] at nd
      exact nd.2.2 _ hm _ List.mem_cons_self rfl
    have e1 : putA acc (k x) (f x) = acc ++ [(k x, f x)] := by
      unfold putA
      rw [if_neg]
      intro ha
      obtain ⟨p, hp, hq⟩ := List.any_eq_true.mp ha
      exact n1 (List.mem_map.mpr ⟨p, hp, of_decide_eq_true hq⟩)
    rw [List.foldl_cons, e1, putA_new xs (acc ++ [(k x, f x)]) (by simpa using nd)]
    simp
theorem atI_nat {α : Type} {xs : List α} {i : Int} {n : Nat} (hi : i = n) (h : n < xs.length) : L2.atI xs i = some xs[n] := by
  subst hi
  unfold L2.atI L2.ixN
  rw [if_pos (by omega), if_pos (by omega)]
  simp [h]
theorem atI_0 {α : Type} {x : α} {xs : List α} : L2.atI (x :: xs) 0 = some x := atI_nat (n := 0) rfl (by simp)
theorem atI_1 {α : Type} {x y : α} {xs : List α} : L2.atI (x :: y :: xs) 1 = some y := atI_nat (n := 1) rfl (by simp)
theorem atI_2 {α : Type} {x y z : α} {xs : List α} : L2.atI (x :: y :: z :: xs) 2 = some z := atI_nat (n := 2) rfl (by simp)
theorem rngD0 (n : Nat) : rngD 0 (n : Nat) = (List.range n).map fun k => .int ((k : Nat) : Int) := by
  unfold rngD
  congr 1
  · funext k
    rw [Int.zero_add]
end Z
/-! P1: plain: classes by what is made of all lines. -/
namespace PL
section
variable {T α β : Type} [DecidableEq α] [DecidableEq β]
/-- the first ones of each class -/
def reps (c : T → α) : List T → List T → List T
  | acc, [] => acc
  | acc, x :: xs => reps c (if acc.any (fun y => decide (c y = c x)) then acc else acc ++ [x]) xs
def Same (l : List T) (c : T → α) (c' : T → β) : Prop := ∀ x ∈ l, ∀ y ∈ l, c x = c y ↔ c' x = c' y
def Fin' (l : List T) (c : T → α) (c' : T → β) : Prop := ∀ x ∈ l, ∀ y ∈ l, c x = c y → c' x = c' y
theorem Same.symm {l : List T} {c : T → α} {c' : T → β} (h : Same l c c') : Same l c' c := fun x hx y hy => (h x hx y hy).symm
theorem Same.trans {γ : Type} {l : List T} {c : T → α} {c' : T → β} {c'' : T → γ} (h : Same l c c') (k : Same l c' c'') : Same l c c'' := fun x hx y hy => (h x hx y hy).trans (k x hx y hy)
theorem any_same {l : List T} {c : T → α} {c' : T → β} (h : Same l c c') {acc : List T} (ha : ∀ y ∈ acc, y ∈ l) {x : T} (hx : x ∈ l) : acc.any (fun y => decide (c y = c x)) = acc.any (fun y => decide (c' y = c' x)) := by
  rw [Bool.eq_iff_iff, List.any_eq_true, List.any_eq_true]
  constructor
  · rintro ⟨y, hy, e⟩; exact ⟨y, hy, decide_eq_true ((h y (ha y hy) x hx).mp (of_decide_eq_true e))⟩
  · rintro ⟨y, hy, e⟩; exact ⟨y, hy, decide_eq_true ((h y (ha y hy) x hx).mpr (of_decide_eq_true e))⟩
theorem reps_same {l : List T} {c : T → α} {c' : T → β} (h : Same l c c') : ∀ (xs acc : List T), (∀ y ∈ acc, y ∈ l) → (∀ y ∈ xs, y ∈ l) → reps c acc xs = reps c' acc xs
  | [], _, _, _ => rfl
  | x :: xs, acc, ha, hx => by
    have hx0 := hx x List.mem_cons_self
    rw [reps, reps, any_same h ha hx0]
    refine reps_same h xs _ ?_ fun y hy => hx y (List.mem_cons_of_mem _ hy)
    intro y hy
    split at hy
    · exact ha y hy
    · rcases List.mem_append.mp hy with hy | hy
      · exact ha y hy
      · rw [List.mem_singleton.mp hy]; exact hx0
theorem reps_len (c : T → α) : ∀ (xs acc : List T), (reps c acc xs).length ≤ acc.length + xs.length
  | [], _ => by simp [reps]
  | x :: xs, acc => by
    rw [reps]
    refine Nat.le_trans (reps_len c xs _) ?_
    split <;> simp <;> omega
theorem reps_sub (c : T → α) : ∀ (xs acc : List T), ∃ s, reps c acc xs = acc ++ s ∧ s.Sublist xs
  | [], acc => ⟨[], by simp [reps], List.Sublist.slnil⟩
  | x :: xs, acc => by
    rw [reps]
    split
    · obtain ⟨s, e, q⟩ := reps_sub c xs acc
      exact ⟨s, e, q.cons _⟩
    · obtain ⟨s, e, q⟩ := reps_sub c xs (acc ++ [x])
      exact ⟨x :: s, by rw [e]; simp, q.cons₂ _⟩
theorem reps_mem (c : T → α) {xs : List T} {y : T} (h : y ∈ reps c [] xs) : y ∈ xs := by
  obtain ⟨s, e, q⟩ := reps_sub c xs []
  rw [e, List.nil_append] at h
  exact q.mem h
/-- each one has a first one -/
theorem reps_has (c : T → α) : ∀ (xs acc : List T), ∀ x, x ∈ acc ∨ x ∈ xs → ∃ y ∈ reps c acc xs, c y = c x
  | [], acc, x, h => ⟨x, (match h with | .inl h => h), rfl⟩
  | z :: xs, acc, x, h => by
    rw [reps]
    split
    · rename_i ha
      rcases h with h | h
      · exact reps_has c xs acc x (.inl h)
      · rcases List.mem_cons.mp h with rfl | h
        · obtain ⟨y, hy, e⟩ := List.any_eq_true.mp ha
          obtain ⟨w, hw, e2⟩ := reps_has c xs acc y (.inl hy)
          exact ⟨w, hw, e2.trans (of_decide_eq_true e)⟩
        · exact reps_has c xs acc x (.inr h)
    · rcases h with h | h
      · exact reps_has c xs _ x (.inl (List.mem_append.mpr (.inl h)))
      · rcases List.mem_cons.mp h with rfl | h
        · exact reps_has c xs _ x (.inl (List.mem_append.mpr (.inr List.mem_cons_self)))
        · exact reps_has c xs _ x (.inr h)
/-- first ones are of unlike classes -/
theorem reps_inj (c : T → α) : ∀ (xs acc : List T), acc.Pairwise (fun a b => c a ≠ c b) → (reps c acc xs).Pairwise fun a b => c a ≠ c b
  | [], _, h => h
  | x :: xs, acc, h => by
    rw [reps]
    split
    · exact reps_inj c xs acc h
    · rename_i ha
      refine reps_inj c xs _ (List.pairwise_append.mpr ⟨h, List.pairwise_singleton _ _, fun a hm b hb => ?_⟩)
      rw [List.mem_singleton.mp hb]
      intro e
      exact ha (List.any_eq_true.mpr ⟨a, hm, decide_eq_true e⟩)
theorem pw_eq {γ : Type} [DecidableEq γ] {c : T → γ} {l : List T} (h : l.Pairwise fun a b => c a ≠ c b) {x y : T} (hx : x ∈ l) (hy : y ∈ l) (e : c x = c y) : x = y := by
  induction h with
  | nil => cases hx
  | cons h1 _ ih =>
    rcases List.mem_cons.mp hx with hx | hx <;> rcases List.mem_cons.mp hy with hy | hy
    · rw [hx, hy]
    · exact absurd (hx ▸ e) (h1 _ hy)
    · exact absurd (hy ▸ e.symm) (h1 _ hx)
    · exact ih hx hy
/-- the first ones of coarser classes are among those of finer ones -/
theorem reps_fin {l : List T} {c : T → α} {c' : T → β} (h : Fin' l c c') : ∀ (xs acc acc' : List T), acc'.Sublist acc → (∀ y ∈ acc, y ∈ l) → (∀ y ∈ xs, y ∈ l) → (∀ y ∈ acc, ∃ z ∈ acc', c' z = c' y) → (reps c' acc' xs).Sublist (reps c acc xs)
  | [], _, _, hs, _, _, _ => hs
  | x :: xs, acc, acc', hs, ha, hx, hr => by
    have hx0 := hx x List.mem_cons_self
    have hxs := fun y hy => hx y (List.mem_cons_of_mem _ hy)
    have hacc : ∀ y ∈ acc ++ [x], y ∈ l := fun y hy => by
      rcases List.mem_append.mp hy with hy | hy
      · exact ha y hy
      · rw [List.mem_singleton.mp hy]; exact hx0
    rw [reps, reps]
    by_cases h1 : acc.any (fun y => decide (c y = c x)) = true
    · obtain ⟨y, hy, e⟩ := List.any_eq_true.mp h1
      obtain ⟨z, hz, e2⟩ := hr y hy
      have h2 : acc'.any (fun y => decide (c' y = c' x)) = true := List.any_eq_true.mpr ⟨z, hz, decide_eq_true (e2.trans (h y (ha y hy) x hx0 (of_decide_eq_true e)))⟩
      rw [if_pos h1, if_pos h2]
      exact reps_fin h xs acc acc' hs ha hxs hr
    · rw [if_neg h1]
      split
      · rename_i h2
        obtain ⟨z, hz, e⟩ := List.any_eq_true.mp h2
        refine reps_fin h xs _ acc' (hs.trans (List.sublist_append_left _ _)) hacc hxs fun y hy => ?_
        rcases List.mem_append.mp hy with hy | hy
        · exact hr y hy
        · rw [List.mem_singleton.mp hy]; exact ⟨z, hz, of_decide_eq_true e⟩
      · refine reps_fin h xs _ _ (hs.append (List.Sublist.refl _)) hacc hxs fun y hy => ?_
        rcases List.mem_append.mp hy with hy | hy
        · obtain ⟨z, hz, e⟩ := hr y hy
          exact ⟨z, List.mem_append.mpr (.inl hz), e⟩
        · rw [List.mem_singleton.mp hy]
          exact ⟨x, List.mem_append.mpr (.inr List.mem_cons_self), rfl⟩
def cnt (l : List T) (c : T → α) : Nat := (reps c [] l).length
theorem cnt_same {l : List T} {c : T → α} {c' : T → β} (h : Same l c c') : cnt l c = cnt l c' := by
  unfold cnt
  rw [reps_same h l [] (fun _ h => by cases h) fun _ h => h]
theorem cnt_le (l : List T) (c : T → α) : cnt l c ≤ l.length := by
  have := reps_len c l []
  simpa [cnt] using this
theorem cnt_fin {l : List T} {c : T → α} {c' : T → β} (h : Fin' l c c') : cnt l c' ≤ cnt l c :=
  (reps_fin h l [] [] (List.Sublist.refl _) (fun _ h => by cases h) (fun _ h => h) (fun _ h => by cases h)).length_le
/-- as many classes, and finer: the same -/
theorem same_of_cnt {l : List T} {c : T → α} {c' : T → β} (h : Fin' l c c') (e : cnt l c = cnt l c') : Same l c c' := by
  intro x hx y hy
  refine ⟨h x hx y hy, fun e' => ?_⟩
  have sub := reps_fin h l [] [] (List.Sublist.refl _) (fun _ h => by cases h) (fun _ h => h) (fun _ h => by cases h)
  have req := sub.eq_of_length (show (reps c' [] l).length = (reps c [] l).length from e.symm)
  obtain ⟨u, hu, eu⟩ := reps_has c l [] x (.inr hx)
  obtain ⟨v, hv, ev⟩ := reps_has c l [] y (.inr hy)
  have hul := reps_mem c hu
  have hvl := reps_mem c hv
  have e3 : c' u = c' v := (h u hul x hx eu).trans (e'.trans (h v hvl y hy ev).symm)
  have inj := reps_inj c' l [] List.Pairwise.nil
  have : u = v := pw_eq inj (req ▸ hu) (req ▸ hv) e3
  rw [← eu, ← ev, this]
theorem cnt_pos {l : List T} (c : T → α) (h : l ≠ []) : 1 ≤ cnt l c := by
  obtain ⟨x, hx⟩ := List.exists_mem_of_ne_nil l h
  obtain ⟨y, hy, _⟩ := reps_has c l [] x (.inr hx)
  exact List.length_pos_of_mem hy
/-- the classes -/
def grp (c : T → α) (l : List T) : List (List T) := (reps c [] l).map fun r => l.filter fun x => decide (c x = c r)
theorem grp_same {l : List T} {c : T → α} {c' : T → β} (h : Same l c c') : grp c l = grp c' l := by
  unfold grp
  rw [reps_same h l [] (fun _ h => by cases h) fun _ h => h]
  refine List.map_congr_left fun r hr => List.filter_congr fun x hx => ?_
  have := h x hx r (reps_mem c' hr)
  by_cases e : c x = c r
  · rw [decide_eq_true e, decide_eq_true (this.mp e)]
  · rw [decide_eq_false e, decide_eq_false fun e' => e (this.mpr e')]
theorem grp_eq_iff {l : List T} {c : T → α} {c' : T → β} : grp c l = grp c' l ↔ Same l c c' := by
  refine ⟨fun h => ?_, grp_same⟩
  have key : ∀ {γ : Type} [DecidableEq γ] (d : T → γ) x, x ∈ l → ∀ y, y ∈ l → (d x = d y ↔ ∃ g ∈ grp d l, x ∈ g ∧ y ∈ g) := by
    intro γ _ d x hx y hy
    constructor
    · intro e
      obtain ⟨r, hr, er⟩ := reps_has d l [] x (.inr hx)
      refine ⟨_, List.mem_map.mpr ⟨r, hr, rfl⟩, List.mem_filter.mpr ⟨hx, decide_eq_true er.symm⟩, List.mem_filter.mpr ⟨hy, decide_eq_true (e.symm.trans er.symm)⟩⟩
    · rintro ⟨g, hg, h1, h2⟩
      obtain ⟨r, _, rfl⟩ := List.mem_map.mp hg
      exact (of_decide_eq_true (List.mem_filter.mp h1).2).trans (of_decide_eq_true (List.mem_filter.mp h2).2).symm
  intro x hx y hy
  rw [key c x hx y hy, key c' x hx y hy, h]
/-! ### what is made of lines -/
variable [Inhabited T]
def lines (n : Nat) : Nat → List (List Nat)
  | 0 => [[]]
  | k + 1 => (lines n k).flatMap fun own => (List.range n).map fun s => own ++ [s]
theorem mem_lines (n : Nat) : ∀ (k : Nat) (l : List Nat), l ∈ lines n k ↔ l.length = k ∧ ∀ f ∈ l, f < n
  | 0, l => by
    rw [lines, List.mem_singleton]
    exact ⟨fun h => by subst h; exact ⟨rfl, fun _ h => by cases h⟩, fun h => List.length_eq_zero_iff.mp h.1⟩
  | k + 1, l => by
    rw [lines, List.mem_flatMap]
    constructor
    · rintro ⟨own, ho, hl⟩
      obtain ⟨s, hs, rfl⟩ := List.mem_map.mp hl
      have := (mem_lines n k own).mp ho
      refine ⟨by simp [this.1], fun f hf => ?_⟩
      rcases List.mem_append.mp hf with hf | hf
      · exact this.2 f hf
      · rw [List.mem_singleton.mp hf]; exact List.mem_range.mp hs
    · rintro ⟨h1, h2⟩
      have hne : l ≠ [] := fun e => by subst e; cases h1
      have := List.dropLast_concat_getLast hne
      refine ⟨l.dropLast, (mem_lines n k _).mpr ⟨by simp [h1], fun f hf => h2 f (List.dropLast_subset l hf)⟩, List.mem_map.mpr ⟨l.getLast hne, List.mem_range.mpr (h2 _ (List.getLast_mem hne)), this⟩⟩
def done (F : T → List Nat) (S : T → List T) : T → List Nat → List Nat
  | _, [] => []
  | x, f :: r => (F x).getD f 0 :: done F S ((S x).getD f default) r
def made (n : Nat) (F : T → List Nat) (S : T → List T) (k : Nat) (x : T) : List (List Nat) := (lines n k).map (done F S x)
theorem made_iff {n : Nat} {F : T → List Nat} {S : T → List T} {k : Nat} {x y : T} : made n F S k x = made n F S k y ↔ ∀ l, l.length = k → (∀ f ∈ l, f < n) → done F S x l = done F S y l := by
  unfold made
  rw [List.map_inj_left]
  exact ⟨fun h l h1 h2 => h l ((mem_lines n k l).mpr ⟨h1, h2⟩), fun h l hl => let ⟨h1, h2⟩ := (mem_lines n k l).mp hl; h l h1 h2⟩
structure Good (n : Nat) (F : T → List Nat) (S : T → List T) (l : List T) : Prop where
  pos : 0 < n
  fl : ∀ x ∈ l, (F x).length = n
  sl : ∀ x ∈ l, (S x).length = n
  cl : ∀ x ∈ l, ∀ y ∈ S x, y ∈ l
def step (F : T → List Nat) (S : T → List T) (c : T → α) (x : T) : List Nat × List α := (F x, (S x).map c)
theorem list_eq_getD {α : Type} {n : Nat} {xs ys : List α} (d : α) (h1 : xs.length = n) (h2 : ys.length = n) (h : ∀ i, i < n → xs.getD i d = ys.getD i d) : xs = ys := by
  refine List.ext_getElem (by omega) fun i a b => ?_
  have := h i (by omega)
  simpa [List.getD, a, b] using this
theorem getD_mem {α : Type} {xs : List α} {i : Nat} (d : α) (h : i < xs.length) : xs.getD i d ∈ xs := by
  simp only [List.getD_eq_getElem?_getD, List.getElem?_eq_getElem h, Option.getD_some]
  exact List.getElem_mem h
theorem map_same {l : List T} {c : T → α} {c' : T → β} (h : Same l c c') : ∀ (xs ys : List T), (∀ x ∈ xs, x ∈ l) → (∀ y ∈ ys, y ∈ l) → (xs.map c = ys.map c ↔ xs.map c' = ys.map c')
  | [], [], _, _ => by simp
  | [], _ :: _, _, _ => by simp
  | _ :: _, [], _, _ => by simp
  | x :: xs, y :: ys, hx, hy => by
    simp only [List.map_cons, List.cons.injEq]
    rw [h x (hx x List.mem_cons_self) y (hy y List.mem_cons_self), map_same h xs ys (fun z hz => hx z (List.mem_cons_of_mem _ hz)) fun z hz => hy z (List.mem_cons_of_mem _ hz)]
theorem step_same {n : Nat} {F : T → List Nat} {S : T → List T} {l : List T} (g : Good n F S l) {c : T → α} {c' : T → β} (h : Same l c c') : Same l (step F S c) (step F S c') := by
  intro x hx y hy
  simp only [step, Prod.mk.injEq]
  rw [map_same h (S x) (S y) (g.cl x hx) (g.cl y hy)]
theorem made_step {n : Nat} {F : T → List Nat} {S : T → List T} {l : List T} (g : Good n F S l) (k : Nat) : Same l (made n F S (k + 1)) (step F S (made n F S k)) := by
  intro x hx y hy
  rw [made_iff]
  simp only [step, Prod.mk.injEq]
  constructor
  · intro h
    refine ⟨list_eq_getD 0 (g.fl x hx) (g.fl y hy) fun i hi => ?_, ?_⟩
    · have := h (i :: List.replicate k 0) (by simp) (fun f hf => by
        rcases List.mem_cons.mp hf with rfl | hf
        · exact hi
        · rw [List.eq_of_mem_replicate hf]; exact g.pos)
      simp only [done, List.cons.injEq] at this
      exact this.1
    · refine list_eq_getD [] (by rw [List.length_map, g.sl x hx]) (by rw [List.length_map, g.sl y hy]) fun i hi => ?_
      have hxi : i < (S x).length := by rw [g.sl x hx]; exact hi
      have hyi : i < (S y).length := by rw [g.sl y hy]; exact hi
      have e1 : ((S x).map (made n F S k)).getD i [] = made n F S k ((S x).getD i default) := by simp [List.getD, hxi]
      have e2 : ((S y).map (made n F S k)).getD i [] = made n F S k ((S y).getD i default) := by simp [List.getD, hyi]
      rw [e1, e2, made_iff]
      intro r h1 h2
      have := h (i :: r) (by simp [h1]) (fun f hf => by
        rcases List.mem_cons.mp hf with rfl | hf
        · exact hi
        · exact h2 f hf)
      simp only [done, List.cons.injEq] at this
      exact this.2
  · rintro ⟨h1, h2⟩ r hr hf
    cases r with
    | nil => cases hr
    | cons i r =>
      have hi := hf i List.mem_cons_self
      have hxi : i < (S x).length := by rw [g.sl x hx]; exact hi
      have hyi : i < (S y).length := by rw [g.sl y hy]; exact hi
      have e1 : ((S x).map (made n F S k)).getD i [] = made n F S k ((S x).getD i default) := by simp [List.getD, hxi]
      have e2 : ((S y).map (made n F S k)).getD i [] = made n F S k ((S y).getD i default) := by simp [List.getD, hyi]
      have e3 : made n F S k ((S x).getD i default) = made n F S k ((S y).getD i default) := by rw [← e1, ← e2, h2]
      rw [made_iff] at e3
      simp only [done, h1, List.cons.injEq, true_and]
      exact e3 r (by simpa using hr) fun f hf' => hf f (List.mem_cons_of_mem _ hf')
theorem made_mono {n : Nat} {F : T → List Nat} {S : T → List T} {l : List T} (g : Good n F S l) : ∀ k, Fin' l (made n F S (k + 1)) (made n F S k)
  | 0, x, hx, y, hy, _ => rfl
  | k + 1, x, hx, y, hy, h => by
    have ih := made_mono g k
    rw [made_step g (k + 1) x hx y hy] at h
    rw [made_step g k x hx y hy]
    simp only [step, Prod.mk.injEq] at h ⊢
    refine ⟨h.1, ?_⟩
    have : ∀ (xs ys : List T), (∀ x ∈ xs, x ∈ l) → (∀ y ∈ ys, y ∈ l) → xs.map (made n F S (k + 1)) = ys.map (made n F S (k + 1)) → xs.map (made n F S k) = ys.map (made n F S k) := by
      intro xs
      induction xs with
      | nil => intro ys _ _ e; cases ys with
        | nil => rfl
        | cons => simp at e
      | cons a as iha => intro ys h1 h2 e; cases ys with
        | nil => simp at e
        | cons b bs =>
          simp only [List.map_cons, List.cons.injEq] at e ⊢
          exact ⟨ih a (h1 a List.mem_cons_self) b (h2 b List.mem_cons_self) e.1, iha bs (fun z hz => h1 z (List.mem_cons_of_mem _ hz)) (fun z hz => h2 z (List.mem_cons_of_mem _ hz)) e.2⟩
    exact this _ _ (g.cl x hx) (g.cl y hy) h.2
theorem made_fin {n : Nat} {F : T → List Nat} {S : T → List T} {l : List T} (g : Good n F S l) {j k : Nat} (h : j ≤ k) : Fin' l (made n F S k) (made n F S j) := by
  induction k with
  | zero => have : j = 0 := by omega
            subst this; exact fun _ _ _ _ e => e
  | succ k ih =>
    by_cases e : j = k + 1
    · subst e; exact fun _ _ _ _ e => e
    · exact fun x hx y hy h' => ih (by omega) x hx y hy (made_mono g k x hx y hy h')
theorem made_stay {n : Nat} {F : T → List Nat} {S : T → List T} {l : List T} (g : Good n F S l) {j : Nat} (h : Same l (made n F S (j + 1)) (made n F S j)) : ∀ i, Same l (made n F S (j + i)) (made n F S j)
  | 0 => fun _ _ _ _ => Iff.rfl
  | i + 1 => by
    have ih := made_stay g h i
    exact ((made_step g (j + i)).trans (step_same g ih)).trans ((made_step g j).symm.trans h)
/-- by as many wheels as there are things but one, all is told -/
theorem made_all {n : Nat} {F : T → List Nat} {S : T → List T} {l : List T} (g : Good n F S l) {m j : Nat} (hl : l.length = m + 1) (hj : ∀ i, i < j → ¬ Same l (made n F S (i + 1)) (made n F S i)) : j ≤ m := by
  have : ∀ i, i ≤ j → i + 1 ≤ cnt l (made n F S i) := by
    intro i
    induction i with
    | zero => intro _; exact cnt_pos _ (by intro e; rw [e] at hl; cases hl)
    | succ i ih =>
      intro hi
      have h1 := ih (by omega)
      have h2 := cnt_fin (made_mono g i)
      have h3 : cnt l (made n F S (i + 1)) ≠ cnt l (made n F S i) := fun e => hj i (by omega) (same_of_cnt (made_mono g i) e)
      omega
  have h1 := this j (Nat.le_refl _)
  have h2 := cnt_le l (made n F S j)
  omega
end
end PL
/-! W: rules for showing what a combinator gives, step by step. -/
namespace Z
open PySem L2
open PyProof.Rows hiding St
def WE (e : EV) (A : SS) (Q : R → SS → Prop) : Prop := ∃ r A', e A = some (r, A') ∧ Q r A'
def WEs (e : EVs) (A : SS) (Q : List R → SS → Prop) : Prop := ∃ r A', e A = some (r, A') ∧ Q r A'
def WT (e : ET) (A : SS) (Q : Bool → SS → Prop) : Prop := ∃ r A', e A = some (r, A') ∧ Q r A'
def WI (e : IV) (A : SS) (Q : List D → SS → Prop) : Prop := ∃ r A', e A = some (r, A') ∧ Q r A'
def WO (e : EO) (A : SS) (Q : Option Int → SS → Prop) : Prop := ∃ r A', e A = some (r, A') ∧ Q r A'
def WB (e : BV) (A : SS) (Q : Fl → SS → Prop) : Prop := ∃ r A', e A = some (r, A') ∧ Q r A'
def WG (g : GV) (x : D) (A : SS) (Q : SS → Prop) : Prop := ∃ A', g x A = some A' ∧ Q A'
def WGs (g : List D → SS → Option SS) (x : List D) (A : SS) (Q : SS → Prop) : Prop := ∃ A', g x A = some A' ∧ Q A'
def PK (A : SS) (r : R) (Q : D → Prop) : Prop := ∃ x, peek A r = some x ∧ Q x
def MV (A : SS) (r : R) (Q : D → SS → Prop) : Prop := ∃ x A', mv A r = some (x, A') ∧ Q x A'
def MVs (A : SS) (r : List R) (Q : List D → SS → Prop) : Prop := ∃ x A', mvs A r = some (x, A') ∧ Q x A'
def RS (A : SS) (r : R) (Q : R → SS → Prop) : Prop := ∃ x A', res A r = some (x, A') ∧ Q x A'
def PU (i : Nat) (r : R) (A : SS) (Q : SS → Prop) : Prop := ∃ A', putR i r A = some A' ∧ Q A'
def W1 (g : D → Option R) (x : D) (Q : R → Prop) : Prop := (∃ z, g x = some (.d z) ∧ Q (.d z)) ∨ (∃ z, g x = some (.fr z) ∧ Q (.fr z))
def W2 (g : D → D → Option R) (x y : D) (Q : R → Prop) : Prop := (∃ z, g x y = some (.d z) ∧ Q (.d z)) ∨ (∃ z, g x y = some (.fr z) ∧ Q (.fr z))
def WF (g : EV) (as : SS) (Q : R → SS → Prop) : Prop := (∃ z as', g as = some (.d z, as') ∧ Q (.d z) as') ∨ (∃ z as', g as = some (.fr z, as') ∧ Q (.fr z) as')
section
variable {A A' : SS} {Q : R → SS → Prop} {QB : Fl → SS → Prop} {QT : Bool → SS → Prop} {QI : List D → SS → Prop} {QS : SS → Prop} {QR : R → Prop}
theorem W1.d {g : D → Option R} {x z : D} (h : g x = some (.d z)) (q : QR (.d z)) : W1 g x QR := .inl ⟨z, h, q⟩
theorem W1.fr {g : D → Option R} {x z : D} (h : g x = some (.fr z)) (q : QR (.fr z)) : W1 g x QR := .inr ⟨z, h, q⟩
theorem W2.d {g : D → D → Option R} {x y z : D} (h : g x y = some (.d z)) (q : QR (.d z)) : W2 g x y QR := .inl ⟨z, h, q⟩
theorem W2.fr {g : D → D → Option R} {x y z : D} (h : g x y = some (.fr z)) (q : QR (.fr z)) : W2 g x y QR := .inr ⟨z, h, q⟩
theorem WF.d {g : EV} {as as' : SS} {z : D} (h : g as = some (.d z, as')) (q : Q (.d z) as') : WF g as Q := .inl ⟨z, as', h, q⟩
theorem WF.fr {g : EV} {as as' : SS} {z : D} (h : g as = some (.fr z, as')) (q : Q (.fr z) as') : WF g as Q := .inr ⟨z, as', h, q⟩
theorem WF.mono {g : EV} {as : SS} {Q' : R → SS → Prop} (h : WF g as Q) (k : ∀ r as', Q r as' → Q' r as') : WF g as Q' := h.imp (fun ⟨z, a, e, q⟩ => ⟨z, a, e, k _ _ q⟩) fun ⟨z, a, e, q⟩ => ⟨z, a, e, k _ _ q⟩
theorem WE.mono {e : EV} {Q' : R → SS → Prop} (h : WE e A Q) (k : ∀ r A', Q r A' → Q' r A') : WE e A Q' := let ⟨r, a, x, q⟩ := h; ⟨r, a, x, k _ _ q⟩
theorem WB.mono {e : BV} {Q' : Fl → SS → Prop} (h : WB e A QB) (k : ∀ r A', QB r A' → Q' r A') : WB e A Q' := let ⟨r, a, x, q⟩ := h; ⟨r, a, x, k _ _ q⟩
theorem PK.mk {r : R} {x : D} {Q : D → Prop} (h : peek A r = some x) (q : Q x) : PK A r Q := ⟨x, h, q⟩
theorem MV.mk {r : R} {x : D} {Q : D → SS → Prop} (h : mv A r = some (x, A')) (q : Q x A') : MV A r Q := ⟨x, A', h, q⟩
theorem MVs.mk {r : List R} {x : List D} {Q : List D → SS → Prop} (h : mvs A r = some (x, A')) (q : Q x A') : MVs A r Q := ⟨x, A', h, q⟩
theorem RS.mk {r x : R} {Q : R → SS → Prop} (h : res A r = some (x, A')) (q : Q x A') : RS A r Q := ⟨x, A', h, q⟩
theorem PU.mk {i : Nat} {r : R} (h : putR i r A = some A') (q : QS A') : PU i r A QS := ⟨A', h, q⟩
def NI : SV → Bool
  | .io _ => false
  | _ => true
/-- the slot i is s from now on -/
def PV (i : Nat) (s : SV) (A : SS) (Q : SS → Prop) : Prop := Q (A.set i s)
theorem PV.z {s x : SV} (q : QS (s :: A)) : PV 0 s (x :: A) QS := q
theorem PV.s {i : Nat} {s x : SV} (q : PV i s A fun A' => QS (x :: A')) : PV (i + 1) s (x :: A) QS := q
theorem PV.s4 {i : Nat} {s x1 x2 x3 x4 : SV} (q : PV i s A fun A' => QS (x1 :: x2 :: x3 :: x4 :: A')) : PV (i + 4) s (x1 :: x2 :: x3 :: x4 :: A) QS := q
theorem PV.z1 {s x0 x1 : SV} (q : QS (x0 :: s :: A)) : PV 1 s (x0 :: x1 :: A) QS := q
theorem PV.z2 {s x0 x1 x2 : SV} (q : QS (x0 :: x1 :: s :: A)) : PV 2 s (x0 :: x1 :: x2 :: A) QS := q
theorem PV.z3 {s x0 x1 x2 x3 : SV} (q : QS (x0 :: x1 :: x2 :: s :: A)) : PV 3 s (x0 :: x1 :: x2 :: x3 :: A) QS := q
theorem PU.d {i : Nat} {x : D} {s0 : SV} (h : A[i]? = some s0) (hn : NI s0 = true) (q : PV i (.val x) A QS) : PU i (.d x) A QS := by
  refine ⟨A.set i (.val x), ?_, q⟩
  unfold putR
  rw [h]
  cases s0 with
  | io y => cases hn
  | _ => rfl
theorem PU.fr {i : Nat} {x : D} {s0 : SV} (h : A[i]? = some s0) (hn : NI s0 = true) (q : PV i (.own x) A QS) : PU i (.fr x) A QS := by
  refine ⟨A.set i (.own x), ?_, q⟩
  unfold putR
  rw [h]
  cases s0 with
  | io y => cases hn
  | _ => rfl
theorem MV.d {x : D} {Q : D → SS → Prop} (q : Q x A) : MV A (.d x) Q := ⟨x, A, rfl, q⟩
theorem MV.fr {x : D} {Q : D → SS → Prop} (q : Q x A) : MV A (.fr x) Q := ⟨x, A, rfl, q⟩
theorem MV.val {i : Nat} {x : D} {Q : D → SS → Prop} (h : A[i]? = some (.val x)) (q : Q x A) : MV A (.sl i) Q := ⟨x, A, by simp only [mv, h], q⟩
theorem MV.own {i : Nat} {x : D} {Q : D → SS → Prop} (h : A[i]? = some (.own x)) (q : PV i (.val x) A (Q x)) : MV A (.sl i) Q := ⟨x, A.set i (.val x), by simp only [mv, h], q⟩
theorem MVs.nil {Q : List D → SS → Prop} (q : Q [] A) : MVs A [] Q := ⟨[], A, rfl, q⟩
theorem MVs.cons {r : R} {rs : List R} {Q : List D → SS → Prop} (h : MV A r fun x A1 => MVs A1 rs fun xs A2 => Q (x :: xs) A2) : MVs A (r :: rs) Q := by
  obtain ⟨x, A1, e1, xs, A2, e2, q⟩ := h
  exact ⟨_, _, by simp only [mvs, e1, e2], q⟩
theorem MVs.cval {i : Nat} {x : D} {rs : List R} {Q : List D → SS → Prop} (h : A[i]? = some (.val x)) (q : MVs A rs fun xs A2 => Q (x :: xs) A2) : MVs A (.sl i :: rs) Q := MVs.cons (MV.val h q)
theorem MVs.cd {x : D} {rs : List R} {Q : List D → SS → Prop} (q : MVs A rs fun xs A2 => Q (x :: xs) A2) : MVs A (.d x :: rs) Q := MVs.cons (MV.d q)
theorem RS.d {x : D} {Q : R → SS → Prop} (q : Q (.d x) A) : RS A (.d x) Q := ⟨_, A, rfl, q⟩
theorem RS.fr {x : D} {Q : R → SS → Prop} (q : Q (.fr x) A) : RS A (.fr x) Q := ⟨_, A, rfl, q⟩
theorem RS.sl {i : Nat} {Q : R → SS → Prop} (h : MV A (.sl i) fun x A1 => Q (.d x) A1) : RS A (.sl i) Q := by
  obtain ⟨x, A1, e1, q⟩ := h
  exact ⟨_, _, by simp only [res, e1], q⟩
theorem WE.mk {e : EV} {r : R} (h : e A = some (r, A')) (q : Q r A') : WE e A Q := ⟨r, A', h, q⟩
theorem WI.mk {e : IV} {xs : List D} (h : e A = some (xs, A')) (q : QI xs A') : WI e A QI := ⟨xs, A', h, q⟩
theorem WB.mk {e : BV} {f : Fl} (h : e A = some (f, A')) (q : QB f A') : WB e A QB := ⟨f, A', h, q⟩
/-! expressions -/
theorem we_var {i : Nat} {r : R} (h : evVar i A = some (r, A')) (q : Q r A') : WE (evVar i) A Q := ⟨r, A', h, q⟩
theorem we_c {x : D} (q : Q (.d x) A) : WE (evC x) A Q := ⟨_, _, rfl, q⟩
theorem we_f {x : D} (q : Q (.fr x) A) : WE (evF x) A Q := ⟨_, _, rfl, q⟩
theorem we_2 {g : D → D → Option R} {a b : EV} (h : WE a A fun r1 A1 => WE b A1 fun r2 A2 => PK A2 r1 fun x => PK A2 r2 fun y => W2 g x y fun r => Q r A2) : WE (ev2 g a b) A Q := by
  obtain ⟨r1, A1, e1, r2, A2, e2, x, p1, y, p2, ⟨z, e3, q⟩ | ⟨z, e3, q⟩⟩ := h
  · exact ⟨_, _, by simp only [ev2, e1, e2, p1, p2, e3], q⟩
  · exact ⟨_, _, by simp only [ev2, e1, e2, p1, p2, e3], q⟩
theorem we_1 {g : D → Option R} {a : EV} (h : WE a A fun r1 A1 => PK A1 r1 fun x => W1 g x fun r => Q r A1) : WE (ev1 g a) A Q := by
  obtain ⟨r1, A1, e1, x, p1, ⟨z, e3, q⟩ | ⟨z, e3, q⟩⟩ := h
  · exact ⟨_, _, by simp only [ev1, e1, p1, e3], q⟩
  · exact ⟨_, _, by simp only [ev1, e1, p1, e3], q⟩
def PL (A : SS) (r : R) (P : Prop) : Prop := (∃ xs, peek A r = some (.lst xs)) ∧ P
theorem PL.mk {r : R} {P : Prop} {xs : List D} (h : peek A r = some (.lst xs)) (p : P) : PL A r P := ⟨⟨xs, h⟩, p⟩
def PD (A : SS) (r : R) (P : Prop) : Prop := (∃ ks ws, peek A r = some (.dct ks ws)) ∧ P
theorem PD.mk {r : R} {P : Prop} {ks ws : List D} (h : peek A r = some (.dct ks ws)) (p : P) : PD A r P := ⟨⟨ks, ws, h⟩, p⟩
theorem we_m2 {g : D → D → Option R} {a b : EV} (h : WE a A fun r1 A1 => PL A1 r1 (WE b A1 fun r2 A2 => PK A2 r1 fun x => PK A2 r2 fun y => W2 g x y fun r => Q r A2)) : WE (evM2 g a b) A Q := by
  obtain ⟨r1, A1, e1, ⟨xs, p0⟩, r2, A2, e2, x, p1, y, p2, ⟨z, e3, q⟩ | ⟨z, e3, q⟩⟩ := h
  · exact ⟨_, _, by simp only [evM2, e1, e2, p0, p1, p2, e3], q⟩
  · exact ⟨_, _, by simp only [evM2, e1, e2, p0, p1, p2, e3], q⟩
theorem we_ifT {t : ET} {a b : EV} (h : WT t A fun c A1 => c = true ∧ WE a A1 Q) : WE (evIf t a b) A Q := by
  obtain ⟨c, A1, e1, rfl, r, A2, e2, q⟩ := h
  exact ⟨r, A2, by simp only [evIf, e1, e2], q⟩
theorem we_ifF {t : ET} {a b : EV} (h : WT t A fun c A1 => c = false ∧ WE b A1 Q) : WE (evIf t a b) A Q := by
  obtain ⟨c, A1, e1, rfl, r, A2, e2, q⟩ := h
  exact ⟨r, A2, by simp only [evIf, e1, e2], q⟩
theorem we_if {t : ET} {a b : EV} (h : WT t A fun c A1 => (c = true → WE a A1 Q) ∧ (c = false → WE b A1 Q)) : WE (evIf t a b) A Q := by
  obtain ⟨c, A1, e1, h1, h2⟩ := h
  cases c with
  | true => obtain ⟨r, A2, e2, q⟩ := h1 rfl; exact ⟨r, A2, by simp only [evIf, e1, e2], q⟩
  | false => obtain ⟨r, A2, e2, q⟩ := h2 rfl; exact ⟨r, A2, by simp only [evIf, e1, e2], q⟩
theorem we_and {a b : EV} (h : WT (evB a) A fun c A1 => (c = true → WE b A1 Q) ∧ (c = false → Q (.d (.bl false)) A1)) : WE (evAnd a b) A Q := by
  obtain ⟨c, A1, e1, h1, h2⟩ := h
  cases c with
  | true => obtain ⟨r, A2, e2, q⟩ := h1 rfl; exact ⟨r, A2, by simp only [evAnd, e1, e2], q⟩
  | false => exact ⟨_, A1, by simp only [evAnd, e1], h2 rfl⟩
theorem we_not {a : EV} (h : WT (evB a) A fun c A1 => Q (.d (.bl !c)) A1) : WE (evNot a) A Q := by
  obtain ⟨c, A1, e1, h1⟩ := h
  exact ⟨_, A1, by simp only [evNot, e1], h1⟩
theorem we_orV {a b : EV} (h : WE a A fun r A1 => PK A1 r fun x => ∃ c, truD x = some c ∧ (c = true → Q r A1) ∧ (c = false → WE b A1 Q)) : WE (evOrV a b) A Q := by
  obtain ⟨r, A1, e1, x, p1, c, e2, h1, h2⟩ := h
  cases c with
  | true => exact ⟨r, A1, by simp only [evOrV, e1, p1, e2], h1 rfl⟩
  | false => obtain ⟨r', A2, e3, q⟩ := h2 rfl; exact ⟨r', A2, by simp only [evOrV, e1, p1, e2, e3], q⟩
theorem limLit {xs : List D} (h : Nat.ble xs.length 1000 = true) : xs.length ≤ LIM := by
  have := Nat.le_of_ble_eq_true h
  unfold LIM
  omega
theorem ltLit {xs : List D} (h : Nat.ble xs.length 1000 = true) : xs.length < LIM := by
  have := Nat.le_of_ble_eq_true h
  unfold LIM
  omega
theorem we_tup {es : EVs} (h : WEs es A fun rs A1 => MVs A1 rs fun xs A2 => xs.length ≤ LIM ∧ Q (.d (.tup xs)) A2) : WE (evTup es) A Q := by
  obtain ⟨rs, A1, e1, xs, A2, e2, l, q⟩ := h
  exact ⟨_, _, by simp only [evTup, e1, e2, if_pos l], q⟩
theorem we_lst {es : EVs} (h : WEs es A fun rs A1 => MVs A1 rs fun xs A2 => xs.length ≤ LIM ∧ Q (.fr (.lst xs)) A2) : WE (evLst es) A Q := by
  obtain ⟨rs, A1, e1, xs, A2, e2, l, q⟩ := h
  exact ⟨_, _, by simp only [evLst, e1, e2, if_pos l], q⟩
theorem wes_nil {QL : List R → SS → Prop} (q : QL [] A) : WEs evNil A QL := ⟨_, _, rfl, q⟩
theorem wes_cons {QL : List R → SS → Prop} {e : EV} {es : EVs} (h : WE e A fun r A1 => WEs es A1 fun rs A2 => QL (r :: rs) A2) : WEs (evCons e es) A QL := by
  obtain ⟨r, A1, e1, rs, A2, e2, q⟩ := h
  exact ⟨_, _, by simp only [evCons, e1, e2], q⟩
theorem wes_var {QL : List R → SS → Prop} {i : Nat} {r : R} {es : EVs} (h : evVar i A = some (r, A')) (q : WEs es A' fun rs A2 => QL (r :: rs) A2) : WEs (evCons (evVar i) es) A QL := wes_cons (we_var h q)
theorem wes_c {QL : List R → SS → Prop} {x : D} {es : EVs} (q : WEs es A fun rs A2 => QL (.d x :: rs) A2) : WEs (evCons (evC x) es) A QL := wes_cons (we_c q)
theorem wes_star {QL : List R → SS → Prop} {e : EV} {es : EVs} (h : WE e A fun r A1 => MV A1 r fun x A2 => ∃ xs, (x = .tup xs ∨ x = .lst xs) ∧ WEs es A2 fun rs A3 => QL (xs.map R.d ++ rs) A3) : WEs (evStar e es) A QL := by
  obtain ⟨r, A1, e1, x, A2, e2, xs, rfl | rfl, rs, A3, e3, q⟩ := h
  · exact ⟨_, _, by simp only [evStar, e1, e2, e3], q⟩
  · exact ⟨_, _, by simp only [evStar, e1, e2, e3], q⟩
theorem mvs_d : ∀ (xs : List D) (rs : List R) (A : SS), mvs A (xs.map R.d ++ rs) = (mvs A rs).map fun p => (xs ++ p.1, p.2)
  | [], rs, A => by simp
  | x :: xs, rs, A => by
    simp only [List.map_cons, List.cons_append, mvs, mv, mvs_d xs rs A]
    cases mvs A rs <;> rfl
def CA (n : Nat) (g : EV) (dv xs : List D) (A2 : SS) (Q : R → SS → Prop) : Prop := (xs ++ dv).length = n ∧ WF g ((xs ++ dv).map .val) fun r _ => Q r A2
theorem CA.mk {n : Nat} {g : EV} {dv xs : List D} (h1 : (xs ++ dv).length = n) (h : WF g ((xs ++ dv).map .val) fun r _ => Q r A) : CA n g dv xs A Q := ⟨h1, h⟩
def CK (A : SS) (i : Nat) (Q : R → SS → Prop) (r : R) (as' : SS) : Prop := ∃ d' t A3, as' = .io d' :: t ∧ putO A i d' = some A3 ∧ Q r A3
theorem CK.own {i : Nat} {r : R} {as' t : SS} {d' d0 : D} (h1 : as' = .io d' :: t) (h : A[i]? = some (.own d0)) (q : PV i (.own d') A (Q r)) : CK A i Q r as' := ⟨d', t, A.set i (.own d'), h1, by simp only [putO, h], q⟩
theorem CK.io {i : Nat} {r : R} {as' t : SS} {d' d0 : D} (h1 : as' = .io d' :: t) (h : A[i]? = some (.io d0)) (q : PV i (.io d') A (Q r)) : CK A i Q r as' := ⟨d', t, A.set i (.io d'), h1, by simp only [putO, h], q⟩
theorem CK.mk {i : Nat} {r : R} {as' t A3 : SS} {d' : D} (h1 : as' = .io d' :: t) (h2 : putO A i d' = some A3) (q : Q r A3) : CK A i Q r as' := ⟨d', t, A3, h1, h2, q⟩
def CI2 (n : Nat) (g : EV) (dv : List D) (i : Nat) (xs : List D) (A2 : SS) (Q : R → SS → Prop) : Prop := ∃ d0, getO A2 i = some d0 ∧ (xs ++ dv).length + 1 = n ∧ WF g (.io d0 :: (xs ++ dv).map .val) (CK A2 i Q)
theorem CI2.mk {n i : Nat} {g : EV} {dv xs : List D} {A2 : SS} {d0 : D} (h3 : getO A2 i = some d0) (h4 : (xs ++ dv).length + 1 = n) (h : WF g (.io d0 :: (xs ++ dv).map .val) (CK A2 i Q)) : CI2 n g dv i xs A2 Q := ⟨d0, h3, h4, h⟩
def CIO (n : Nat) (g : EV) (dv : List D) (rs : List R) (A1 : SS) (Q : R → SS → Prop) : Prop := ∃ i rs', rs = .sl i :: rs' ∧ MVs A1 rs' fun xs A2 => CI2 n g dv i xs A2 Q
theorem CIO.mk {n i : Nat} {g : EV} {dv : List D} {rs' : List R} {A1 : SS} (h : MVs A1 rs' fun xs A2 => CI2 n g dv i xs A2 Q) : CIO n g dv (.sl i :: rs') A1 Q := ⟨i, rs', rfl, h⟩
def CKF (A : SS) (Q : R → SS → Prop) (r : R) (as' : SS) : Prop := ∃ d' t, as' = .io d' :: t ∧ Q r A
theorem CKF.mk {r : R} {as' t : SS} {d' : D} (h1 : as' = .io d' :: t) (q : Q r A) : CKF A Q r as' := ⟨d', t, h1, q⟩
def CF2 (n : Nat) (g : EV) (dv : List D) (d0 : D) (xs : List D) (A2 : SS) (Q : R → SS → Prop) : Prop := (xs ++ dv).length + 1 = n ∧ WF g (.io d0 :: (xs ++ dv).map .val) (CKF A2 Q)
theorem CF2.mk {n : Nat} {g : EV} {dv xs : List D} {A2 : SS} {d0 : D} (h4 : (xs ++ dv).length + 1 = n) (h : WF g (.io d0 :: (xs ++ dv).map .val) (CKF A2 Q)) : CF2 n g dv d0 xs A2 Q := ⟨h4, h⟩
def CFR (n : Nat) (g : EV) (dv : List D) (rs : List R) (A1 : SS) (Q : R → SS → Prop) : Prop := ∃ d0 rs', rs = .fr d0 :: rs' ∧ MVs A1 rs' fun xs A2 => CF2 n g dv d0 xs A2 Q
theorem CFR.mk {n : Nat} {g : EV} {dv : List D} {rs' : List R} {A1 : SS} {d0 : D} (h : MVs A1 rs' fun xs A2 => CF2 n g dv d0 xs A2 Q) : CFR n g dv (.fr d0 :: rs') A1 Q := ⟨d0, rs', rfl, h⟩
theorem we_call {n : Nat} {g : EV} {dv : List D} {es : EVs} (h : WEs es A fun rs A1 => MVs A1 rs fun xs A2 => CA n g dv xs A2 Q) : WE (evCall n g dv es) A Q := by
  obtain ⟨rs, A1, e1, xs, A2, e2, l, ⟨z, as', e3, q⟩ | ⟨z, as', e3, q⟩⟩ := h
  · exact ⟨_, _, by simp only [evCall, e1, e2, if_pos l, e3], q⟩
  · exact ⟨_, _, by simp only [evCall, e1, e2, if_pos l, e3], q⟩
theorem we_callIo {n : Nat} {g : EV} {dv : List D} {es : EVs} (h : WEs es A fun rs A1 => CIO n g dv rs A1 Q) : WE (evCallIo n g dv es) A Q := by
  obtain ⟨rs, A1, e1, i, rs', rfl, xs, A2, e2, d0, e0, l, ⟨z, as', e3, d', t, A3, rfl, e4, q⟩ | ⟨z, as', e3, d', t, A3, rfl, e4, q⟩⟩ := h
  · exact ⟨_, _, by simp only [evCallIo, e1, e2, e0, if_pos l, e3, e4], q⟩
  · exact ⟨_, _, by simp only [evCallIo, e1, e2, e0, if_pos l, e3, e4], q⟩
theorem we_callFr {n : Nat} {g : EV} {dv : List D} {es : EVs} (h : WEs es A fun rs A1 => CFR n g dv rs A1 Q) : WE (evCallFr n g dv es) A Q := by
  obtain ⟨rs, A1, e1, i, rs', rfl, xs, A2, e2, l, ⟨z, as', e3, d', t, rfl, q⟩ | ⟨z, as', e3, d', t, rfl, q⟩⟩ := h
  · exact ⟨_, _, by simp only [evCallFr, e1, e2, if_pos l, e3], q⟩
  · exact ⟨_, _, by simp only [evCallFr, e1, e2, if_pos l, e3], q⟩
theorem wo_none {QO : Option Int → SS → Prop} (q : QO none A) : WO eoNone A QO := ⟨_, _, rfl, q⟩
theorem wo_some {QO : Option Int → SS → Prop} {e : EV} (h : WE e A fun r A1 => PK A1 r fun x => ∃ i, x = .int i ∧ QO (some i) A1) : WO (eoSome e) A QO := by
  obtain ⟨r, A1, e1, x, p1, i, rfl, q⟩ := h
  exact ⟨_, _, by simp only [eoSome, e1, p1], q⟩
theorem we_sl {a : EV} {lo hi : EO} (h : WE a A fun r A1 => WO lo A1 fun l A2 => WO hi A2 fun u A3 => PK A3 r fun x => W1 (gSl l u) x fun r => Q r A3) : WE (evSl a lo hi) A Q := by
  obtain ⟨r, A1, e1, l, A2, e2, u, A3, e3, x, p1, ⟨z, e4, q⟩ | ⟨z, e4, q⟩⟩ := h
  · exact ⟨_, _, by simp only [evSl, e1, e2, e3, p1, e4], q⟩
  · exact ⟨_, _, by simp only [evSl, e1, e2, e3, p1, e4], q⟩
theorem we_listRg {iv : IV} (h : WI iv A fun xs A1 => xs.length ≤ LIM ∧ Q (.fr (.lst xs)) A1) : WE (evListRg iv) A Q := by
  obtain ⟨xs, A1, e1, l, q⟩ := h
  exact ⟨_, _, by simp only [evListRg, e1, if_pos l], q⟩
theorem we_tupRg {iv : IV} (h : WI iv A fun xs A1 => xs.length ≤ LIM ∧ Q (.d (.tup xs)) A1) : WE (evTupRg iv) A Q := by
  obtain ⟨xs, A1, e1, l, q⟩ := h
  exact ⟨_, _, by simp only [evTupRg, e1, if_pos l], q⟩
theorem we_d0 (q : Q (.fr (.dct [] [])) A) : WE evD0 A Q := ⟨_, _, rfl, q⟩
theorem we_d1 {ek ev : EV} (h : WE ek A fun rk A1 => PK A1 rk fun dk => (∃ k, dkey dk = some k) ∧ WE ev A1 fun r A2 => MV A2 r fun y A3 => Q (.fr (.dct [dk] [y])) A3) : WE (evD1 ek ev) A Q := by
  obtain ⟨rk, A1, e1, dk, p, ⟨k, ek⟩, r, A2, e2, y, A3, e3, q⟩ := h
  exact ⟨_, _, by simp only [evD1, e1, p, ek, e2, e3], q⟩
def DG (d k : D) (Q : Option D → Prop) : Prop := ∃ o, dgetD d k = some o ∧ Q o
theorem DG.mk {d k : D} {o : Option D} {Q : Option D → Prop} (h : dgetD d k = some o) (q : Q o) : DG d k Q := ⟨o, h, q⟩
theorem we_get2 {ea ek ex : EV} (h : WE ea A fun r1 A1 => PD A1 r1 (WE ek A1 fun r2 A2 => WE ex A2 fun r3 A3 => PK A3 r1 fun d => PK A3 r2 fun k => DG d k fun o => (∀ w, o = some w → Q (.d w) A3) ∧ (o = none → Q r3 A3))) : WE (evGet2 ea ek ex) A Q := by
  obtain ⟨r1, A1, e1, ⟨ks, ws, p0⟩, r2, A2, e2, r3, A3, e3, d, p1, k, p2, o, e4, h1, h2⟩ := h
  cases o with
  | none => exact ⟨_, _, by simp only [evGet2, e1, p0, e2, e3, p1, p2, e4], h2 rfl⟩
  | some w => exact ⟨_, _, by simp only [evGet2, e1, p0, e2, e3, p1, p2, e4], h1 w rfl⟩
def MT (n : Nat) (f : List D → D → Option (D × List D)) (A2 : SS) (y : D) (Q : R → SS → Prop) : Prop := ∃ xs z ys A3, getO A2 n = some (.lst xs) ∧ f xs y = some (z, ys) ∧ putO A2 n (.lst ys) = some A3 ∧ Q (.d z) A3
theorem MT.mk {n : Nat} {f : List D → D → Option (D × List D)} {A2 A3 : SS} {y z : D} {xs ys : List D} (h1 : getO A2 n = some (.lst xs)) (h3 : f xs y = some (z, ys)) (h2 : putO A2 n (.lst ys) = some A3) (q : Q (.d z) A3) : MT n f A2 y Q := ⟨xs, z, ys, A3, h1, h3, h2, q⟩
theorem MT.app {n : Nat} {A2 : SS} {y : D} {xs : List D} (h : A2[n]? = some (.own (.lst xs))) (hl : xs.length < LIM) (q : PV n (.own (.lst (xs ++ [y]))) A2 (Q (.d .non))) : MT n fAppend A2 y Q := ⟨xs, _, _, _, by simp only [getO, h], by unfold fAppend; rw [if_pos hl], by simp only [putO, h], q⟩
theorem MT.ext {n : Nat} {A2 : SS} {xs ys : List D} (h : A2[n]? = some (.own (.lst xs))) (hl : xs.length + ys.length ≤ LIM) (q : PV n (.own (.lst (xs ++ ys))) A2 (Q (.d .non))) : MT n fExtend A2 (.lst ys) Q := ⟨xs, _, _, _, by simp only [getO, h], by simp only [fExtend]; rw [if_pos hl], by simp only [putO, h], q⟩
theorem we_mtK {n : Nat} {f : List D → D → Option (D × List D)} {e : EV} {xs0 : List D} (g0 : getO A n = some (.lst xs0)) (h : WE e A fun r A1 => MV A1 r fun y A2 => MT n f A2 y Q) : WE (evMt n f true e) A Q := by
  obtain ⟨r, A1, e1, y, A2, e2, xs, z, ys, A3, e3, e4, e5, q⟩ := h
  exact ⟨_, _, by simp only [evMt, g0, e1, if_true, e2, e3, e4, e5], q⟩
theorem we_mtP {n : Nat} {f : List D → D → Option (D × List D)} {e : EV} {xs0 : List D} (g0 : getO A n = some (.lst xs0)) (h : WE e A fun r A1 => PK A1 r fun y => MT n f A1 y Q) : WE (evMt n f false e) A Q := by
  obtain ⟨r, A1, e1, y, e2, xs, z, ys, A3, e3, e4, e5, q⟩ := h
  refine ⟨_, _, ?_, q⟩
  simp only [evMt, g0, e1, e2, Option.map_some, Bool.false_eq_true, if_false, e3, e4, e5]
/-! tests -/
theorem wt_B {e : EV} (h : WE e A fun r A1 => PK A1 r fun x => ∃ b, x = .bl b ∧ QT b A1) : WT (evB e) A QT := by
  obtain ⟨r, A1, e1, x, p, b, rfl, q⟩ := h
  exact ⟨_, _, by simp only [evB, e1, p], q⟩
theorem wt_tru {e : EV} (h : WE e A fun r A1 => PK A1 r fun x => ∃ b, truD x = some b ∧ QT b A1) : WT (evTru e) A QT := by
  obtain ⟨r, A1, e1, x, p, b, e2, q⟩ := h
  exact ⟨_, _, by simp only [evTru, e1, p, e2], q⟩
theorem wt_not {t : ET} (h : WT t A fun b A1 => QT (!b) A1) : WT (evNotT t) A QT := by
  obtain ⟨b, A1, e1, q⟩ := h
  exact ⟨_, _, by simp only [evNotT, e1], q⟩
theorem wt_and {t u : ET} (h : WT t A fun b A1 => (b = true → WT u A1 QT) ∧ (b = false → QT false A1)) : WT (evAndT t u) A QT := by
  obtain ⟨b, A1, e1, h1, h2⟩ := h
  cases b with
  | true => obtain ⟨c, A2, e2, q⟩ := h1 rfl; exact ⟨_, _, by simp only [evAndT, e1, e2], q⟩
  | false => exact ⟨_, _, by simp only [evAndT, e1], h2 rfl⟩
theorem wt_or {t u : ET} (h : WT t A fun b A1 => (b = true → QT true A1) ∧ (b = false → WT u A1 QT)) : WT (evOrT t u) A QT := by
  obtain ⟨b, A1, e1, h1, h2⟩ := h
  cases b with
  | true => exact ⟨_, _, by simp only [evOrT, e1], h1 rfl⟩
  | false => obtain ⟨c, A2, e2, q⟩ := h2 rfl; exact ⟨_, _, by simp only [evOrT, e1, e2], q⟩
/-! what is walked -/
theorem wi_seq {e : EV} (h : WE e A fun r A1 => MV A1 r fun x A2 => ∃ xs, (x = .tup xs ∨ x = .lst xs) ∧ QI xs A2) : WI (ivSeq e) A QI := by
  obtain ⟨r, A1, e1, x, A2, e2, xs, rfl | rfl, q⟩ := h
  · exact ⟨_, _, by simp only [ivSeq, e1, e2], q⟩
  · exact ⟨_, _, by simp only [ivSeq, e1, e2], q⟩
theorem wi_rng1 {e : EV} (h : WE e A fun r A1 => PK A1 r fun x => ∃ n : Nat, x = .int (n : Int) ∧ n < 1099511627776 ∧ QI ((List.range n).map fun k => .int ((k : Nat) : Int)) A1) : WI (ivRng1 e) A QI := by
  obtain ⟨r, A1, e1, x, p, n, rfl, l, q⟩ := h
  refine ⟨_, _, ?_, q⟩
  simp only [ivRng1, e1, p]
  rw [if_pos ⟨by omega, by omega⟩, rngD0]
theorem wi_enum {e : EV} (h : WE e A fun r A1 => MV A1 r fun x A2 => ∃ xs, x = .lst xs ∧ QI (enumL 0 xs) A2) : WI (ivEnum e) A QI := by
  obtain ⟨r, A1, e1, x, A2, e2, xs, rfl, q⟩ := h
  exact ⟨_, _, by simp only [ivEnum, e1, e2], q⟩
theorem wi_zipL {ea eb : EV} (h : WE ea A fun r1 A1 => WE eb A1 fun r2 A2 => MVs A2 [r1, r2] fun ds A3 => ∃ xs ys, (ds = [.lst xs, .lst ys] ∨ ds = [.tup xs, .tup ys]) ∧ QI (zipL xs ys) A3) : WI (ivZip ea eb) A QI := by
  obtain ⟨r1, A1, e1, r2, A2, e2, ds, A3, e3, xs, ys, rfl | rfl, q⟩ := h
  · exact ⟨_, _, by simp only [ivZip, e1, e2, e3], q⟩
  · exact ⟨_, _, by simp only [ivZip, e1, e2, e3], q⟩
theorem wi_keysO {i : Nat} {ks ws : List D} (h : A[i]? = some (.own (.dct ks ws))) (q : PV i (.val (.dct ks ws)) A (QI ks)) : WI (ivKeys i) A QI := ⟨_, _, by simp only [ivKeys, dctAt, stayD, h], q⟩
theorem wi_keysV {i : Nat} {ks ws : List D} (h : A[i]? = some (.val (.dct ks ws))) (q : QI ks A) : WI (ivKeys i) A QI := ⟨_, _, by simp only [ivKeys, dctAt, stayD, h], q⟩
/-! targets -/
theorem wg_n {i : Nat} {x : D} (h : PU i (.d x) A QS) : WG (gvN i) x A QS := h
theorem wg_t {n : Nat} {gs : List D → SS → Option SS} {xs : List D} (l : xs.length = n) (h : WGs gs xs A QS) : WG (gvT n gs) (.tup xs) A QS := by
  obtain ⟨A1, e, q⟩ := h
  exact ⟨A1, by simp only [gvT, if_pos l, e], q⟩
theorem wgs_nil (q : QS A) : WGs gvNil [] A QS := ⟨_, rfl, q⟩
theorem wgs_cons {g : GV} {gs : List D → SS → Option SS} {x : D} {xs : List D} (h : WG g x A fun A1 => WGs gs xs A1 QS) : WGs (gvCons g gs) (x :: xs) A QS := by
  obtain ⟨A1, e1, A2, e2, q⟩ := h
  exact ⟨_, by simp only [gvCons, e1, e2], q⟩
/-! statements -/
def NX (b : BV) (Q : Fl → SS → Prop) : Fl → SS → Prop
  | .nx, A => WB b A Q
  | f, A => Q f A
theorem wb_nil (q : QB .nx A) : WB bNil A QB := ⟨_, _, rfl, q⟩
theorem wb_cnt (q : QB .ct A) : WB bCnt A QB := ⟨_, _, rfl, q⟩
theorem wb_seq {a b : BV} (h : WB a A (NX b QB)) : WB (bSeq a b) A QB := by
  obtain ⟨f, A1, e1, h⟩ := h
  cases f with
  | nx => obtain ⟨f, A2, e2, q⟩ := h; exact ⟨_, _, by simp only [bSeq, e1, e2], q⟩
  | bk => exact ⟨_, _, by simp only [bSeq, e1], h⟩
  | ct => exact ⟨_, _, by simp only [bSeq, e1], h⟩
  | rt r => exact ⟨_, _, by simp only [bSeq, e1], h⟩
theorem nx_nx {b : BV} (h : WB b A QB) : NX b QB .nx A := h
theorem nx_rt {b : BV} {r : R} (h : QB (.rt r) A) : NX b QB (.rt r) A := h
theorem nx_ct {b : BV} (h : QB .ct A) : NX b QB .ct A := h
theorem nx_bk {b : BV} (h : QB .bk A) : NX b QB .bk A := h
theorem wb_exp {e : EV} (h : WE e A fun _ A1 => QB .nx A1) : WB (bExp e) A QB := by
  obtain ⟨r, A1, e1, q⟩ := h
  exact ⟨_, _, by simp only [bExp, e1], q⟩
def RetOk (r : R) (A : SS) (Q : Fl → SS → Prop) : Prop := ∃ r' A', bRet (fun _ => some (r, A)) [] = some (.rt r', A') ∧ Q (.rt r') A'
theorem wb_ret {e : EV} (h : WE e A fun r A1 => RetOk r A1 QB) : WB (bRet e) A QB := by
  obtain ⟨r, A1, e1, r', A', e2, q⟩ := h
  refine ⟨_, _, ?_, q⟩
  rw [← e2]
  simp only [bRet, e1]
theorem RetOk.d {x : D} (q : QB (.rt (.d x)) A) : RetOk (.d x) A QB := ⟨_, _, rfl, q⟩
theorem RetOk.fr {x : D} (q : QB (.rt (.fr x)) A) : RetOk (.fr x) A QB := ⟨_, _, rfl, q⟩
theorem RetOk.val {i : Nat} {x : D} (h : A[i]? = some (.val x)) (q : QB (.rt (.d x)) A) : RetOk (.sl i) A QB := ⟨_, _, by simp only [bRet, h], q⟩
theorem RetOk.own {i : Nat} {x : D} (h : A[i]? = some (.own x)) (q : PV i .un A fun A' => QB (.rt (.fr x)) A') : RetOk (.sl i) A QB := ⟨_, _, by simp only [bRet, h], q⟩
theorem RetOk.mk {r r' : R} (h : bRet (fun _ => some (r, A)) [] = some (.rt r', A')) (q : QB (.rt r') A') : RetOk r A QB := ⟨r', A', h, q⟩
theorem wb_retN (q : QB (.rt (.d .non)) A) : WB bRetN A QB := ⟨_, _, rfl, q⟩
theorem wb_mid {a : BV} (P : SS → Prop) (h1 : WB a A fun f A' => f = .nx ∧ P A') (h2 : ∀ A', P A' → QB .nx A') : WB a A QB := by
  obtain ⟨f, A', e, rfl, p⟩ := h1
  exact ⟨_, _, e, h2 A' p⟩
theorem wb_if {t : ET} {a b : BV} (h : WT t A fun c A1 => (c = true → WB a A1 QB) ∧ (c = false → WB b A1 QB)) : WB (bIf t a b) A QB := by
  obtain ⟨c, A1, e1, h1, h2⟩ := h
  cases c with
  | true => obtain ⟨r, A2, e2, q⟩ := h1 rfl; exact ⟨r, A2, by simp only [bIf, e1, e2], q⟩
  | false => obtain ⟨r, A2, e2, q⟩ := h2 rfl; exact ⟨r, A2, by simp only [bIf, e1, e2], q⟩
theorem wb_set {i : Nat} {e : EV} (h : WE e A fun r A1 => RS A1 r fun r' A2 => PU i r' A2 fun A3 => QB .nx A3) : WB (bSet i e) A QB := by
  obtain ⟨r, A1, e1, r', A2, e2, A3, e3, q⟩ := h
  exact ⟨_, _, by simp only [bSet, e1, e2, e3], q⟩
theorem wb_asg {g : GV} {e : EV} (h : WE e A fun r A1 => MV A1 r fun x A2 => WG g x A2 fun A3 => QB .nx A3) : WB (bAsg g e) A QB := by
  obtain ⟨r, A1, e1, x, A2, e2, A3, e3, q⟩ := h
  exact ⟨_, _, by simp only [bAsg, e1, e2, e3], q⟩
theorem wb_par {i j : Nat} {ea eb : EV} (h : WE ea A fun r1 A1 => WE eb A1 fun r2 A2 => RS A2 r1 fun q1 A3 => RS A3 r2 fun q2 A4 => PU i q1 A4 fun A5 => PU j q2 A5 fun A6 => QB .nx A6) : WB (bPar i j ea eb) A QB := by
  obtain ⟨r1, A1, e1, r2, A2, e2, q1, A3, e3, q2, A4, e4, A5, e5, A6, e6, q⟩ := h
  exact ⟨_, _, by simp only [bPar, e1, e2, e3, e4, e5, e6], q⟩
def PT (n : Nat) (dk y : D) (A3 : SS) (Q : SS → Prop) : Prop := ∃ d d' A4, getO A3 n = some d ∧ gPut d dk y = some d' ∧ putO A3 n d' = some A4 ∧ Q A4
theorem PT.mk {n : Nat} {dk y d d' : D} {A3 A4 : SS} (h1 : getO A3 n = some d) (h2 : gPut d dk y = some d') (h3 : putO A3 n d' = some A4) (q : QS A4) : PT n dk y A3 QS := ⟨d, d', A4, h1, h2, h3, q⟩
theorem PT.own {n : Nat} {dk y d d' : D} {A3 : SS} (h : A3[n]? = some (.own d)) (h2 : gPut d dk y = some d') (q : PV n (.own d') A3 QS) : PT n dk y A3 QS := ⟨d, d', _, by simp only [getO, h], h2, by simp only [putO, h], q⟩
def GO (n : Nat) (A : SS) (P : Prop) : Prop := (∃ d, getO A n = some d) ∧ P
theorem GO.mk {n : Nat} {P : Prop} {d : D} (h : getO A n = some d) (p : P) : GO n A P := ⟨⟨d, h⟩, p⟩
theorem wb_put {n : Nat} {ek ev : EV} (h : WE ev A fun r A1 => GO n A1 (WE ek A1 fun rk A2 => PK A2 rk fun dk => MV A2 r fun y A3 => PT n dk y A3 fun A4 => QB .nx A4)) : WB (bPut n ek ev) A QB := by
  obtain ⟨r, A1, e1, ⟨d0, g0⟩, rk, A2, e2, dk, p, y, A3, e3, d, d', A4, e4, e5, e6, q⟩ := h
  exact ⟨_, _, by simp only [bPut, e1, g0, e2, p, e3, e4, e5, e6], q⟩
theorem wb_aug {n : Nat} {f : Int → Int → Int} {e : EV} {i : Int} (h0 : A[n]? = some (.val (.int i))) (h : WE e A fun r A1 => PK A1 r fun x => ∃ j, x = .int j ∧ PU n (.d (.int (f i j))) A1 fun A2 => QB .nx A2) : WB (bAug n f e) A QB := by
  obtain ⟨r, A1, e1, x, p, j, rfl, A2, e2, q⟩ := h
  exact ⟨_, _, by simp only [bAug, h0, e1, p, e2], q⟩
/-- a loop by what holds of the rest and of the state -/
def FL (I : List D → SS → Prop) (xs : List D) (Q : Fl → SS → Prop) : Fl → SS → Prop
  | .nx, A => I xs A
  | .ct, A => I xs A
  | .bk, A => Q .nx A
  | .rt r, A => Q (.rt r) A
theorem forL_w {g : GV} {body : BV} {I : List D → SS → Prop} (h : ∀ x rest A, I (x :: rest) A → WG g x A fun A1 => WB body A1 (FL I rest QB)) (hn : ∀ A, I [] A → QB .nx A) :
    ∀ (xs : List D) (A : SS), I xs A → WB (forL g body xs) A QB
  | [], A, i => ⟨_, _, rfl, hn A i⟩
  | x :: xs, A, i => by
    obtain ⟨A1, e1, f, A2, e2, k⟩ := h x xs A i
    cases f with
    | nx => obtain ⟨f, A3, e3, q⟩ := forL_w h hn xs A2 k; exact ⟨f, A3, by simp only [forL, e1, e2, e3], q⟩
    | ct => obtain ⟨f, A3, e3, q⟩ := forL_w h hn xs A2 k; exact ⟨f, A3, by simp only [forL, e1, e2, e3], q⟩
    | bk => exact ⟨_, _, by simp only [forL, e1, e2], k⟩
    | rt r => exact ⟨_, _, by simp only [forL, e1, e2], k⟩
theorem wb_for {iv : IV} {g : GV} {body : BV} (I : List D → SS → Prop) (h : WI iv A fun xs A1 => I xs A1 ∧ (∀ x rest A, I (x :: rest) A → WG g x A fun A1 => WB body A1 (FL I rest QB)) ∧ ∀ A, I [] A → QB .nx A) : WB (bFor iv g body) A QB := by
  obtain ⟨xs, A1, e1, i, h, hn⟩ := h
  obtain ⟨f, A2, e2, q⟩ := forL_w h hn xs A1 i
  exact ⟨f, A2, by simp only [bFor, e1, e2], q⟩
/-- a loop over l: I of what is done, of what is left, of the state -/
theorem wb_forL {α : Type} {iv : IV} {g : GV} {body : BV} (l : List α) (emb : α → D) (I : List α → List α → SS → Prop) (h : WI iv A fun xs A1 => xs = l.map emb ∧ I [] l A1 ∧
    (∀ d x rest A, l = d ++ x :: rest → I d (x :: rest) A → WG g (emb x) A fun A1 => WB body A1 (FL (fun _ => I (d ++ [x]) rest) [] QB)) ∧ ∀ A, I l [] A → QB .nx A) : WB (bFor iv g body) A QB := by
  obtain ⟨xs, A1, e1, rfl, i, h, hn⟩ := h
  have := wb_for (A := A) (iv := iv) (g := g) (body := body) (QB := QB) (fun xs A => ∃ d r, l = d ++ r ∧ xs = r.map emb ∧ I d r A) ⟨_, A1, e1, ⟨[], l, rfl, rfl, i⟩, ?_, ?_⟩
  · exact this
  · rintro x rest A ⟨d, r, hl, hx, hi⟩
    cases r with
    | nil => cases hx
    | cons y ys =>
      rw [List.map_cons] at hx
      cases hx
      obtain ⟨A2, e2, f, A3, e3, k⟩ := h d y ys A hl hi
      refine ⟨A2, e2, f, A3, e3, ?_⟩
      cases f with
      | nx => exact ⟨d ++ [y], ys, by simp [hl], rfl, k⟩
      | ct => exact ⟨d ++ [y], ys, by simp [hl], rfl, k⟩
      | bk => exact k
      | rt r => exact k
  · rintro A ⟨d, r, hl, hx, hi⟩
    cases r with
    | nil => rw [List.append_nil] at hl; subst hl; exact hn A hi
    | cons y ys => cases hx
/-- a while loop by a measure -/
theorem wb_while {t : ET} {body : BV} (m : Nat → SS → Prop) (h : ∀ k A, m k A → WT t A fun c A1 => (c = false → QB .nx A1) ∧ (c = true → WB body A1 fun f A2 => match f with
    | .nx => ∃ j, j < k ∧ m j A2
    | .ct => ∃ j, j < k ∧ m j A2
    | .bk => QB .nx A2
    | .rt r => QB (.rt r) A2)) : ∀ (n k : Nat) (A : SS), k < n → m k A → WB (whileL t body n) A QB
  | 0, k, A, l, _ => absurd l (Nat.not_lt_zero k)
  | n + 1, k, A, l, i => by
    obtain ⟨c, A1, e1, h1, h2⟩ := h k A i
    cases c with
    | false => exact ⟨_, _, by simp only [whileL, e1], h1 rfl⟩
    | true =>
      obtain ⟨f, A2, e2, q⟩ := h2 rfl
      cases f with
      | nx =>
        obtain ⟨j, lj, ij⟩ := q
        obtain ⟨f, A3, e3, q⟩ := wb_while m h n j A2 (by omega) ij
        exact ⟨_, _, by simp only [whileL, e1, e2, e3], q⟩
      | ct =>
        obtain ⟨j, lj, ij⟩ := q
        obtain ⟨f, A3, e3, q⟩ := wb_while m h n j A2 (by omega) ij
        exact ⟨_, _, by simp only [whileL, e1, e2, e3], q⟩
      | bk => exact ⟨_, _, by simp only [whileL, e1, e2], q⟩
      | rt r => exact ⟨_, _, by simp only [whileL, e1, e2], q⟩
/-! comprehensions -/
def WIP (A : SS) (vs : List Nat) (W : SS) : Prop := wipeA A vs = W
theorem noIo1 {v : Nat} {s : SV} (h : A[v]? = some s) (hs : NI s = true) : noIo A [v] = true := by
  simp only [noIo, List.all_cons, List.all_nil, Bool.and_true, h]
  cases s with
  | io y => cases hs
  | _ => rfl
/-- one element: the name is stored, the test, the element, and all is as before -/
def Elt (g : GV) (t : ET) (e : EV) (vs : List Nat) (A : SS) (x : D) (p : Bool) (y : D) : Prop :=
  WG g x A fun A1 => WT t A1 fun c A2 => c = p ∧ (p = false → wipeA A2 vs = A) ∧ (p = true → WE e A2 fun r A3 => MV A3 r fun z A4 => z = y ∧ wipeA A4 vs = A)
theorem we_lcF {α : Type} {iv : IV} {g : GV} {t : ET} {e : EV} {vs : List Nat} (l : List α) (emb : α → D) (p : α → Bool) (f : α → D) (h : WI iv A fun xs A1 => ∃ W B, wipeA A1 vs = W ∧ backA A1 W vs = B ∧ xs = l.map emb ∧ l.length ≤ LIM ∧ noIo A1 vs = true ∧
    (∀ a ∈ l, Elt g t e vs W (emb a) (p a) (f a)) ∧ Q (.fr (.lst ((l.filter p).map f))) B) : WE (evLc iv g t e vs) A Q := by
  obtain ⟨xs, A1, e1, _, _, rfl, rfl, rfl, l1, n1, h, q⟩ := h
  have := lcL_map (A := wipeA A1 vs) (vs := vs) (g := g) (t := t) (e := e) (emb := emb) (f := f) (p := p) l fun a ha => by
    obtain ⟨A2, e2, c, A3, e3, rfl, h1, h2⟩ := h a ha
    refine ⟨A2, A3, e2, e3, h1, fun hp => ?_⟩
    obtain ⟨r, A4, e4, z, A5, e5, rfl, w⟩ := h2 hp
    exact ⟨r, A4, A5, e4, e5, w⟩
  refine ⟨_, _, ?_, q⟩
  simp only [evLc, e1]
  rw [if_pos ⟨by simpa using l1, n1⟩]
  simp only [this]
/-- the same, where the test is not told -/
def EltS (g : GV) (t : ET) (e : EV) (vs : List Nat) (A : SS) (x : D) (y : D) : Prop :=
  WG g x A fun A1 => WT t A1 fun c A2 => (c = false → wipeA A2 vs = A) ∧ (c = true → WE e A2 fun r A3 => MV A3 r fun z A4 => z = y ∧ wipeA A4 vs = A)
theorem we_lcS {α : Type} {iv : IV} {g : GV} {t : ET} {e : EV} {vs : List Nat} (l : List α) (emb : α → D) (f : α → D) (h : WI iv A fun xs A1 => ∃ W B, wipeA A1 vs = W ∧ backA A1 W vs = B ∧ xs = l.map emb ∧ l.length ≤ LIM ∧ noIo A1 vs = true ∧
    (∀ a ∈ l, EltS g t e vs W (emb a) (f a)) ∧ ∀ p : α → Bool, Q (.fr (.lst ((l.filter p).map f))) B) : WE (evLc iv g t e vs) A Q := by
  obtain ⟨xs, A1, e1, W, B, hW, hB, hx, l1, n1, h, q⟩ := h
  have k : ∀ a, ∃ b, a ∈ l → Elt g t e vs W (emb a) b (f a) := fun a => by
    by_cases ha : a ∈ l
    · obtain ⟨A2, e2, c, A3, e3, h1, h2⟩ := h a ha
      exact ⟨c, fun _ => ⟨A2, e2, c, A3, e3, rfl, h1, h2⟩⟩
    · exact ⟨true, fun z => absurd z ha⟩
  refine we_lcF l emb (fun a => (k a).choose) f ⟨xs, A1, e1, W, B, hW, hB, hx, l1, n1, fun a ha => (k a).choose_spec ha, q _⟩
theorem we_lc {α : Type} {iv : IV} {g : GV} {e : EV} {vs : List Nat} (l : List α) (emb : α → D) (f : α → D) (h : WI iv A fun xs A1 => ∃ W B, wipeA A1 vs = W ∧ backA A1 W vs = B ∧ xs = l.map emb ∧ l.length ≤ LIM ∧ noIo A1 vs = true ∧
    (∀ a ∈ l, WG g (emb a) W fun A1' => WE e A1' fun r A3 => MV A3 r fun z A4 => z = f a ∧ wipeA A4 vs = W) ∧ Q (.fr (.lst (l.map f))) B) : WE (evLc iv g tYesA e vs) A Q := by
  refine we_lcF l emb (fun _ => true) f ?_
  obtain ⟨xs, A1, e1, _, _, rfl, rfl, hx, l1, n1, h, q⟩ := h
  refine ⟨xs, A1, e1, _, _, rfl, rfl, hx, l1, n1, fun a ha => ?_, ?_⟩
  · obtain ⟨A2, e2, k⟩ := h a ha
    exact ⟨A2, e2, true, A2, rfl, rfl, (fun z => by cases z), fun _ => k⟩
  · rw [List.filter_eq_self.mpr fun _ _ => rfl]
    exact q
/-- a comprehension that draws -/
theorem we_lcR {iv : IV} {g : GV} {e : EV} {vs : List Nat} (I : Nat → SS → Prop) (P : D → D → Prop) (k : Nat) (h : WI iv A fun xs A1 => ∃ W, WIP A1 vs W ∧ xs.length ≤ LIM ∧ noIo A1 vs = true ∧ I (k + xs.length) W ∧
    (∀ x ∈ xs, ∀ n A, I (n + 1) A → WG g x A fun A1 => WE e A1 fun r A3 => MV A3 r fun z A4 => P x z ∧ I n (wipeA A4 vs)) ∧ ∀ ys A2, All2 P xs ys → I k A2 → Q (.fr (.lst ys)) (backA A1 A2 vs)) : WE (evLc iv g tYesA e vs) A Q := by
  obtain ⟨xs, A1, e1, _, rfl, l1, n1, i, h, q⟩ := h
  obtain ⟨ys, A2, e2, p, j⟩ := lcL_rel (g := g) (e := e) (vs := vs) (I := I) (P := P) xs (fun x hx n A hi => by
    obtain ⟨A1, e1, r, A3, e3, z, A4, e4, pz, iz⟩ := h x hx n A hi
    exact ⟨A1, r, A3, z, A4, e1, e3, e4, pz, iz⟩) k (wipeA A1 vs) i
  refine ⟨_, _, ?_, q ys A2 p j⟩
  simp only [evLc, e1]
  rw [if_pos ⟨l1, n1⟩]
  simp only [e2]
/-- a comprehension that draws: I of what is done, of what is made, of the state -/
theorem lcL_I {α : Type} {g : GV} {e : EV} {vs : List Nat} {emb : α → D} (l : List α) (I : List α → List D → SS → Prop) (h : ∀ dn x rest ys A, l = dn ++ x :: rest → I dn ys A → WG g (emb x) A fun A1 => WE e A1 fun r A3 => MV A3 r fun z A4 => I (dn ++ [x]) (ys ++ [z]) (wipeA A4 vs)) :
    ∀ (rest dn : List α) (ys : List D) (A : SS), l = dn ++ rest → I dn ys A → ∃ zs A', lcL g tYesA e vs (rest.map emb) A = some (zs, A') ∧ I l (ys ++ zs) A'
  | [], dn, ys, A, hl, i => ⟨[], A, rfl, by rw [List.append_nil] at hl ⊢; rw [hl]; exact i⟩
  | x :: rest, dn, ys, A, hl, i => by
    obtain ⟨A1, e1, r, A3, e3, z, A4, e4, j⟩ := h dn x rest ys A hl i
    obtain ⟨zs, A', e5, k⟩ := lcL_I l I h rest (dn ++ [x]) (ys ++ [z]) (wipeA A4 vs) (by rw [hl]; simp) j
    refine ⟨z :: zs, A', by simp only [List.map_cons, lcL, tYesA, e1, e3, e4, e5], ?_⟩
    simpa using k
theorem we_lcI {α : Type} {iv : IV} {g : GV} {e : EV} {vs : List Nat} (l : List α) (emb : α → D) (I : List α → List D → SS → Prop) (h : WI iv A fun xs A1 => ∃ W, WIP A1 vs W ∧ xs = l.map emb ∧ l.length ≤ LIM ∧ noIo A1 vs = true ∧ I [] [] W ∧
    (∀ dn x rest ys A, l = dn ++ x :: rest → I dn ys A → WG g (emb x) A fun A1 => WE e A1 fun r A3 => MV A3 r fun z A4 => I (dn ++ [x]) (ys ++ [z]) (wipeA A4 vs)) ∧ ∀ ys A2, I l ys A2 → Q (.fr (.lst ys)) (backA A1 A2 vs)) : WE (evLc iv g tYesA e vs) A Q := by
  obtain ⟨xs, A1, e1, _, rfl, rfl, l1, n1, i, h, q⟩ := h
  obtain ⟨zs, A2, e2, k⟩ := lcL_I l I h l [] [] (wipeA A1 vs) rfl i
  refine ⟨_, _, ?_, q zs A2 (by simpa using k)⟩
  simp only [evLc, e1]
  rw [if_pos ⟨by simpa using l1, n1⟩]
  simp only [e2]
theorem we_dc {α : Type} {iv : IV} {g : GV} {ek ev : EV} {vs : List Nat} (l : List α) (emb : α → D) (k : α → Key) (f : α → D) (h : WI iv A fun xs A1 => ∃ W B, wipeA A1 vs = W ∧ backA A1 W vs = B ∧ xs = l.map emb ∧ l.length ≤ LIM ∧ noIo A1 vs = true ∧ (l.map k).Nodup ∧
    (∀ a ∈ l, WG g (emb a) W fun A1' => WE ek A1' fun rk A3 => PK A3 rk fun dk => dk = keyD (k a) ∧ WE ev A3 fun r A4 => MV A4 r fun z A5 => z = f a ∧ wipeA A5 vs = W) ∧
    Q (.fr (.dct (l.map fun a => keyD (k a)) (l.map f))) B) : WE (evDc iv g tYesA ek ev vs) A Q := by
  obtain ⟨xs, A1, e1, _, _, rfl, rfl, rfl, l1, n1, nd, h, q⟩ := h
  have := dcL_fold (A := wipeA A1 vs) (vs := vs) (g := g) (ek := ek) (ev := ev) (emb := emb) (k := k) (f := f) l (fun a ha => by
    obtain ⟨A2, e2, rk, A3, e3, dk, p, rfl, r, A4, e4, z, A5, e5, rfl, w⟩ := h a ha
    exact ⟨A2, rk, A3, r, A4, A5, e2, e3, p, e4, e5, w⟩) []
  rw [putA_new l [] (by simpa using nd), List.nil_append] at this
  refine ⟨_, _, ?_, q⟩
  simp only [evDc, e1]
  rw [if_pos ⟨by simpa using l1, n1⟩]
  simp only [this, dctOf, List.map_map]
  rfl
/-! functions -/
theorem WF.out {g : EV} {as : SS} (h : WF g as Q) : ∃ r as', g as = some (r, as') ∧ Q r as' := by
  rcases h with ⟨z, a, e, q⟩ | ⟨z, a, e, q⟩
  · exact ⟨_, _, e, q⟩
  · exact ⟨_, _, e, q⟩
def Ret (as : SS) (Q : R → SS → Prop) : Fl → SS → Prop
  | .rt (.d x), A' => Q (.d x) (outs as A')
  | .rt (.fr x), A' => Q (.fr x) (outs as A')
  | .nx, A' => Q (.d .non) (outs as A')
  | _, _ => False
theorem wf_of {b : BV} {N : Nat} {as A0 : SS} (h0 : as ++ List.replicate (N - as.length) .un = A0) (h : WB b A0 (Ret as Q)) : WF (gOf b N) as Q := by
  subst h0
  obtain ⟨f, A', e, q⟩ := h
  cases f with
  | nx => exact .inl ⟨_, _, by simp only [gOf, e], q⟩
  | bk => exact q.elim
  | ct => exact q.elim
  | rt r => cases r with
    | sl i => exact q.elim
    | d x => exact .inl ⟨_, _, by simp only [gOf, e], q⟩
    | fr x => exact .inr ⟨_, _, by simp only [gOf, e], q⟩
theorem ret_d {as A' : SS} {x : D} (q : Q (.d x) (outs as A')) : Ret as Q (.rt (.d x)) A' := q
theorem ret_fr {as A' : SS} {x : D} (q : Q (.fr x) (outs as A')) : Ret as Q (.rt (.fr x)) A' := q
end
end Z
/-! W2: rules for operations on data. -/
namespace Z
open PySem L2
open PyProof.Rows hiding St
section
variable {QR : R → Prop}
theorem o_ixt0 {x : D} {xs : List D} (q : QR (.d x)) : W2 gIxA (.tup (x :: xs)) (.int 0) QR := W2.d (by simp only [gIxA, gIx, atI_0, Option.map_some]) q
theorem o_ixt1 {x y : D} {xs : List D} (q : QR (.d y)) : W2 gIxA (.tup (x :: y :: xs)) (.int 1) QR := W2.d (by simp only [gIxA, gIx, atI_1, Option.map_some]) q
theorem o_ixt2 {x y z : D} {xs : List D} (q : QR (.d z)) : W2 gIxA (.tup (x :: y :: z :: xs)) (.int 2) QR := W2.d (by simp only [gIxA, gIx, atI_2, Option.map_some]) q
theorem o_ixl0 {x : D} {xs : List D} (q : QR (.d x)) : W2 gIxA (.lst (x :: xs)) (.int 0) QR := W2.d (by simp only [gIxA, gIx, atI_0, Option.map_some]) q
theorem o_ixl1 {x y : D} {xs : List D} (q : QR (.d y)) : W2 gIxA (.lst (x :: y :: xs)) (.int 1) QR := W2.d (by simp only [gIxA, gIx, atI_1, Option.map_some]) q
theorem o_ixl2 {x y z : D} {xs : List D} (q : QR (.d z)) : W2 gIxA (.lst (x :: y :: z :: xs)) (.int 2) QR := W2.d (by simp only [gIxA, gIx, atI_2, Option.map_some]) q
theorem o_ixt {xs : List D} {i : Int} {z : D} (h : L2.atI xs i = some z) (q : QR (.d z)) : W2 gIxA (.tup xs) (.int i) QR := W2.d (by simp only [gIxA, gIx, h, Option.map_some]) q
theorem o_ixl {xs : List D} {i : Int} {z : D} (h : L2.atI xs i = some z) (q : QR (.d z)) : W2 gIxA (.lst xs) (.int i) QR := W2.d (by simp only [gIxA, gIx, h, Option.map_some]) q
theorem o_addI {i j : Int} (q : QR (.d (.int (i + j)))) : W2 gAdd (.int i) (.int j) QR := W2.d rfl q
theorem o_subI {i j : Int} (q : QR (.d (.int (i - j)))) : W2 gSub (.int i) (.int j) QR := W2.d rfl q
theorem o_addL {xs ys : List D} (h : xs.length + ys.length ≤ LIM) (q : QR (.fr (.lst (xs ++ ys)))) : W2 gAdd (.lst xs) (.lst ys) QR := W2.fr (by simp only [gAdd, if_pos h]) q
theorem o_addT {xs ys : List D} (h : xs.length + ys.length ≤ LIM) (q : QR (.d (.tup (xs ++ ys)))) : W2 gAdd (.tup xs) (.tup ys) QR := W2.d (by simp only [gAdd, if_pos h]) q
theorem o_mulI {i j : Int} (h : (-(2 ^ 64) < i ∧ i < 2 ^ 64) ∨ (-(2 ^ 64) < j ∧ j < 2 ^ 64)) (q : QR (.d (.int (i * j)))) : W2 gMul (.int i) (.int j) QR := W2.d (by simp only [gMul]; rw [if_pos h]) q
theorem flat1 {α : Type} (x : α) (n : Nat) : (List.replicate n [x]).flatten = List.replicate n x := by
  induction n with
  | zero => rfl
  | succ n ih => simp [List.replicate_succ, ih]
theorem o_mulT {x : D} {n : Nat} (h1 : 2 ≤ n) (h2 : n ≤ 1000) (q : QR (.d (.tup (List.replicate n x)))) : W2 gMul (.tup [x]) (.int (n : Int)) QR := W2.d (by
  simp only [gMul]
  rw [if_pos ⟨by simp, by omega, by omega, by simp⟩, Int.toNat_natCast, flat1]) q
theorem o_mulL {x : D} {n : Nat} (h2 : n ≤ 1000) (q : QR (.fr (.lst (List.replicate n x)))) : W2 gMul (.lst [x]) (.int (n : Int)) QR := W2.fr (by
  simp only [gMul]
  rw [if_pos ⟨by omega, by omega, by simp [LIM]; omega⟩, Int.toNat_natCast, flat1]) q
theorem o_mod {i j : Int} (h : 0 < j) (q : QR (.d (.int (i % j)))) : W2 gMod (.int i) (.int j) QR := W2.d (by simp only [gMod, if_pos h]) q
theorem o_div {i j : Int} (h : 0 < j ∧ j < 1073741824) (q : QR (.d (.int (i / j)))) : W2 gDiv (.int i) (.int j) QR := W2.d (by simp only [gDiv]; rw [if_pos h]) q
theorem o_cmpI {f : Int → Int → Bool} {i j : Int} (q : QR (.d (.bl (f i j)))) : W2 (gCmpI f) (.int i) (.int j) QR := W2.d rfl q
theorem o_eq {x y : D} (h1 : okE 60 x = true) (h2 : okE 60 y = true) (q : QR (.d (.bl (decide (x = y))))) : W2 gEq x y QR := W2.d (by simp only [gEq, h1, h2, Bool.and_self, if_true]) q
theorem o_ne {x y : D} (h1 : okE 60 x = true) (h2 : okE 60 y = true) (q : QR (.d (.bl (!decide (x = y))))) : W2 gNe x y QR := W2.d (by simp only [gNe, h1, h2, Bool.and_self, if_true]) q
theorem o_eqI {i j : Int} (q : QR (.d (.bl (decide (i = j))))) : W2 gEq (.int i) (.int j) QR := by
  refine o_eq rfl rfl ?_
  have : decide (D.int i = D.int j) = decide (i = j) := by simp
  rw [this]; exact q
theorem o_neI {i j : Int} (q : QR (.d (.bl (!decide (i = j))))) : W2 gNe (.int i) (.int j) QR := by
  refine o_ne rfl rfl ?_
  have : decide (D.int i = D.int j) = decide (i = j) := by simp
  rw [this]; exact q
theorem o_eqS {i j : Str} (h1 : PyData.strOk i = true) (h2 : PyData.strOk j = true) (q : QR (.d (.bl (decide (i = j))))) : W2 gEq (.str i) (.str j) QR := by
  refine o_eq (by simp [okE, h1]) (by simp [okE, h2]) ?_
  have : decide (D.str i = D.str j) = decide (i = j) := by simp
  rw [this]; exact q
theorem o_neS {i j : Str} (h1 : PyData.strOk i = true) (h2 : PyData.strOk j = true) (q : QR (.d (.bl (!decide (i = j))))) : W2 gNe (.str i) (.str j) QR := by
  refine o_ne (by simp [okE, h1]) (by simp [okE, h2]) ?_
  have : decide (D.str i = D.str j) = decide (i = j) := by simp
  rw [this]; exact q
theorem o_lenL {xs : List D} (q : QR (.d (.int (xs.length : Nat)))) : W1 gLen (.lst xs) QR := W1.d rfl q
theorem o_lenT {xs : List D} (q : QR (.d (.int (xs.length : Nat)))) : W1 gLen (.tup xs) QR := W1.d rfl q
theorem o_lenX {ns : List Int} (q : QR (.d (.int (ns.length : Nat)))) : W1 gLen (.scr ns) QR := W1.d rfl q
theorem o_tupL {xs : List D} (q : QR (.d (.tup xs))) : W1 gTuple (.lst xs) QR := W1.d rfl q
theorem o_tupT {xs : List D} (q : QR (.d (.tup xs))) : W1 gTuple (.tup xs) QR := W1.d rfl q
theorem o_lstL {xs : List D} (q : QR (.fr (.lst xs))) : W1 gList (.lst xs) QR := W1.fr rfl q
theorem o_lstT {xs : List D} (q : QR (.fr (.lst xs))) : W1 gList (.tup xs) QR := W1.fr rfl q
theorem o_intI {i : Int} (q : QR (.d (.int i))) : W1 gInt (.int i) QR := W1.d rfl q
theorem o_intB {b : Bool} (q : QR (.d (.int (if b then 1 else 0)))) : W1 gInt (.bl b) QR := W1.d rfl q
theorem o_absI {i : Int} (q : QR (.d (.int (if i < 0 then -i else i)))) : W1 gAbs (.int i) QR := W1.d rfl q
theorem o_negI {i : Int} (q : QR (.d (.int (-i)))) : W1 gNeg (.int i) QR := W1.d rfl q
theorem o_max2 {i j : Int} (q : QR (.d (.int (if j > i then j else i)))) : W2 gMax2 (.int i) (.int j) QR := W2.d rfl q
theorem o_min2 {i j : Int} (q : QR (.d (.int (if j < i then j else i)))) : W2 gMin2 (.int i) (.int j) QR := W2.d rfl q
theorem o_sorted {xs : List D} (h : sortOk xs = true) (q : QR (.fr (.lst (sortD xs)))) : W1 gSorted (.lst xs) QR := W1.fr (by simp only [gSorted, keysSorted, if_pos h]) q
theorem o_sortedK {ks ws : List D} (h0 : flatKs ks = true) (h : sortOk ks = true) (q : QR (.fr (.lst (sortD ks)))) : W1 gSorted (.dct ks ws) QR := W1.fr (by simp only [gSorted, keysSorted, if_pos h0, if_pos h]) q
theorem o_vals {ks ws : List D} (h0 : flatKs ks = true) (h : ks.length = ws.length) (q : QR (.fr (.lst ws))) : W1 gVals (.dct ks ws) QR := W1.fr (by simp only [gVals]; rw [if_pos ⟨h0, h⟩]) q
theorem o_all {l : List Bool} (q : QR (.d (.bl (l.all id)))) : W1 gAll (.lst (l.map .bl)) QR := W1.d (by simp only [gAll, blsD_map, Option.map_some]) q
theorem o_allT {xs : List D} (h : ∀ x ∈ xs, x = .bl true) (q : QR (.d (.bl true))) : W1 gAll (.lst xs) QR := by
  have : xs = (xs.map fun _ => true).map .bl := by
    rw [List.map_map]
    exact (List.map_id xs).symm.trans (List.map_congr_left fun x hx => h x hx)
  rw [this]
  refine o_all ?_
  have e : (xs.map fun _ => true).all id = true := by simp
  rw [e]; exact q
theorem o_sum {l : List Int} (q : QR (.d (.int l.sum))) : W1 gSum (.lst (l.map .int)) QR := W1.d (by simp only [gSum, intsD_map, Option.map_some]) q
theorem o_maxL {n : Int} {l : List Int} (q : QR (.d (.int (maxI (n :: l))))) : W1 gMaxL (.lst ((n :: l).map .int)) QR := W1.d (by simp only [gMaxL, intsD_map]) q
theorem put_lst {xs : List D} {i : Int} {j : Nat} {y : D} (hi : i = j) (h : j < xs.length) : gPut (.lst xs) (.int i) y = some (.lst (xs.set j y)) := by
  subst hi
  have : ixN xs.length (j : Int) = some j := by
    unfold ixN
    rw [if_pos (by omega), if_pos (by omega)]
    simp
  simp only [gPut, this]
theorem enumL_map {α : Type} (f : α → D) : ∀ (l : List α) (n : Nat), enumL n (l.map f) = (l.zipIdx n).map fun p => .tup [.int (p.2 : Nat), f p.1]
  | [], _ => rfl
  | x :: l, n => by simp [enumL, List.zipIdx_cons, enumL_map f l (n + 1)]
theorem o_ixd {ks ws : List D} {k w : D} (h : dgetD (.dct ks ws) k = some (some w)) (q : QR (.d w)) : W2 gIxA (.dct ks ws) k QR := W2.d (by simp only [gIxA, gDIx, h]) q
theorem o_index {xs : List D} {y : D} {j : Nat} (h1 : xs.all (okE 50) = true) (h2 : okE 60 y = true) (h : idxD xs y = some j) (q : QR (.d (.int (j : Nat)))) : W2 gIndex (.lst xs) y QR := W2.d (by simp only [gIndex, h1, h2, Bool.and_self, if_true, h, Option.map_some]) q
end
end Z
/-! M2: the drawing functions. -/
namespace K72
open PySem Z
open PyProof.Rows hiding St
def U (a b c : Int) : D := .lst [.int a, .int b, .int c]
/-- a good urn, at most n takes so far -/
def Ur (n : Nat) (d : D) : Prop := ∃ a b c : Int, d = U a b c ∧ 0 ≤ a ∧ 0 ≤ b ∧ b < 4611686018427387904 ∧ 0 ≤ c ∧ c ≤ n
theorem Ur.mono {n m : Nat} {d : D} (h : Ur n d) (l : n ≤ m) : Ur m d := by
  obtain ⟨a, b, c, e, h1, h2, h3, h4, h5⟩ := h
  exact ⟨a, b, c, e, h1, h2, h3, h4, by omega⟩
theorem put0 (x y z w : D) : gPut (.lst [x, y, z]) (.int 0) w = some (.lst [w, y, z]) := rfl
theorem put2 (x y z w : D) : gPut (.lst [x, y, z]) (.int 2) w = some (.lst [x, y, w]) := rfl
theorem take_pos {a b c n : Int} (ha : 0 < a) (hn : 0 < n) (hn2 : n < 1073741824) : g_q_take [.io (U a b c), .val (.int n)] = some (.d (.int (a % n)), [.io (U (a / n) b c), .val (.int n)]) := by
  simp [g_q_take, b_q_take, gOf, bSeq, bIf, bSet, bPar, bRet, bRetN, bExp, bPut, bAsg, bAug, bNil, bCnt, bBrk, evB, evTru, truD, evNotT, evAndT, evOrT, ev1, ev2, evVar, evC, evTup, evLst, evCons, evNil, evIf, evAnd, evNot, evOrV, evSl, eoNone, eoSome, evCall, evCallIo, evCallFr, evMt, evM2, evStar, evGet1, evGet2, evD0, evD1, evListRg, evTupRg, evLc, evDc, bFor, ivSeq, ivRng1, ivRng2, ivEnum, ivZip, ivKeys, dctAt, stayD, tYesA, peek, mv, mvs, res, putR, getO, putO, outs, gvN, gvT, gvCons, gvNil, noIo, wipeA, backA, List.replicate, U, gIxA, gIx, atI_0, gGt, gCmpI, ha, gMod, gInt, hn, hn2, gDiv, put0]
theorem mulOk {i j : Int} (h : (-(2 ^ 64) < i ∧ i < 2 ^ 64) ∨ (-(2 ^ 64) < j ∧ j < 2 ^ 64)) : gMul (.int i) (.int j) = some (.d (.int (i * j))) := by
  unfold gMul
  exact if_pos h
theorem take_neg {a b c n : Int} (ha : ¬ 0 < a) (hn : 0 < n) (hc : 0 ≤ c) (hc2 : c < 4611686018427387904) : ∃ x, g_q_take [.io (U a b c), .val (.int n)] = some (.d (.int (x % n)), [.io (U a b (c + 1)), .val (.int n)]) := by
  have m1 : gMul (.int 48271) (.int (c + 1)) = some (.d (.int (48271 * (c + 1)))) := mulOk (.inl ⟨by decide, by decide⟩)
  have m2 : ∀ x, gMul (.int x) (.int (39373 + (c + 1))) = some (.d (.int (x * (39373 + (c + 1))))) := fun x => mulOk (.inr ⟨by omega, by omega⟩)
  have m3 : ∀ x y, gMul (.int x) (.int (y % 40009 + 7)) = some (.d (.int (x * (y % 40009 + 7)))) := fun x y => mulOk (.inr ⟨by omega, by omega⟩)
  have m4 : ∀ x, gMul (.int x) (.int 48271) = some (.d (.int (x * 48271))) := fun x => mulOk (.inr ⟨by decide, by decide⟩)
  refine ⟨?x, ?h⟩
  case h =>
    simp only [g_q_take, b_q_take, gOf, bSeq, bIf, bSet, bPar, bRet, bRetN, bExp, bPut, bAsg, bAug, bNil, bCnt, bBrk, evB, evTru, truD, evNotT, evAndT, evOrT, ev1, ev2, evVar, evC, evTup, evLst, evCons, evNil, evIf, evAnd, evNot, evOrV, evSl, eoNone, eoSome, evCall, evCallIo, evCallFr, evMt, evM2, evStar, evGet1, evGet2, evD0, evD1, evListRg, evTupRg, evLc, evDc, bFor, ivSeq, ivRng1, ivRng2, ivEnum, ivZip, ivKeys, dctAt, stayD, tYesA, peek, mv, mvs, res, putR, getO, putO, outs, gvN, gvT, gvCons, gvNil, noIo, wipeA, backA, List.replicate, U, gIxA, gIx, atI_0, atI_1, atI_2, gGt, gCmpI, ha, gMod, gInt, hn, gDiv, put2, N_q_take, List.length_cons, List.length_nil, List.cons_append, List.nil_append, List.getElem?_cons_zero, List.getElem?_cons_succ, List.set_cons_zero, List.set_cons_succ, Option.map_some, decide_false, gAdd, m1, m2, m3, m4, Nat.reduceAdd, Nat.reduceSub, if_true, true_and, Int.reduceLT, and_true, and_self]
    rfl
theorem take_ok {d : D} {k : Nat} {n : Int} (u : Ur k d) (hk : k ≤ 1099511627776) (hn : 0 < n) (hn2 : n < 1073741824) : ∃ v d', g_q_take [.io d, .val (.int n)] = some (.d (.int v), [.io d', .val (.int n)]) ∧ 0 ≤ v ∧ v < n ∧ Ur (k + 1) d' := by
  obtain ⟨a, b, c, e, h1, h2, h3, h4, h5⟩ := u
  subst e
  by_cases ha : 0 < a
  · exact ⟨_, _, take_pos ha hn hn2, Int.emod_nonneg _ (by omega), Int.emod_lt_of_pos _ hn, _, _, _, rfl, Int.ediv_nonneg h1 (by omega), h2, h3, h4, by omega⟩
  · obtain ⟨x, e⟩ := take_neg (a := a) (b := b) ha hn h4 (by omega)
    exact ⟨_, _, e, Int.emod_nonneg _ (by omega), Int.emod_lt_of_pos _ hn, _, _, _, rfl, h1, h2, h3, by omega, by omega⟩
theorem of_ok {d : D} {k : Nat} {xs : List D} {X : D} (hX : X = .lst xs ∨ X = .tup xs) (u : Ur k d) (hk : k ≤ 1099511627776) (h0 : xs ≠ []) (hl : xs.length < 1073741824) : ∃ y d', g_q_of [.io d, .val X] = some (.d y, [.io d', .val X]) ∧ y ∈ xs ∧ Ur (k + 1) d' := by
  have hp : 0 < xs.length := List.length_pos_iff.mpr h0
  obtain ⟨v, d', e, v0, v1, u'⟩ := take_ok (n := (xs.length : Int)) u hk (by omega) (by omega)
  have hv : v.toNat < xs.length := by omega
  have e2 : L2.atI xs v = some xs[v.toNat] := atI_nat (by omega) hv
  refine ⟨xs[v.toNat], d', ?_, List.getElem_mem _, u'⟩
  rcases hX with rfl | rfl <;>
    simp only [g_q_of, b_q_of, gOf, bSeq, bIf, bSet, bPar, bRet, bRetN, bExp, bPut, bAsg, bAug, bNil, bCnt, bBrk, evB, evTru, truD, evNotT, evAndT, evOrT, ev1, ev2, evVar, evC, evTup, evLst, evCons, evNil, evIf, evAnd, evNot, evOrV, evSl, eoNone, eoSome, evCall, evCallIo, evCallFr, evMt, evM2, evStar, evGet1, evGet2, evD0, evD1, evListRg, evTupRg, evLc, evDc, bFor, ivSeq, ivRng1, ivRng2, ivEnum, ivZip, ivKeys, dctAt, stayD, tYesA, peek, mv, mvs, res, putR, getO, putO, outs, gvN, gvT, gvCons, gvNil, noIo, wipeA, backA, List.replicate, N_q_of, List.length_cons, List.length_nil, List.cons_append, List.nil_append, List.getElem?_cons_zero, List.getElem?_cons_succ, List.set_cons_zero, List.set_cons_succ, Option.map_some, List.map_cons, List.map_nil, List.append_nil, Nat.zero_le, Nat.reduceAdd, Nat.reduceSub, Nat.reduceEqDiff, if_true, true_and, and_true, and_self, decide_true, decide_false, Bool.not_true, Bool.not_false, reduceIte, Bool.false_eq_true, gLen, e, gIxA, gIx, e2]
theorem perm_erase {α : Type} : ∀ {xs : List α} {i : Nat} (h : i < xs.length), ([xs[i]] ++ xs.eraseIdx i).Perm xs
  | x :: xs, 0, _ => by simp
  | x :: xs, i + 1, h => by
    have := perm_erase (xs := xs) (i := i) (by simpa using h)
    simp only [List.getElem_cons_succ, List.eraseIdx_cons_succ, List.singleton_append] at this ⊢
    exact (List.Perm.swap _ _ _).trans (this.cons x)
theorem pick_ok {d : D} {k : Nat} {xs : List D} {m : Int} (u : Ur k d) (hk : k + xs.length ≤ 1099511627776) (hl : xs.length < 16777216) (hm : 0 ≤ m) (hm2 : m < 4611686018427387904) : ∃ ys d', g_q_pick [.io d, .val (.lst xs), .val (.int m)] = some (.fr (.lst ys), [.io d', .val (.lst xs), .val (.int m)]) ∧
    ys.length = min m.toNat xs.length ∧ (∃ rest, (ys ++ rest).Perm xs) ∧ Ur (k + xs.length) d' := by
  have hmin : ∃ c : Nat, gMin2 (.int m) (.int (xs.length : Nat)) = some (.d (.int (c : Int))) ∧ c = min m.toNat xs.length := by
    refine ⟨_, ?_, rfl⟩
    unfold gMin2
    refine congrArg (fun x => some (R.d (.int x))) ?_
    split <;> omega
  obtain ⟨c, hc, hc2⟩ := hmin
  have loop := forL_inv (g := gvN 3) (body := bExp (evMt 5 fAppend true (evMt 4 fPop false (evCallIo 2 g_q_take [] (evCons (evVar 0) (evCons (ev1 gLen (evVar 4)) evNil))))))
    (I := fun rest A => ∃ d' s left ys, A = [.io d', .val (.lst xs), .val (.int m), s, .own (.lst left), .own (.lst ys)] ∧ (∀ x, s ≠ .io x) ∧ Ur (k + ys.length) d' ∧ (ys ++ left).Perm xs ∧ rest.length + ys.length = c) ?_
    (rngD 0 c) [.io d, .val (.lst xs), .val (.int m), .un, .own (.lst xs), .own (.lst [])] ⟨d, .un, xs, [], rfl, (fun x h => by cases h), u, by simp, by rw [rngD0]; simp⟩
  · obtain ⟨A', e, d', s, left, ys, rfl, _, u', pm, ln⟩ := loop
    simp only [List.length_nil, Nat.zero_add] at ln
    refine ⟨ys, d', ?_, by omega, ⟨left, pm⟩, u'.mono (by have := pm.length_eq; simp at this; omega)⟩
    have hr : (-(2 ^ 62 : Int) ≤ (c : Int) ∧ (c : Int) < 2 ^ 62) := ⟨by omega, by omega⟩
    simp only [g_q_pick, b_q_pick, l_q_pick_1, gOf, bSeq, bIf, bSet, bPar, bRet, bRetN, bExp, bPut, bAsg, bAug, bNil, bCnt, bBrk, evB, evTru, truD, evNotT, evAndT, evOrT, ev1, ev2, evVar, evC, evTup, evLst, evCons, evNil, evIf, evAnd, evNot, evOrV, evSl, eoNone, eoSome, evCall, evCallIo, evCallFr, evMt, evM2, evStar, evGet1, evGet2, evD0, evD1, evListRg, evTupRg, evLc, evDc, bFor, ivSeq, ivRng1, ivRng2, ivEnum, ivZip, ivKeys, dctAt, stayD, tYesA, peek, mv, mvs, res, putR, getO, putO, outs, gvN, gvT, gvCons, gvNil, noIo, wipeA, backA, List.replicate, N_q_pick, List.length_cons, List.length_nil, List.cons_append, List.nil_append, List.getElem?_cons_zero, List.getElem?_cons_succ, List.set_cons_zero, List.set_cons_succ, Option.map_some, List.map_cons, List.map_nil, List.append_nil, Nat.zero_le, Nat.reduceAdd, Nat.reduceSub, Nat.reduceEqDiff, if_true, true_and, and_true, and_self, decide_true, decide_false, Bool.not_true, Bool.not_false, reduceIte, Bool.false_eq_true, gList, gLen, hc, hr, e]
  · rintro x rest A ⟨d', s, left, ys, rfl, hs, u', pm, ln⟩
    have hlen := pm.length_eq
    simp only [List.length_append, List.length_cons] at hlen ln
    have hp : 0 < left.length := by omega
    obtain ⟨v, d2, e, v0, v1, u2⟩ := take_ok (n := (left.length : Int)) u' (by omega) (by omega) (by omega)
    have hv : v.toNat < left.length := by omega
    have e2 : fPop left (.int v) = some (left[v.toNat], left.eraseIdx v.toNat) := by
      have : seqIndex? v left.length = some v.toNat := by
        unfold seqIndex?
        have h1 : ¬ v < 0 := by omega
        have h2 : v < (left.length : Int) := v1
        simp [h1, h2, v0]
      simp only [fPop, this]
      rw [if_pos ⟨by omega, by omega⟩]
      simp [hv]
    have e3 : fAppend ys left[v.toNat] = some (.non, ys ++ [left[v.toNat]]) := by
      unfold fAppend
      rw [if_pos (by simp only [LIM]; omega)]
    have es : ∃ A1, gvN 3 x [.io d', .val (.lst xs), .val (.int m), s, .own (.lst left), .own (.lst ys)] = some A1 ∧ A1 = [.io d', .val (.lst xs), .val (.int m), .val x, .own (.lst left), .own (.lst ys)] := by
      refine ⟨_, ?_, rfl⟩
      cases s with
      | io y => exact absurd rfl (hs y)
      | _ => rfl
    obtain ⟨A1, es, rfl⟩ := es
    refine ⟨_, _, es, .inl ?_, d2, .val x, left.eraseIdx v.toNat, ys ++ [left[v.toNat]], rfl, (fun y h => by cases h), u2.mono (by simp; omega), ?_, by simp; omega⟩
    · simp only [gOf, bSeq, bIf, bSet, bPar, bRet, bRetN, bExp, bPut, bAsg, bAug, bNil, bCnt, bBrk, evB, evTru, truD, evNotT, evAndT, evOrT, ev1, ev2, evVar, evC, evTup, evLst, evCons, evNil, evIf, evAnd, evNot, evOrV, evSl, eoNone, eoSome, evCall, evCallIo, evCallFr, evMt, evM2, evStar, evGet1, evGet2, evD0, evD1, evListRg, evTupRg, evLc, evDc, bFor, ivSeq, ivRng1, ivRng2, ivEnum, ivZip, ivKeys, dctAt, stayD, tYesA, peek, mv, mvs, res, putR, getO, putO, outs, gvN, gvT, gvCons, gvNil, noIo, wipeA, backA, List.replicate, List.length_cons, List.length_nil, List.cons_append, List.nil_append, List.getElem?_cons_zero, List.getElem?_cons_succ, List.set_cons_zero, List.set_cons_succ, Option.map_some, List.map_cons, List.map_nil, List.append_nil, Nat.zero_le, Nat.reduceAdd, Nat.reduceSub, Nat.reduceEqDiff, if_true, true_and, and_true, and_self, decide_true, decide_false, Bool.not_true, Bool.not_false, reduceIte, Bool.false_eq_true, gLen, e, e2, e3]
    · refine List.Perm.trans ?_ pm
      rw [List.append_assoc]
      refine List.Perm.append_left _ ?_
      exact perm_erase hv
end K72
/-! M3: turnings, boxes. -/
namespace K72
open PySem Z
open PyProof.Rows hiding St
local macro_rules | `(tactic| walk_at "wx") => `(tactic| first
  | ((with_reducible apply we_var); rfl)
  | (with_reducible apply we_c)
  | (with_reducible apply we_f)
  | (with_reducible apply we_2)
  | (with_reducible apply we_1)
  | (with_reducible apply we_m2)
  | ((with_reducible apply PL.mk); rfl)
  | ((with_reducible apply GO.mk); rfl)
  | ((with_reducible apply CA.mk); rfl)
  | (with_reducible apply CIO.mk)
  | ((with_reducible apply CI2.mk); rfl; rfl)
  | (with_reducible apply CFR.mk)
  | ((with_reducible apply CF2.mk); rfl)
  | ((with_reducible apply CK.io); rfl; rfl)
  | ((with_reducible apply CK.own); rfl; rfl)
  | ((with_reducible apply CKF.mk); rfl)
  | ((with_reducible apply MT.app); rfl; (first | exact ltLit rfl | rotate_left))
  | ((with_reducible apply MT.ext); rfl; rotate_left)
  | (with_reducible apply we_tup)
  | (with_reducible apply we_lst)
  | (with_reducible apply wes_nil)
  | ((with_reducible apply wes_var); rfl)
  | (with_reducible apply wes_c)
  | (with_reducible apply wes_cons)
  | (with_reducible apply we_call)
  | (with_reducible apply we_callIo)
  | (with_reducible apply we_callFr)
  | (with_reducible apply we_sl)
  | (with_reducible apply wo_none)
  | (with_reducible apply wo_some)
  | (with_reducible apply we_listRg)
  | (with_reducible apply we_tupRg)
  | (with_reducible apply we_d0)
  | (with_reducible apply we_d1)
  | ((with_reducible apply we_mtK); rfl)
  | ((with_reducible apply we_mtP); rfl)
  | (with_reducible apply we_and)
  | (with_reducible apply we_not)
  | (with_reducible apply wt_B)
  | (with_reducible apply wt_tru)
  | (with_reducible apply wt_not)
  | (with_reducible apply wt_and)
  | (with_reducible apply wt_or)
  | (with_reducible apply wi_seq)
  | (with_reducible apply wi_rng1)
  | (with_reducible apply wi_enum)
  | (with_reducible apply wi_zipL)
  | (with_reducible apply wg_n)
  | ((with_reducible apply wg_t); rfl)
  | (with_reducible apply wgs_nil)
  | (with_reducible apply wgs_cons)
  | (with_reducible apply wb_nil)
  | (with_reducible apply wb_cnt)
  | (with_reducible apply wb_seq)
  | (with_reducible apply wb_exp)
  | (with_reducible apply wb_ret)
  | (with_reducible apply wb_set)
  | (with_reducible apply wb_asg)
  | (with_reducible apply wb_par)
  | (with_reducible apply wb_put)
  | (with_reducible apply nx_nx)
  | (with_reducible apply nx_rt)
  | (with_reducible apply ret_d)
  | (with_reducible apply ret_fr)
  | ((with_reducible apply PK.mk); rfl)
  | (with_reducible apply PV.z)
  | (with_reducible apply PV.z1)
  | (with_reducible apply PV.z2)
  | (with_reducible apply PV.z3)
  | (with_reducible apply PV.s4)
  | (with_reducible apply PV.s)
  | ((with_reducible apply PU.d); rfl; (first | with_reducible assumption | exact rfl))
  | ((with_reducible apply PU.fr); rfl; (first | with_reducible assumption | exact rfl))
  | (with_reducible apply MV.d)
  | (with_reducible apply MV.fr)
  | ((with_reducible apply MV.val); rfl)
  | ((with_reducible apply MV.own); rfl)
  | (with_reducible apply MVs.nil)
  | ((with_reducible apply MVs.cval); rfl)
  | (with_reducible apply MVs.cd)
  | (with_reducible apply MVs.cons)
  | (with_reducible apply RS.d)
  | (with_reducible apply RS.fr)
  | (with_reducible apply RS.sl)
  | (with_reducible apply RetOk.d)
  | (with_reducible apply RetOk.fr)
  | ((with_reducible apply RetOk.val); rfl)
  | ((with_reducible apply RetOk.own); rfl)
  | ((with_reducible apply wi_keysO); rfl)
  | ((with_reducible apply wi_keysV); rfl)
  | (with_reducible apply o_ixt0)
  | (with_reducible apply o_ixt1)
  | (with_reducible apply o_ixt2)
  | (with_reducible apply o_ixl0)
  | (with_reducible apply o_ixl1)
  | (with_reducible apply o_ixl2)
  | (with_reducible apply o_addI)
  | (with_reducible apply o_subI)
  | (with_reducible apply o_cmpI)
  | (with_reducible apply o_eqI)
  | (with_reducible apply o_neI)
  | (with_reducible apply o_lenL)
  | (with_reducible apply o_lenT)
  | (with_reducible apply o_lenX)
  | (with_reducible apply o_tupL)
  | (with_reducible apply o_tupT)
  | (with_reducible apply o_lstL)
  | (with_reducible apply o_lstT)
  | (with_reducible apply o_intI)
  | (with_reducible apply o_intB)
  | (with_reducible apply o_absI)
  | (with_reducible apply o_negI)
  | (with_reducible apply o_max2)
  | (with_reducible apply o_min2)
  | (refine ⟨limLit rfl, ?_⟩)
  | (with_reducible refine ⟨_, rfl, ?_⟩)
  | (with_reducible refine ⟨_, .inl rfl, ?_⟩)
  | (with_reducible refine ⟨_, .inr rfl, ?_⟩))
local macro_rules | `(tactic| walk_at "wn") => `(tactic| ((try simp only [WIP, wipeA, backA, List.getElem?_cons_succ, List.getElem?_cons_zero, List.set_cons_zero, List.set_cons_succ, List.length_cons, List.length_nil, Nat.reduceAdd, Nat.reduceSub, List.replicate, List.cons_append, List.nil_append]); first | done | rfl))
local macro_rules | `(tactic| walk_at "nb") => `(tactic| (simp only [backA, wipeA, List.getElem?_cons_succ, List.getElem?_cons_zero, List.set_cons_zero, List.set_cons_succ]))
def fcD (fs : List Nat) : List D := fs.map fun k => .int ((k : Nat) : Int)
def toNatD : D → Nat
  | .int i => i.toNat
  | _ => 0
theorem perm_emb {α : Type} {emb : α → D} {un : D → α} (hu : ∀ a, un (emb a) = a) {ys : List D} {l : List α} (h : ys.Perm (l.map emb)) : ∃ l' : List α, ys = l'.map emb ∧ l'.Perm l := by
  refine ⟨ys.map un, ?_, ?_⟩
  · rw [List.map_map]
    refine (List.map_id ys).symm.trans (List.map_congr_left fun y hy => ?_)
    obtain ⟨x, _, rfl⟩ := List.mem_map.mp (h.mem_iff.mp hy)
    show emb x = emb (un (emb x))
    rw [hu]
  · have := h.map un
    refine this.trans (.of_eq ?_)
    rw [List.map_map]
    exact (List.map_congr_left fun x _ => hu x).trans (List.map_id l)
theorem perm_fc {ys : List D} {l : List Nat} (h : ys.Perm (fcD l)) : ∃ l', ys = fcD l' ∧ l'.Perm l := perm_emb (un := toNatD) (fun a => by simp [toNatD]) h
theorem limOk {α : Type} {xs : List α} (h : xs.length < 16777216) : xs.length ≤ LIM := by unfold LIM; omega
theorem all2_right {P : D → D → Prop} {xs ys : List D} (h : All2 P xs ys) {Q : D → Prop} (k : ∀ x y, P x y → Q y) : ∀ y ∈ ys, Q y := fun y hy => let ⟨x, _, p⟩ := h.right y hy; k x y p
theorem turning_ok {d : D} {k n : Nat} (u : Ur k d) (hk : k + n ≤ 1099511627776) (hn : n < 1000) : ∃ fs d', g_q_turning [.io d, .val (.int (n : Nat))] = some (.d (.tup (fcD fs)), [.io d', .val (.int (n : Nat))]) ∧ fs.Perm (List.range n) ∧ Ur (k + n) d' := by
  have hl : ((List.range n).map fun k => D.int ((k : Nat) : Int)).length = n := by simp
  obtain ⟨ys, d', e, e2, ⟨rest, pm⟩, u'⟩ := pick_ok (xs := (List.range n).map fun k => D.int ((k : Nat) : Int)) (m := (n : Nat)) u (by rw [hl]; exact hk) (by rw [hl]; omega) (by omega) (by omega)
  rw [hl] at u' e2
  have hr : rest = [] := by
    have := pm.length_eq
    simp only [List.length_append, hl] at this
    exact List.length_eq_zero_iff.mp (by omega)
  subst hr
  rw [List.append_nil] at pm
  obtain ⟨fs, rfl, pf⟩ := perm_fc pm
  have : WF g_q_turning [.io d, .val (.int (n : Nat))] fun r as' => r = .d (.tup (fcD fs)) ∧ as' = [.io d', .val (.int (n : Nat))] := by
    refine wf_of (by walk_at "wn") ?_
    unfold b_q_turning
    repeat walk_at "wx"
    refine ⟨by omega, ?_⟩
    repeat walk_at "wx"
    refine ⟨limOk (by simp; omega), ?_⟩
    repeat walk_at "wx"
    refine WF.fr e ?_
    repeat walk_at "wx"
    exact ⟨rfl, rfl⟩
  rcases this with ⟨z, as', e1, e2, rfl⟩ | ⟨z, as', e1, e2, rfl⟩
  · cases e2; exact ⟨fs, d', e1, pf, u'⟩
  · cases e2
/-! ### boxes -/
def TAGS : List Str := ["-", "a", "b", "b.1", "c", "d", "e", "f", "g", "k", "m2", "n0", "n1", "n2", "n3", "n4", "p", "q", "r", "s", "tw", "z"]
/-- the NAME with a number; 0 stands for nothing -/
def tg (i : Nat) : Str := TAGS.getD i "-"
structure Row where
  tag : Nat
  faces : List Nat
  sent : List Nat
structure Box where
  many : Nat
  rows : List Row
@[reducible] def tD (i : Nat) : D := .str (tg i)
def seD (ss : List Nat) : List D := ss.map tD
@[reducible] def Row.d (r : Row) : D := .tup [tD r.tag, .tup (fcD r.faces), .tup (seD r.sent)]
@[reducible] def Box.d (b : Box) : D := .tup [.int (b.many : Nat), .tup (b.rows.map Row.d)]
def Box.tags (b : Box) : List Nat := b.rows.map (·.tag)
structure Row.Ok (n : Nat) (tags : List Nat) (r : Row) : Prop where
  perm : r.faces.Perm (List.range n)
  len : r.sent.length = n
  ends : ∀ x ∈ r.sent, x = 0 ∨ x ∈ tags
  pos : 0 < r.tag
  known : r.tag < 22
structure Box.Ok (b : Box) : Prop where
  many : b.many = 2 ∨ b.many = 3
  rows : ∀ r ∈ b.rows, r.Ok b.many b.tags
  sorted : b.tags.Pairwise (· < ·)
  few : b.rows.length ≤ 5
def Box.NoTw (b : Box) : Prop := (∀ r ∈ b.rows, r.tag ≠ 20) ∧ 0 < b.rows.length
instance (b : Box) : Decidable b.NoTw := inferInstanceAs (Decidable ((∀ r ∈ b.rows, r.tag ≠ 20) ∧ 0 < b.rows.length))
theorem tg_ok : ∀ i, PyData.strOk (tg i) = true := by
  have h : ∀ s ∈ TAGS, PyData.strOk s = true := by decide +kernel
  intro i
  unfold tg
  rw [List.getD_eq_getElem?_getD]
  cases e : TAGS[i]? with
  | none => exact (by decide +kernel : PyData.strOk "-" = true)
  | some s => exact h s (List.mem_of_getElem? e)
theorem tg_inj : ∀ i j, i < 22 → j < 22 → tg i = tg j → i = j := by
  have : ∀ i ∈ List.range 22, ∀ j ∈ List.range 22, tg i = tg j → i = j := by decide +kernel
  exact fun i j hi hj => this i (List.mem_range.mpr hi) j (List.mem_range.mpr hj)
theorem tg_le : ∀ i j, i < 22 → j < 22 → dleD (tD i) (tD j) = decide (i ≤ j) := by
  have : ∀ i ∈ List.range 22, ∀ j ∈ List.range 22, dleD (tD i) (tD j) = decide (i ≤ j) := by decide +kernel
  exact fun i j hi hj => this i (List.mem_range.mpr hi) j (List.mem_range.mpr hj)
theorem tD_ok {n i : Nat} : okE n (tD i) = true := by
  cases n <;> simp [okE, tg_ok]
theorem tD_eq {i j : Nat} (hi : i < 22) (hj : j < 22) : (tD i = tD j) ↔ i = j := ⟨fun h => tg_inj i j hi hj (D.str.inj h), fun h => by rw [h]⟩
/-- names are sorted as their numbers are -/
theorem sort_tags {l : List Nat} (h : ∀ i ∈ l, i < 22) (hl : l.length ≤ 1000) : sortOk (l.map tD) = true ∧ sortD (l.map tD) = (l.mergeSort (fun a b => decide (a ≤ b))).map tD := by
  constructor
  · unfold sortOk
    simp only [Bool.and_eq_true, Bool.or_eq_true, decide_eq_true_eq]
    refine ⟨⟨⟨?_, ?_⟩, .inr ?_⟩, limOk (by simp; omega)⟩
    · rw [List.all_eq_true]
      intro x hx
      obtain ⟨t, _, rfl⟩ := List.mem_map.mp hx
      exact tD_ok
    · unfold alikeD
      rw [List.all_eq_true]
      intro x hx
      rw [List.all_eq_true]
      intro y hy
      obtain ⟨t, _, rfl⟩ := List.mem_map.mp hx
      obtain ⟨t', _, rfl⟩ := List.mem_map.mp hy
      simp [toP, PySem.W.alike]
    · rw [List.all_eq_true]
      intro x hx
      obtain ⟨t, _, rfl⟩ := List.mem_map.mp hx
      rfl
  · unfold sortD
    exact (List.map_mergeSort fun a ha b hb => (tg_le a b (h a ha) (h b hb)).symm).symm
theorem msort_lt {l : List Nat} (nd : l.Nodup) : (l.mergeSort (fun a b => decide (a ≤ b))).Pairwise (· < ·) ∧ (l.mergeSort (fun a b => decide (a ≤ b))).Perm l := by
  have p := List.mergeSort_perm l (fun a b => decide (a ≤ b))
  have s := List.pairwise_mergeSort (le := fun a b : Nat => decide (a ≤ b)) (fun a b c h k => by simp at *; omega) (fun a b => by simp; omega) l
  refine ⟨?_, p⟩
  have nd' := p.nodup_iff.mpr nd
  refine (s.and nd').imp fun {a b} h => ?_
  have := of_decide_eq_true h.1
  have h2 : a ≠ b := h.2
  omega
theorem msort_id {l : List Nat} (h : l.Pairwise (· < ·)) : l.mergeSort (fun a b => decide (a ≤ b)) = l := List.mergeSort_of_pairwise (h.imp fun {a b} h => decide_eq_true (by omega))
/-! M4: the known boxes. -/
open PySem Z
open PyProof.Rows hiding St
theorem fc_at {fs : List Nat} {k : Nat} {i : Int} (hi : i = k) (h : k < fs.length) : L2.atI (fcD fs) i = some (.int ((fs.getD k 0 : Nat) : Int)) := by
  rw [atI_nat hi (by unfold fcD; simpa using h)]
  simp [fcD, List.getD, h]
theorem se_at {ss : List Nat} {k : Nat} {i : Int} (hi : i = k) (h : k < ss.length) : L2.atI (seD ss) i = some (tD (ss.getD k 0)) := by
  rw [atI_nat hi (by unfold seD; simpa using h)]
  simp [seD, List.getD, h]
theorem getD_lt {fs : List Nat} {n k : Nat} (h : fs.Perm (List.range n)) (hk : k < n) : fs.getD k 0 < n := by
  have hl : fs.length = n := by rw [h.length_eq, List.length_range]
  have : fs.getD k 0 ∈ fs := by
    rw [List.getD_eq_getElem?_getD, List.getElem?_eq_getElem (by omega)]
    exact List.getElem_mem _
  exact List.mem_range.mp (h.mem_iff.mp this)
theorem map_getD {α : Type} (l : List α) (z : α) {n : Nat} (h : l.length = n) : (List.range n).map (fun k => l.getD k z) = l := by
  subst h
  refine List.ext_getElem (by simp) fun i h1 h2 => ?_
  simp [List.getD, h2]
/-- what a renamed row's places hold -/
def t3 (fs faces sent : List Nat) (k : Nat) : Nat × Nat × Nat := (fs.getD k 0, fs.getD (faces.getD k 0) 0, sent.getD k 0)
@[reducible] def e3 (t : Nat × Nat × Nat) : D := .tup [.int (t.1 : Nat), .int (t.2.1 : Nat), tD t.2.2]
def u3 : D → Nat × Nat × Nat
  | .tup [.int a, .int b, .str x] => (a.toNat, b.toNat, TAGS.idxOf x)
  | _ => (0, 0, 0)
theorem tg_idx : ∀ i, i < 22 → TAGS.idxOf (tg i) = i := by
  have : ∀ i ∈ List.range 22, TAGS.idxOf (tg i) = i := by decide +kernel
  exact fun i hi => this i (List.mem_range.mpr hi)
theorem perm_emb' {α : Type} {emb : α → D} {un : D → α} {ys : List D} {l : List α} (hu : ∀ a ∈ l, un (emb a) = a) (h : ys.Perm (l.map emb)) : ∃ l' : List α, ys = l'.map emb ∧ l'.Perm l := by
  refine ⟨ys.map un, ?_, ?_⟩
  · rw [List.map_map]
    refine (List.map_id ys).symm.trans (List.map_congr_left fun y hy => ?_)
    obtain ⟨x, hx, rfl⟩ := List.mem_map.mp (h.mem_iff.mp hy)
    show emb x = emb (un (emb x))
    rw [hu x hx]
  · have := h.map un
    refine this.trans (.of_eq ?_)
    rw [List.map_map]
    exact (List.map_congr_left fun x hx => hu x hx).trans (List.map_id l)
theorem sorted3 (ts : List (Nat × Nat × Nat)) (hs : ∀ t ∈ ts, t.2.2 < 22) (hl : ts.length ≤ 1000) : sortOk (ts.map e3) = true ∧ ∃ us : List (Nat × Nat × Nat), sortD (ts.map e3) = us.map e3 ∧ us.Perm ts := by
  refine ⟨?_, perm_emb' (un := u3) (fun t ht => by simp [u3, e3, tD, tg_idx _ (hs t ht)]) (sortD_perm _)⟩
  unfold sortOk
  simp only [Bool.and_eq_true, Bool.or_eq_true, decide_eq_true_eq]
  refine ⟨⟨⟨?_, ?_⟩, .inl ?_⟩, ?_⟩
  · rw [List.all_eq_true]
    intro x hx
    obtain ⟨t, ht, rfl⟩ := List.mem_map.mp hx
    simp [e3, okE, tg_ok]
  · unfold alikeD
    rw [List.all_eq_true]
    intro x hx
    rw [List.all_eq_true]
    intro y hy
    obtain ⟨t, ht, rfl⟩ := List.mem_map.mp hx
    obtain ⟨t', ht', rfl⟩ := List.mem_map.mp hy
    simp [e3, toP, toPs, PySem.W.alike, PySem.W.alikeAll]
  · rw [List.all_eq_true]
    intro x hx
    obtain ⟨t, ht, rfl⟩ := List.mem_map.mp hx
    rfl
  · rw [List.length_map]
    exact limOk (by omega)
def KB : List Box := [⟨2, [⟨4, [1, 0], [0, 4]⟩]⟩, ⟨3, [⟨4, [1, 2, 0], [0, 0, 4]⟩]⟩, ⟨2, [⟨4, [1, 0], [4, 0]⟩]⟩,
  ⟨3, [⟨16, [1, 0, 2], [0, 0, 16]⟩, ⟨17, [0, 2, 1], [17, 0, 0]⟩, ⟨18, [2, 1, 0], [0, 18, 0]⟩]⟩, ⟨2, [⟨1, [1, 0], [0, 0]⟩, ⟨2, [0, 1], [2, 1]⟩]⟩]
instance (n : Nat) (tags : List Nat) (r : Row) : Decidable (r.Ok n tags) :=
  decidable_of_iff (r.faces.Perm (List.range n) ∧ r.sent.length = n ∧ (∀ x ∈ r.sent, x = 0 ∨ x ∈ tags) ∧ 0 < r.tag ∧ r.tag < 22) ⟨fun ⟨a, b, c, d, e⟩ => ⟨a, b, c, d, e⟩, fun ⟨a, b, c, d, e⟩ => ⟨a, b, c, d, e⟩⟩
instance (b : Box) : Decidable b.Ok :=
  decidable_of_iff ((b.many = 2 ∨ b.many = 3) ∧ (∀ r ∈ b.rows, r.Ok b.many b.tags) ∧ b.tags.Pairwise (· < ·) ∧ b.rows.length ≤ 5) ⟨fun ⟨a, b, c, d⟩ => ⟨a, b, c, d⟩, fun ⟨a, b, c, d⟩ => ⟨a, b, c, d⟩⟩
theorem KB_tw : ∀ b ∈ KB, b.NoTw := by decide +kernel
theorem KB_ok : ∀ b ∈ KB, b.Ok ∧ b.rows.length ≤ 3 := by decide +kernel
/-- a row under other faces -/
structure RowAs (n : Nat) (r r' : Row) : Prop where
  tag : r'.tag = r.tag
  perm : r'.faces.Perm (List.range n)
  sent : r'.sent.Perm r.sent
theorem known_ok {d : D} {k : Nat} (u : Ur k d) (hk : k + 10 ≤ 1099511627776) : ∃ b d', g_q_known_kit [.io d] = some (.d (Box.d b), [.io d']) ∧ b.Ok ∧ b.rows.length ≤ 3 ∧ b.NoTw ∧ Ur (k + 10) d' := by
  obtain ⟨y, d1, e1, hy, u1⟩ := of_ok (X := .lst (KB.map Box.d)) (.inl rfl) u (by omega) (by simp [KB]) (by simp [KB])
  obtain ⟨kb, hkb, rfl⟩ := List.mem_map.mp hy
  obtain ⟨ko, kl⟩ := KB_ok kb hkb
  have hm : kb.many ≤ 3 := by have := ko.many; omega
  obtain ⟨fs, d2, e2, pf, u2⟩ := turning_ok (n := kb.many) u1 (by omega) (by omega)
  have lf : fs.length = kb.many := by rw [pf.length_eq, List.length_range]
  have main : WF g_q_known_kit [.io d] fun r as' => ∃ rows : List Row, r = .d (Box.d ⟨kb.many, rows⟩) ∧ as' = [.io d2] ∧ rows.length = kb.rows.length ∧ rows.map (·.tag) = kb.rows.map (·.tag) ∧ ∀ r' ∈ rows, ∃ r ∈ kb.rows, RowAs kb.many r r' := by
    refine wf_of (by walk_at "wn") ?_
    unfold b_q_known_kit
    repeat walk_at "wx"
    refine o_addL (by simp [LIM]) ?_
    repeat walk_at "wx"
    refine WF.d e1 ?_
    repeat walk_at "wx"
    refine WF.d e2 ?_
    repeat walk_at "wx"
    unfold l_q_known_kit_1
    refine wb_forL kb.rows Row.d (fun dn _ A => ∃ (s1 s2 s6 s7 s8 s9 : SV) (xs : List D) (rows : List Row), A = [.io d2, s1, s2, .val (Box.d kb), .val (.tup (fcD fs)), .own (.lst xs), s6, s7, s8, s9, .un, .un] ∧ xs = rows.map Row.d ∧ NI s6 = true ∧ NI s7 = true ∧ NI s8 = true ∧ NI s9 = true
      ∧ rows.length = dn.length ∧ rows.map (·.tag) = dn.map (·.tag) ∧ ∀ r' ∈ rows, ∃ r ∈ dn, RowAs kb.many r r') ?_
    repeat walk_at "wx"
    refine ⟨rfl, ⟨_, _, _, _, _, _, _, [], rfl, rfl, rfl, rfl, rfl, rfl, rfl, rfl, fun r h => nomatch h⟩, ?_, ?_⟩
    · rintro dn r rest A hsplit ⟨s1, s2, s6, s7, s8, s9, xs, rows, rfl, rfl, h6, h7, h8, h9, hl, ht, hr⟩
      have hrm : r ∈ kb.rows := by rw [hsplit]; exact List.mem_append.mpr (.inr List.mem_cons_self)
      have ro := ko.rows r hrm
      have lc : r.faces.length = kb.many := by rw [ro.perm.length_eq, List.length_range]
      have hll : rows.length ≤ 3 := by
        have := congrArg List.length hsplit
        simp at this; omega
      have hs12 : ∀ k, k < kb.many → r.sent.getD k 0 < 22 := fun k hk => by
        have hm : r.sent.getD k 0 ∈ r.sent := PL.getD_mem 0 (by rw [ro.len]; exact hk)
        rcases ro.ends _ hm with e | e
        · omega
        · obtain ⟨r2, hr2, e2⟩ := List.mem_map.mp e
          have := (ko.rows r2 hr2).known
          omega
      obtain ⟨so, us, es, pu⟩ := sorted3 ((List.range kb.many).map (t3 fs r.faces r.sent)) (fun t ht => by
        obtain ⟨k, hk, rfl⟩ := List.mem_map.mp ht
        exact hs12 k (List.mem_range.mp hk)) (by simp; omega)
      have ul : us.length = kb.many := by rw [pu.length_eq]; simp
      repeat walk_at "wx"
      unfold c_q_known_kit_1
      refine we_lc (List.range kb.many) (fun k => .int ((k : Nat) : Int)) (e3 ∘ t3 fs r.faces r.sent) ?_
      repeat walk_at "wx"
      refine ⟨by omega, _, _, by walk_at "wn", by walk_at "wn", rfl, limOk (by simp; omega), rfl, fun k hk => ?_, ?_⟩
      · have hk := List.mem_range.mp hk
        repeat walk_at "wx"
        refine o_ixt (fc_at rfl (by omega)) ?_
        repeat walk_at "wx"
        refine o_ixt (fc_at rfl (by omega)) ?_
        repeat walk_at "wx"
        refine o_ixt (fc_at rfl (by rw [lf]; exact getD_lt ro.perm hk)) ?_
        repeat walk_at "wx"
        refine o_ixt (se_at rfl (by rw [ro.len]; exact hk)) ?_
        repeat walk_at "wx"
        exact ⟨rfl, by walk_at "wn"⟩
      · repeat walk_at "wx"
        rw [List.map_map] at so es
        refine o_sorted so ?_
        rw [es]
        repeat walk_at "wx"
        unfold c_q_known_kit_3
        refine we_lc us e3 (fun t => .int (t.2.1 : Nat)) ?_
        repeat walk_at "wx"
        refine ⟨_, _, by walk_at "wn", by walk_at "wn", rfl, limOk (by omega), rfl, fun t ht => ?_, ?_⟩
        · repeat walk_at "wx"
          exact ⟨rfl, by walk_at "wn"⟩
        · repeat walk_at "wx"
          unfold c_q_known_kit_2
          refine we_lc us e3 (fun t => tD t.2.2) ?_
          repeat walk_at "wx"
          refine ⟨_, _, by walk_at "wn", by walk_at "wn", rfl, limOk (by omega), rfl, fun t ht => ?_, ?_⟩
          · repeat walk_at "wx"
            exact ⟨rfl, by walk_at "wn"⟩
          · repeat walk_at "wx"
            refine ⟨_, _, _, _, _, _, _, rows ++ [⟨r.tag, us.map (·.2.1), us.map (·.2.2)⟩], rfl, ?_, rfl, rfl, rfl, rfl, by simp [hl], by simp [ht], fun r' hr' => ?_⟩
            · simp [Row.d, fcD, seD, List.map_map, Function.comp_def]
            · rcases List.mem_append.mp hr' with hr' | hr'
              · obtain ⟨r0, h0, q⟩ := hr r' hr'
                exact ⟨r0, List.mem_append.mpr (.inl h0), q⟩
              · rw [List.mem_singleton.mp hr']
                refine ⟨r, List.mem_append.mpr (.inr List.mem_cons_self), rfl, ?_, ?_⟩
                · refine (pu.map (·.2.1)).trans ?_
                  rw [List.map_map]
                  have e : (List.range kb.many).map ((fun t : Nat × Nat × Nat => t.2.1) ∘ t3 fs r.faces r.sent) = r.faces.map fun f => fs.getD f 0 := by
                    have := congrArg (List.map fun f => fs.getD f 0) (map_getD r.faces 0 lc)
                    rw [List.map_map] at this
                    exact this
                  show ((List.range kb.many).map ((fun t : Nat × Nat × Nat => t.2.1) ∘ t3 fs r.faces r.sent)).Perm _
                  rw [e]
                  refine (ro.perm.map fun f => fs.getD f 0).trans ?_
                  rw [map_getD fs 0 lf]
                  exact pf
                · refine (pu.map (·.2.2)).trans ?_
                  rw [List.map_map]
                  have e := map_getD r.sent 0 ro.len
                  exact .of_eq e
            · simp only [List.length_map]; unfold LIM; omega
    · rintro A ⟨s1, s2, s6, s7, s8, s9, xs, rows, rfl, rfl, h6, h7, h8, h9, hl, ht, hr⟩
      repeat walk_at "wx"
      exact ⟨rows, rfl, rfl, hl, ht, hr⟩
  have fin : ∀ r as', (∃ rows : List Row, r = R.d (Box.d ⟨kb.many, rows⟩) ∧ as' = [SV.io d2] ∧ rows.length = kb.rows.length ∧ rows.map (·.tag) = kb.rows.map (·.tag) ∧ ∀ r' ∈ rows, ∃ r ∈ kb.rows, RowAs kb.many r r') → g_q_known_kit [.io d] = some (r, as') → ∃ b d', g_q_known_kit [.io d] = some (.d (Box.d b), [.io d']) ∧ b.Ok ∧ b.rows.length ≤ 3 ∧ b.NoTw ∧ Ur (k + 10) d' := by
    rintro r as' ⟨rows, rfl, rfl, hl, ht, hr⟩ e
    refine ⟨⟨kb.many, rows⟩, d2, e, ⟨ko.many, fun r' hr' => ?_, ?_, ?_⟩, ?_, ⟨(fun r' hr' => let ⟨r, hrm, q⟩ := hr r' hr'; q.tag ▸ (KB_tw kb hkb).1 r hrm), by have := (KB_tw kb hkb).2; show 0 < rows.length; omega⟩, u2.mono (by omega)⟩
    · obtain ⟨r, hrm, q⟩ := hr r' hr'
      have ro := ko.rows r hrm
      refine ⟨q.perm, by rw [q.sent.length_eq]; exact ro.len, fun x hx => ?_, by rw [q.tag]; exact ro.pos, by rw [q.tag]; exact ro.known⟩
      have := ro.ends x (q.sent.mem_iff.mp hx)
      show x = 0 ∨ x ∈ rows.map (·.tag)
      rw [ht]
      exact this
    · show (rows.map (·.tag)).Pairwise _
      rw [ht]
      exact ko.sorted
    · show rows.length ≤ 5
      omega
    · show rows.length ≤ 3
      omega
  rcases main with ⟨z, as', e, q⟩ | ⟨z, as', e, q⟩
  · exact fin _ _ q e
  · exact fin _ _ q e
/-! M5: breath. -/
open PySem Z
open PyProof.Rows hiding St
/-- a dict from names to numbers -/
@[reducible] def dI (ps : List (Nat × Int)) : D := .dct (ps.map fun p => tD p.1) (ps.map fun p => .int p.2)
theorem flat_t {α : Type} (ps : List α) (f : α → Nat) : flatKs (ps.map fun p => tD (f p)) = true := by
  unfold flatKs
  rw [List.all_eq_true]
  intro x hx
  obtain ⟨p, _, rfl⟩ := List.mem_map.mp hx
  rfl
theorem zip_map2 {α : Type} (ps : List α) (f g : α → D) : (ps.map f).zip (ps.map g) = ps.map fun p => (f p, g p) := by
  induction ps with
  | nil => rfl
  | cons p ps ih => simp [ih]
theorem put_dI {ps : List (Nat × Int)} {i : Nat} {v : Int} (h : ps.length < 1000) : ∃ ps', gPut (dI ps) (tD i) (.int v) = some (dI ps') ∧ ps'.length ≤ ps.length + 1 := by
  have e : gPut (dI ps) (tD i) (.int v) = some (.dct ((putP (ps.map fun p => (tD p.1, D.int p.2)) (tD i) (.int v)).map (·.1)) ((putP (ps.map fun p => (tD p.1, D.int p.2)) (tD i) (.int v)).map (·.2))) := by
    simp only [gPut, flat_t, zip_map2]
    rw [if_pos ⟨rfl, by simp only [List.length_map]; unfold LIM; omega⟩]
  rw [e]
  unfold putP
  split
  · refine ⟨ps.map fun p => if tD p.1 = tD i then (p.1, v) else p, ?_, by simp⟩
    simp only [dI, List.map_map]
    congr 2
    · refine List.map_congr_left fun p _ => ?_
      simp only [Function.comp]
      split <;> rfl
    · refine List.map_congr_left fun p _ => ?_
      simp only [Function.comp]
      split <;> rfl
  · refine ⟨ps ++ [(i, v)], ?_, by simp⟩
    simp [dI, List.map_map, Function.comp_def]
theorem find_dI (i : Nat) : ∀ ps : List (Nat × Int), ∃ o : Option Int, findD (ps.map fun p => tD p.1) (ps.map fun p => .int p.2) (tD i) = o.map .int
  | [] => ⟨none, rfl⟩
  | p :: ps => by
    simp only [List.map_cons, findD]
    split
    · exact ⟨some p.2, rfl⟩
    · exact find_dI i ps
theorem get_dI {ps : List (Nat × Int)} {i : Nat} : ∃ o : Option Int, dgetD (dI ps) (tD i) = some (o.map .int) := by
  obtain ⟨o, h⟩ := find_dI i ps
  refine ⟨o, ?_⟩
  simp only [dgetD, flat_t]
  rw [h]
  rfl
theorem has_dI {ps : List (Nat × Int)} : ∀ p ∈ ps, ∃ v : Int, dgetD (dI ps) (tD p.1) = some (some (.int v)) := by
  intro p hp
  have : ∀ (ps : List (Nat × Int)), p ∈ ps → ∃ v : Int, findD (ps.map fun p => tD p.1) (ps.map fun p => .int p.2) (tD p.1) = some (.int v) := by
    intro ps hp
    induction ps with
    | nil => cases hp
    | cons q ps ih =>
      simp only [List.map_cons, findD]
      split
      · exact ⟨_, rfl⟩
      · rcases List.mem_cons.mp hp with rfl | hp
        · rename_i hne; exact absurd rfl hne
        · exact ih hp
  obtain ⟨v, e⟩ := this ps hp
  refine ⟨v, ?_⟩
  simp only [dgetD, flat_t]
  rw [e]
  rfl
theorem we_getI {A : SS} {ea ek : EV} {ps : List (Nat × Int)} {i : Nat} {Q : R → SS → Prop} (h1 : ∃ r, ea A = some (r, A) ∧ peek A r = some (dI ps)) (h2 : ∃ r, ek A = some (r, A) ∧ peek A r = some (tD i)) (q : ∀ v : Int, Q (.d (.int v)) A) : WE (evGet2 ea ek (evC (.int 0))) A Q := by
  obtain ⟨r1, e1, p1⟩ := h1
  obtain ⟨r2, e2, p2⟩ := h2
  obtain ⟨o, ho⟩ := get_dI (ps := ps) (i := i)
  refine we_get2 ⟨r1, A, e1, ⟨⟨_, _, p1⟩, r2, A, e2, _, A, rfl, _, p1, _, p2, _, ho, fun w hw => ?_, fun hn => ?_⟩⟩
  · cases o with
    | none => cases hw
    | some v => cases hw; exact q v
  · exact q 0
theorem breath_ok {b : Box} {t : Nat} (hr : b.rows.length ≤ 5) (hs : ∀ r ∈ b.rows, r.sent.length ≤ 3) : ∃ (n : Int) (as' : SS), g_q_breath [.val (Box.d b), .val (tD t)] = some (.d (.int n), as') := by
  have main : WF g_q_breath [.val (Box.d b), .val (tD t)] fun r as' => ∃ n : Int, r = .d (.int n) := by
    refine wf_of (by walk_at "wn") ?_
    unfold b_q_breath
    repeat walk_at "wx"
    refine ⟨⟨_, rfl⟩, ?_⟩
    repeat walk_at "wx"
    unfold l_q_breath_3
    refine wb_for (fun _ A => ∃ (s2 s5 s6 s7 s4 : SV) (n : Int) (ps : List (Nat × Int)), A = [.val (Box.d b), .val (tD t), s2, .val (.int n), s4, s5, s6, s7] ∧ (s4 = .own (dI ps) ∨ s4 = .val (dI ps)) ∧ NI s2 = true ∧ NI s5 = true ∧ NI s6 = true ∧ NI s7 = true) ?_
    refine WI.mk (xs := rngD 0 12) (A' := [.val (Box.d b), .val (tD t), .un, .val (.int 1), .own (dI [(t, 1)]), .un, .un, .un]) rfl ?_
    refine ⟨⟨_, _, _, _, _, _, [(t, 1)], rfl, .inl rfl, rfl, rfl, rfl, rfl⟩, ?_, ?_⟩
    · rintro x rest A ⟨s2, s5, s6, s7, s4, n, ps, rfl, h4, h2, h5, h6, h7⟩
      repeat walk_at "wx"
      unfold l_q_breath_2
      refine wb_forL b.rows Row.d (fun dn _ A => ∃ (s6 s7 : SV) (qs : List (Nat × Int)), A = [.val (Box.d b), .val (tD t), .val x, .val (.int n), s4, .own (dI qs), s6, s7] ∧ NI s6 = true ∧ NI s7 = true ∧ qs.length ≤ 3 * dn.length) ?_
      repeat walk_at "wx"
      refine ⟨rfl, ⟨_, _, [], rfl, h6, h7, by simp⟩, ?_, ?_⟩
      · rintro dn r rest A hsp ⟨s6, s7, qs, rfl, h6, h7, hq⟩
        have hrm : r ∈ b.rows := by rw [hsp]; exact List.mem_append.mpr (.inr List.mem_cons_self)
        have hll : dn.length ≤ 5 := by
          have := congrArg List.length hsp
          simp at this; omega
        have hrs := hs r hrm
        repeat walk_at "wx"
        unfold l_q_breath_1
        refine wb_forL r.sent tD (fun dn' _ A => ∃ (s7 : SV) (qs : List (Nat × Int)), A = [.val (Box.d b), .val (tD t), .val x, .val (.int n), s4, .own (dI qs), .val r.d, s7] ∧ NI s7 = true ∧ qs.length ≤ 3 * dn.length + dn'.length) ?_
        repeat walk_at "wx"
        refine ⟨rfl, ⟨_, qs, rfl, h7, by simpa using hq⟩, ?_, ?_⟩
        · rintro dn' i rest A hsp' ⟨s7, qs, rfl, h7, hq⟩
          have hl3 : dn'.length ≤ 3 := by
            have := congrArg List.length hsp'
            simp at this; omega
          repeat walk_at "wx"
          refine wb_if ?_
          repeat walk_at "wx"
          refine o_neS (tg_ok i) (by decide +kernel) ?_
          repeat walk_at "wx"
          refine ⟨fun _ => ?_, fun _ => ?_⟩
          · repeat walk_at "wx"
            refine we_getI (ps := qs) (i := i) (by exact ⟨_, rfl, rfl⟩) (by exact ⟨_, rfl, rfl⟩) fun v => ?_
            refine we_getI (ps := ps) (i := r.tag) (by rcases h4 with rfl | rfl <;> exact ⟨_, rfl, rfl⟩) (by exact ⟨_, rfl, rfl⟩) fun w => ?_
            repeat walk_at "wx"
            obtain ⟨ps', e', hl'⟩ := put_dI (ps := qs) (i := i) (v := v + w) (by omega)
            refine PT.own rfl e' ?_
            repeat walk_at "wx"
            exact ⟨_, ps', rfl, rfl, by simp; omega⟩
          · repeat walk_at "wx"
            exact ⟨_, qs, rfl, rfl, by simp; omega⟩
        · rintro A ⟨s7, qs, rfl, h7, hq⟩
          exact ⟨_, _, qs, rfl, rfl, h7, by simp; omega⟩
      · rintro A ⟨s6, s7, qs, rfl, h6, h7, hq⟩
        repeat walk_at "wx"
        unfold c_q_breath_1
        refine we_lcI qs (fun p => tD p.1) (fun dn ys A => A = [.val (Box.d b), .val (tD t), .val x, .val (.int n), s4, .val (dI qs), .un, s7] ∧ ∃ ns : List Int, ys = ns.map .int) ?_
        repeat walk_at "wx"
        refine ⟨_, by walk_at "wn", rfl, limOk (by omega), ?_, ⟨rfl, [], rfl⟩, ?_, ?_⟩
        · cases s6 with
          | io y => cases h6
          | _ => rfl
        · rintro dn p rest ys A hsp ⟨rfl, ns, rfl⟩
          have hpm : p ∈ qs := by rw [hsp]; exact List.mem_append.mpr (.inr List.mem_cons_self)
          obtain ⟨v, hv⟩ := has_dI p hpm
          repeat walk_at "wx"
          refine o_ixd hv ?_
          repeat walk_at "wx"
          exact ⟨by walk_at "wn", ns ++ [v], by simp⟩
        · rintro ys A ⟨rfl, ns, rfl⟩
          repeat walk_at "wx"
          refine o_sum ?_
          repeat walk_at "wx"
          walk_at "nb"
          repeat walk_at "wx"
          refine PU.d rfl (by rcases h4 with rfl | rfl <;> rfl) ?_
          repeat walk_at "wx"
          exact ⟨_, _, _, _, _, _, qs, rfl, .inr rfl, rfl, rfl, h6, h7⟩
    · rintro A ⟨s2, s5, s6, s7, s4, n, ps, rfl, h4, h2, h5, h6, h7⟩
      repeat walk_at "wx"
      exact ⟨n, rfl⟩
  obtain ⟨r, as', e, n, rfl⟩ := main.out
  exact ⟨n, as', e⟩
/-! M6: drawn boxes. -/
open PySem Z
open PyProof.Rows hiding St
def POOL : List Nat := [1, 3, 4, 9, 10, 17, 21]
def unT : D → Nat
  | .str x => TAGS.idxOf x
  | _ => 0
theorem unT_tD {i : Nat} (h : i < 22) : unT (tD i) = i := tg_idx i h
theorem pool_lt : ∀ i ∈ POOL, 0 < i ∧ i < 22 := by decide
theorem pool_tw : ∀ i ∈ POOL, i ≠ 20 := by decide
theorem pick_tags {d : D} {k : Nat} {m : Int} (u : Ur k d) (hk : k + 10 ≤ 1099511627776) (hm : 0 ≤ m) (hm2 : m < 1000) : ∃ (l : List Nat) (d' : D), g_q_pick [.io d, .val (.lst (POOL.map tD)), .val (.int m)] = some (.fr (.lst (l.map tD)), [.io d', .val (.lst (POOL.map tD)), .val (.int m)]) ∧
    l.length = min m.toNat 7 ∧ l.Nodup ∧ (∀ i ∈ l, 0 < i ∧ i < 22) ∧ (∀ i ∈ l, i ≠ 20) ∧ Ur (k + 7) d' := by
  obtain ⟨ys, d', e, hl, ⟨rest, pm⟩, u'⟩ := pick_ok (xs := POOL.map tD) (m := m) u (by simp [POOL]; omega) (by simp [POOL]) hm (by omega)
  obtain ⟨l', e', p'⟩ := perm_emb' (un := unT) (fun a ha => unT_tD (pool_lt a ha).2) pm
  have hy : ys = (l'.take ys.length).map tD := by
    rw [List.map_take, ← e', List.take_left]
  have nd : l'.Nodup := p'.nodup_iff.mpr (by decide)
  refine ⟨l'.take ys.length, d', by rw [← hy]; exact e, ?_, nd.sublist (List.take_sublist _ _), fun i hi => pool_lt i (p'.mem_iff.mp (List.mem_of_mem_take hi)), fun i hi => pool_tw i (p'.mem_iff.mp (List.mem_of_mem_take hi)), ?_⟩
  · have := congrArg List.length hy
    rw [List.length_map] at this
    rw [← this, hl]
    simp [POOL]
  · simpa [POOL] using u'
theorem many_ok {d : D} {k : Nat} (u : Ur k d) (hk : k ≤ 1099511627776) : ∃ (n : Nat) (d' : D), g_q_of [.io d, .val (.lst [.int 2, .int 2, .int 2, .int 3])] = some (.d (.int (n : Nat)), [.io d', .val (.lst [.int 2, .int 2, .int 2, .int 3])]) ∧ (n = 2 ∨ n = 3) ∧ Ur (k + 1) d' := by
  obtain ⟨y, d', e, hy, u'⟩ := of_ok (X := .lst [.int 2, .int 2, .int 2, .int 3]) (.inl rfl) u hk (by simp) (by simp)
  have : y = .int ((2 : Nat) : Int) ∨ y = .int ((3 : Nat) : Int) := by simpa using hy
  rcases this with rfl | rfl
  · exact ⟨2, d', e, .inl rfl, u'⟩
  · exact ⟨3, d', e, .inr rfl, u'⟩
theorem sort_pick {l : List Nat} (nd : l.Nodup) (h : ∀ i ∈ l, 0 < i ∧ i < 22) (hl : l.length ≤ 1000) : sortOk (l.map tD) = true ∧ ∃ ts : List Nat, sortD (l.map tD) = ts.map tD ∧ ts.Pairwise (· < ·) ∧ (∀ i ∈ ts, 0 < i ∧ i < 22) ∧ ts.length = l.length ∧ (∀ i ∈ ts, i ∈ l) := by
  obtain ⟨a, b⟩ := sort_tags (fun i hi => (h i hi).2) hl
  obtain ⟨c, p⟩ := msort_lt nd
  exact ⟨a, _, b, c, fun i hi => h i (p.mem_iff.mp hi), p.length_eq, fun i hi => p.mem_iff.mp hi⟩
theorem any_ok {d : D} {k m : Nat} (u : Ur k d) (hk : k + 1000 ≤ 1099511627776) (h0 : 0 < m) (h4 : m ≤ 4) : ∃ b d', g_q_any [.io d, .val (.int (m : Nat))] = some (.d (Box.d b), [.io d', .val (.int (m : Nat))]) ∧ b.Ok ∧ b.rows.length ≤ m ∧ b.NoTw ∧ Ur (k + 200) d' := by
  obtain ⟨n, d1, e1, hn, u1⟩ := many_ok u (by omega)
  obtain ⟨v, d2, e2, v0, v1, u2⟩ := take_ok (n := (m : Int)) u1 (by omega) (by omega) (by omega)
  obtain ⟨l, d3, e3', ll, nd, lp, ltw, u3⟩ := pick_tags (m := 1 + v) u2 (by omega) (by omega) (by omega)
  obtain ⟨so, ts, es, tp, tk, tl, tsub⟩ := sort_pick nd lp (by omega)
  have tlen : ts.length ≤ m := by omega
  have main : WF g_q_any [.io d, .val (.int (m : Nat))] fun r as' => ∃ (d' : D) (rows : List Row), r = .d (Box.d ⟨n, rows⟩) ∧ as' = [.io d', .val (.int (m : Nat))] ∧ rows.map (·.tag) = ts ∧ (∀ r ∈ rows, r.Ok n ts) ∧ Ur (k + 200) d' := by
    refine wf_of (by walk_at "wn") ?_
    unfold b_q_any
    repeat walk_at "wx"
    refine WF.d e1 ?_
    repeat walk_at "wx"
    refine WF.d e2 ?_
    repeat walk_at "wx"
    refine WF.fr e3' ?_
    repeat walk_at "wx"
    refine o_sorted so ?_
    rw [es]
    repeat walk_at "wx"
    unfold l_q_any_1
    refine wb_forL ts tD (fun dn _ A => ∃ (s5 s6 : SV) (d' : D) (xs : List D) (rows : List Row), A = [.io d', .val (.int (m : Nat)), .val (.int (n : Nat)), .val (.lst (ts.map tD)), .own (.lst xs), s5, s6, .un] ∧ xs = rows.map Row.d ∧ NI s5 = true ∧ NI s6 = true ∧ rows.map (·.tag) = dn ∧ (∀ r ∈ rows, r.Ok n ts) ∧ Ur (k + 20 + 20 * dn.length) d') ?_
    repeat walk_at "wx"
    refine ⟨rfl, ⟨_, _, _, _, [], rfl, rfl, rfl, rfl, rfl, (fun r h => nomatch h), u3.mono (by omega)⟩, ?_, ?_⟩
    · rintro dn t rest A hsp ⟨s5, s6, d', xs, rows, rfl, rfl, h5, h6, ht, hr, u'⟩
      have htm : t ∈ ts := by rw [hsp]; exact List.mem_append.mpr (.inr List.mem_cons_self)
      have hdl : dn.length ≤ 4 := by have := congrArg List.length hsp; simp at this; omega
      have hrl : rows.length = dn.length := by rw [← ht, List.length_map]
      repeat walk_at "wx"
      unfold c_q_any_1
      refine we_lcI (List.range n) (fun j => .int ((j : Nat) : Int)) (fun dn' ys A => ∃ (d' : D) (ss : List Nat), A = [.io d', .val (.int (m : Nat)), .val (.int (n : Nat)), .val (.lst (ts.map tD)), .own (.lst (rows.map Row.d)), .val (tD t), s6, .un] ∧ ys = ss.map tD ∧ ss.length = dn'.length ∧ (∀ x ∈ ss, x = 0 ∨ x ∈ ts) ∧ Ur (k + 20 + 20 * dn.length + 2 * dn'.length) d') ?_
      repeat walk_at "wx"
      refine ⟨by omega, _, by walk_at "wn", rfl, limOk (by simp; omega), rfl, ⟨_, [], rfl, rfl, rfl, (fun x h => nomatch h), u'.mono (by simp)⟩, ?_, ?_⟩
      · rintro dn' j rest' ys A hsp' ⟨d4, ss, rfl, rfl, sl, sm, u4⟩
        have hdl' : dn'.length ≤ 3 := by have := congrArg List.length hsp'; simp at this; omega
        obtain ⟨v, d5, e5, w0, w1, u5⟩ := take_ok (n := 4) u4 (by omega) (by omega) (by omega)
        obtain ⟨w, rfl⟩ : ∃ w : Nat, v = w := ⟨v.toNat, by omega⟩
        obtain ⟨y, d6, e6, hy, u6⟩ := of_ok (xs := ts.map tD ++ List.replicate w (tD 0)) (X := .lst (ts.map tD ++ List.replicate w (tD 0))) (.inl rfl) u5 (by omega) (by intro e; have := congrArg List.length e; simp at this; have := this.1; subst this; cases htm) (by simp; omega)
        have hy : ∃ i, y = tD i ∧ (i = 0 ∨ i ∈ ts) := by
          rcases List.mem_append.mp hy with hy | hy
          · obtain ⟨i, hi, rfl⟩ := List.mem_map.mp hy
            exact ⟨i, rfl, .inr hi⟩
          · exact ⟨0, List.eq_of_mem_replicate hy, .inl rfl⟩
        obtain ⟨i, rfl, hi⟩ := hy
        repeat walk_at "wx"
        refine WF.d e5 ?_
        repeat walk_at "wx"
        refine o_mulL (by omega) ?_
        repeat walk_at "wx"
        refine o_addL (by simp [LIM]; omega) ?_
        repeat walk_at "wx"
        refine WF.d e6 ?_
        repeat walk_at "wx"
        refine ⟨d6, ss ++ [i], by walk_at "wn", by simp, by simp [sl], ?_, u6.mono (by simp; omega)⟩
        intro x hx
        rcases List.mem_append.mp hx with hx | hx
        · exact sm x hx
        · rw [List.mem_singleton.mp hx]; exact hi
      · rintro ys A ⟨d4, ss, rfl, rfl, sl, sm, u4⟩
        rw [List.length_range] at sl u4
        obtain ⟨fs, d5, e5, pf, u5⟩ := turning_ok (n := n) u4 (by omega) (by omega)
        walk_at "nb"
        repeat walk_at "wx"
        refine WF.d e5 ?_
        repeat walk_at "wx"
        refine ⟨_, _, _, _, rows ++ [⟨t, fs, ss⟩], rfl, by simp [Row.d, seD], rfl, rfl, by simp [ht], ?_, u5.mono (by simp; omega)⟩
        · intro r hr'
          rcases List.mem_append.mp hr' with hr' | hr'
          · exact hr r hr'
          · rw [List.mem_singleton.mp hr']
            exact ⟨pf, sl, sm, (tk t htm).1, (tk t htm).2⟩
        · simp only [List.length_map]; unfold LIM; omega
    · rintro A ⟨s5, s6, d', xs, rows, rfl, rfl, h5, h6, ht, hr, u'⟩
      repeat walk_at "wx"
      exact ⟨d', rows, rfl, rfl, ht, hr, u'.mono (by omega)⟩
  obtain ⟨r, as', e, d', rows, rfl, rfl, ht, hr, u'⟩ := main.out
  have hrl : rows.length = ts.length := by rw [← ht, List.length_map]
  refine ⟨⟨n, rows⟩, d', e, ⟨hn, fun r hr' => ?_, ?_, ?_⟩, ?_, ⟨(fun r hr' => ltw _ (tsub _ (ht ▸ List.mem_map.mpr ⟨r, hr', rfl⟩))), by show 0 < rows.length; omega⟩, u'⟩
  · show r.Ok n (rows.map (·.tag))
    rw [ht]; exact hr r hr'
  · show (rows.map (·.tag)).Pairwise _
    rw [ht]; exact tp
  · show rows.length ≤ 5
    omega
  · show rows.length ≤ m
    omega
/-! M7: short-winded boxes, drawn boxes. -/
open PySem Z
open PyProof.Rows hiding St
theorem it_at {sr : List Nat} {k : Nat} {i : Int} (hi : i = k) (h : k < sr.length) : L2.atI (sr.map fun s => D.int ((s : Nat) : Int)) i = some (.int ((sr.getD k 0 : Nat) : Int)) := by
  rw [atI_nat hi (by simpa using h)]
  simp [List.getD, h]
theorem tt_at {sr : List Nat} {k : Nat} {i : Int} (hi : i = k) (h : k < sr.length) : L2.atI (sr.map tD) i = some (tD (sr.getD k 0)) := by
  rw [atI_nat hi (by simpa using h)]
  simp [List.getD, h]
theorem kit_ok {d : D} {k m : Nat} (u : Ur k d) (hk : k + 1000 ≤ 1099511627776) (h0 : 0 < m) (h4 : m ≤ 4) : ∃ b d', g_q_kit [.io d, .val (.int (m : Nat))] = some (.d (Box.d b), [.io d', .val (.int (m : Nat))]) ∧ b.Ok ∧ b.rows.length ≤ max 3 m ∧ b.NoTw ∧ Ur (k + 300) d' := by
  obtain ⟨n, d1, e1, hn, u1⟩ := many_ok u (by omega)
  obtain ⟨v, d2, e2, v0, v1, u2⟩ := take_ok (n := (m : Int)) u1 (by omega) (by omega) (by omega)
  obtain ⟨l, d3, e3', ll, nd, lp, ltw, u3⟩ := pick_tags (m := 1 + v) u2 (by omega) (by omega) (by omega)
  obtain ⟨so, ts, es, tp, tk, tl, tsub⟩ := sort_pick nd lp (by omega)
  have tlen : ts.length ≤ m := by omega
  have tpos : 0 < ts.length := by omega
  have main : WF g_q_kit [.io d, .val (.int (m : Nat))] fun r as' => ∃ (d' : D) (b : Box), r = .d (Box.d b) ∧ as' = [.io d', .val (.int (m : Nat))] ∧ b.Ok ∧ b.rows.length ≤ max 3 m ∧ b.NoTw ∧ Ur (k + 300) d' := by
    refine wf_of (by walk_at "wn") ?_
    unfold b_q_kit
    repeat walk_at "wx"
    refine WF.d e1 ?_
    repeat walk_at "wx"
    refine WF.d e2 ?_
    repeat walk_at "wx"
    refine WF.fr e3' ?_
    repeat walk_at "wx"
    refine o_sorted so ?_
    rw [es]
    repeat walk_at "wx"
    unfold c_q_kit_1
    refine we_lcI ts tD (fun dn ys A => ∃ (d' : D) (sr : List Nat), A = [.io d', .val (.int (m : Nat)), .val (.int (n : Nat)), .val (.lst (ts.map tD)), .un, .un, .un, .un, .un, .un, .un, .un, .un, .un] ∧ ys = sr.map (fun s => .int ((s : Nat) : Int)) ∧ sr.length = dn.length ∧ Ur (k + 20 + dn.length) d') ?_
    repeat walk_at "wx"
    refine ⟨_, by walk_at "wn", rfl, limOk (by omega), rfl, ⟨_, [], rfl, rfl, rfl, u3.mono (by omega)⟩, ?_, ?_⟩
    · rintro dn t rest ys A hsp ⟨d', sr, rfl, rfl, sl, u'⟩
      have hdl : dn.length ≤ 4 := by have := congrArg List.length hsp; simp at this; omega
      obtain ⟨y, d4, e4, hy, u4⟩ := of_ok (X := .lst [.int 0, .int 1, .int 1, .int 2]) (.inl rfl) u' (by omega) (by simp) (by simp)
      have hy : ∃ s : Nat, y = .int (s : Int) := by
        have : y = .int 0 ∨ y = .int 1 ∨ y = .int 2 := by simpa using hy
        rcases this with rfl | rfl | rfl
        · exact ⟨0, rfl⟩
        · exact ⟨1, rfl⟩
        · exact ⟨2, rfl⟩
      obtain ⟨s, rfl⟩ := hy
      repeat walk_at "wx"
      refine WF.d e4 ?_
      repeat walk_at "wx"
      exact ⟨d4, sr ++ [s], by walk_at "wn", by simp, by simp [sl], u4.mono (by simp; omega)⟩
    rintro ys A ⟨d', sr, rfl, rfl, sl, u'⟩
    walk_at "nb"
    repeat walk_at "wx"
    unfold l_q_kit_1
    refine wb_forL (ts.zipIdx) (fun p => .tup [.int (p.2 : Nat), tD p.1]) (fun dn _ A => ∃ (s7 s8 s9 s10 s11 : SV) (d' : D) (xs : List D) (rows : List Row), A = [.io d', .val (.int (m : Nat)), .val (.int (n : Nat)), .val (.lst (ts.map tD)), .own (.lst (sr.map fun s => .int ((s : Nat) : Int))), .own (.lst xs), .un, s7, s8, s9, s10, s11, .un, .un] ∧ xs = rows.map Row.d ∧ NI s7 = true ∧ NI s8 = true ∧ NI s9 = true ∧ NI s10 = true ∧ NI s11 = true ∧ rows.map (·.tag) = dn.map (·.1) ∧ (∀ r ∈ rows, r.Ok n ts) ∧ Ur (k + 30 + 20 * dn.length) d') ?_
    repeat walk_at "wx"
    refine ⟨enumL_map tD ts 0, ⟨_, _, _, _, _, _, _, [], rfl, rfl, rfl, rfl, rfl, rfl, rfl, rfl, (fun r h => nomatch h), u'.mono (by omega)⟩, ?_, ?_⟩
    · rintro dn ⟨t, i⟩ rest A hsp ⟨s7, s8, s9, s10, s11, d', xs, rows, rfl, rfl, h7, h8, h9, h10, h11, ht, hr, u'⟩
      have hm : (t, i) ∈ ts.zipIdx := by rw [hsp]; exact List.mem_append.mpr (.inr List.mem_cons_self)
      have hi := List.snd_lt_of_mem_zipIdx hm
      have htm : t ∈ ts := List.fst_mem_of_mem_zipIdx hm
      have hdl : dn.length ≤ 4 := by have := congrArg List.length hsp; simp at this; omega
      have hrl : rows.length = dn.length := by have := congrArg List.length ht; simpa using this
      have hi' : i < ts.length := by simpa using hi
      repeat walk_at "wx"
      unfold c_q_kit_2
      refine we_lcS (List.range ts.length) (fun j => .int ((j : Nat) : Int)) (fun j => tD (ts.getD j 0)) ?_
      repeat walk_at "wx"
      have sri : ∀ j, j < ts.length → L2.atI (sr.map fun s => D.int ((s : Nat) : Int)) ((j : Nat) : Int) = some (.int ((sr.getD j 0 : Nat) : Int)) := fun j hj => it_at rfl (by omega)
      refine ⟨by simp; omega, _, _, by walk_at "wn", by walk_at "wn", by simp, limOk (by simp; omega), rfl, fun j hj => ?_, fun p => ?_⟩
      · have hj := List.mem_range.mp hj
        unfold EltS
        repeat walk_at "wx"
        refine o_ixl (sri j hj) ?_
        repeat walk_at "wx"
        refine ⟨fun _ => ?_, fun _ => ⟨(by intro _; walk_at "wn"), (by intro z; cases z)⟩⟩
        repeat walk_at "wx"
        refine o_ixl (sri i hi') ?_
        repeat walk_at "wx"
        refine ⟨fun _ => ⟨(by intro z; cases z), fun _ => ?_⟩, fun _ => ?_⟩
        · repeat walk_at "wx"
          refine o_ixl (tt_at rfl hj) ?_
          repeat walk_at "wx"
          exact ⟨rfl, by walk_at "wn"⟩
        · repeat walk_at "wx"
          refine ⟨(by intro z; walk_at "wn"), fun _ => ?_⟩
          repeat walk_at "wx"
          refine o_ixl (tt_at rfl hj) ?_
          repeat walk_at "wx"
          exact ⟨rfl, by walk_at "wn"⟩
      · have pool1 : ∃ pl : List Nat, [D.str "-"] ++ ((List.range ts.length).filter p).map (fun j => tD (ts.getD j 0)) = pl.map tD ∧ (∀ x ∈ pl, x = 0 ∨ x ∈ ts) ∧ pl ≠ [] ∧ pl.length ≤ 5 := by
          refine ⟨0 :: ((List.range ts.length).filter p).map (fun j => ts.getD j 0), by simp [tD, tg, TAGS], ?_, by simp, ?_⟩
          · intro x hx
            rcases List.mem_cons.mp hx with rfl | hx
            · exact .inl rfl
            · obtain ⟨j, hj, rfl⟩ := List.mem_map.mp hx
              have := List.mem_range.mp (List.mem_filter.mp hj).1
              exact .inr (PL.getD_mem 0 this)
          · have := List.length_filter_le p (List.range ts.length)
            simp at this ⊢; omega
        obtain ⟨pl, ep, hp, hpn, hpl⟩ := pool1
        repeat walk_at "wx"
        refine o_addL (by have := congrArg List.length ep; simp only [List.length_append, List.length_map] at this ⊢; unfold LIM; omega) ?_
        rw [ep]
        repeat walk_at "wx"
        refine wb_mid (fun A' => ∃ (s9 : SV) (xs : List D) (pl : List Nat), A' = [.io d', .val (.int (m : Nat)), .val (.int (n : Nat)), .val (.lst (ts.map tD)), .own (.lst (sr.map fun s => .int ((s : Nat) : Int))), .own (.lst (rows.map Row.d)), .un, .val (.int (i : Nat)), .val (tD t), s9, .own (.lst xs), s11, .un, .un] ∧ xs = pl.map tD ∧ NI s9 = true ∧ (∀ x ∈ pl, x = 0 ∨ x ∈ ts) ∧ pl ≠ [] ∧ pl.length ≤ 9) (wb_if ?_) ?_
        · repeat walk_at "wx"
          refine o_ixl (sri i hi') ?_
          repeat walk_at "wx"
          refine ⟨fun _ => ?_, fun _ => ?_⟩
          · repeat walk_at "wx"
            unfold c_q_kit_3
            refine we_lcS (List.range ts.length) (fun j => .int ((j : Nat) : Int)) (fun j => tD (ts.getD j 0)) ?_
            repeat walk_at "wx"
            refine ⟨by simp; omega, _, _, by walk_at "wn", by walk_at "wn", by simp, limOk (by simp; omega), rfl, fun j hj => ?_, fun p => ?_⟩
            · have hj := List.mem_range.mp hj
              unfold EltS
              repeat walk_at "wx"
              refine o_ixl (sri j hj) ?_
              repeat walk_at "wx"
              refine ⟨fun _ => ⟨(by intro z; cases z), fun _ => ?_⟩, fun _ => ?_⟩
              · repeat walk_at "wx"
                refine o_ixl (tt_at rfl hj) ?_
                repeat walk_at "wx"
                exact ⟨rfl, by walk_at "wn"⟩
              · repeat walk_at "wx"
                refine o_ixl (sri j hj) ?_
                repeat walk_at "wx"
                refine ⟨fun _ => ?_, fun _ => ⟨(by intro _; walk_at "wn"), (by intro z; cases z)⟩⟩
                repeat walk_at "wx"
                refine ⟨(by intro z; walk_at "wn"), fun _ => ?_⟩
                repeat walk_at "wx"
                refine o_ixl (tt_at rfl hj) ?_
                repeat walk_at "wx"
                exact ⟨rfl, by walk_at "wn"⟩
            · have hfl := List.length_filter_le p (List.range ts.length)
              rw [List.length_range] at hfl
              repeat walk_at "wx"
              refine o_addL (by simp only [List.length_map]; unfold LIM; omega) ?_
              repeat walk_at "wx"
              refine ⟨rfl, _, _, pl ++ ((List.range ts.length).filter p).map (fun j => ts.getD j 0), rfl, ?_, rfl, ?_, by simp [hpn], by simp; omega⟩
              · rw [List.map_append, List.map_map]; rfl
              · intro x hx
                rcases List.mem_append.mp hx with hx | hx
                · exact hp x hx
                · obtain ⟨j, hj, rfl⟩ := List.mem_map.mp hx
                  have := List.mem_range.mp (List.mem_filter.mp hj).1
                  exact .inr (PL.getD_mem 0 this)
          · repeat walk_at "wx"
            exact ⟨rfl, _, _, pl, rfl, rfl, rfl, hp, hpn, by omega⟩
        rintro A ⟨s9, _, pl, rfl, rfl, h9, hp, hpn, hpl⟩
        repeat walk_at "wx"
        unfold c_q_kit_4
        refine we_lcI (List.range n) (fun j => .int ((j : Nat) : Int)) (fun dn' ys A => ∃ (d' : D) (s10 : SV) (ss : List Nat), A = [.io d', .val (.int (m : Nat)), .val (.int (n : Nat)), .val (.lst (ts.map tD)), .own (.lst (sr.map fun s => .int ((s : Nat) : Int))), .own (.lst (rows.map Row.d)), .un, .val (.int (i : Nat)), .val (tD t), s9, s10, s11, .un, .un] ∧ (s10 = .own (.lst (pl.map tD)) ∨ s10 = .val (.lst (pl.map tD))) ∧ ys = ss.map tD ∧ ss.length = dn'.length ∧ (∀ x ∈ ss, x = 0 ∨ x ∈ ts) ∧ Ur (k + 30 + 20 * dn.length + 2 * dn'.length) d') ?_
        repeat walk_at "wx"
        refine ⟨by omega, _, by walk_at "wn", rfl, limOk (by simp; omega), rfl, ⟨_, _, [], rfl, .inl rfl, rfl, rfl, (fun x h => nomatch h), u'.mono (by simp)⟩, ?_, ?_⟩
        · rintro dn' j rest' ys A hsp' ⟨d4, s10, ss, rfl, hs10, rfl, sl', sm, u4⟩
          have hdl' : dn'.length ≤ 3 := by have := congrArg List.length hsp'; simp at this; omega
          obtain ⟨y, d6, e6, hy, u6⟩ := of_ok (X := .lst (pl.map tD)) (.inl rfl) u4 (by omega) (by simp [hpn]) (by simp; omega)
          obtain ⟨x, hx, rfl⟩ := List.mem_map.mp hy
          have fin : ∀ x' ∈ ss ++ [x], x' = 0 ∨ x' ∈ ts := by
            intro x' hx'
            rcases List.mem_append.mp hx' with hx' | hx'
            · exact sm x' hx'
            · rw [List.mem_singleton.mp hx']; exact hp x hx
          rcases hs10 with rfl | rfl
          · repeat walk_at "wx"
            refine WF.d e6 ?_
            repeat walk_at "wx"
            exact ⟨d6, _, ss ++ [x], by walk_at "wn", .inr rfl, by simp, by simp [sl'], fin, u6.mono (by simp; omega)⟩
          · repeat walk_at "wx"
            refine WF.d e6 ?_
            repeat walk_at "wx"
            exact ⟨d6, _, ss ++ [x], by walk_at "wn", .inr rfl, by simp, by simp [sl'], fin, u6.mono (by simp; omega)⟩
        rintro ys A ⟨d4, s10, ss, rfl, hs10, rfl, sl', sm, u4⟩
        rw [List.length_range] at sl' u4
        have h10 : NI s10 = true := by rcases hs10 with rfl | rfl <;> rfl
        walk_at "nb"
        repeat walk_at "wx"
        refine wb_mid (fun A' => ∃ (d' : D) (xs : List D) (ss : List Nat), A' = [.io d', .val (.int (m : Nat)), .val (.int (n : Nat)), .val (.lst (ts.map tD)), .own (.lst (sr.map fun s => .int ((s : Nat) : Int))), .own (.lst (rows.map Row.d)), .un, .val (.int (i : Nat)), .val (tD t), s9, s10, .own (.lst xs), .un, .un] ∧ xs = ss.map tD ∧ ss.length = n ∧ (∀ x ∈ ss, x = 0 ∨ x ∈ ts) ∧ Ur (k + 30 + 20 * dn.length + 10) d') (wb_if ?_) ?_
        · repeat walk_at "wx"
          refine o_ixl (sri i hi') ?_
          repeat walk_at "wx"
          refine ⟨fun _ => ?_, fun _ => ?_⟩
          · obtain ⟨v, d7, e7, w0, w1, u7⟩ := take_ok (n := (n : Int)) u4 (by omega) (by omega) (by omega)
            repeat walk_at "wx"
            refine WF.d e7 ?_
            repeat walk_at "wx"
            refine PT.own (by rfl) (put_lst (j := v.toNat) (by omega) (by simp; omega)) ?_
            repeat walk_at "wx"
            refine ⟨rfl, _, _, ss.set v.toNat t, rfl, (by simp [List.map_set]), by simp [sl'], ?_, u7.mono (by omega)⟩
            intro x hx
            rcases List.mem_or_eq_of_mem_set hx with hx | rfl
            · exact sm x hx
            · exact .inr htm
          · repeat walk_at "wx"
            exact ⟨rfl, _, _, ss, rfl, rfl, sl', sm, u4.mono (by omega)⟩
        rintro A ⟨d5, _, ss, rfl, rfl, sl', sm, u5⟩
        obtain ⟨fs, d6, e6, pf, u6⟩ := turning_ok (n := n) u5 (by omega) (by omega)
        repeat walk_at "wx"
        refine WF.d e6 ?_
        repeat walk_at "wx"
        refine ⟨_, _, _, _, _, _, _, rows ++ [⟨t, fs, ss⟩], rfl, by simp [Row.d, seD], rfl, rfl, h9, h10, rfl, by simp [ht], ?_, u6.mono (by simp; omega)⟩
        · intro r hr'
          rcases List.mem_append.mp hr' with hr' | hr'
          · exact hr r hr'
          · rw [List.mem_singleton.mp hr']
            exact ⟨pf, sl', sm, (tk t htm).1, (tk t htm).2⟩
        · simp only [List.length_map]; unfold LIM; omega
    · rintro A ⟨s7, s8, s9, s10, s11, d', xs, rows, rfl, rfl, h7, h8, h9, h10, h11, ht, hr, u'⟩
      have ht' : rows.map (·.tag) = ts := by rw [ht]; exact List.zipIdx_map_fst 0 ts
      have hrl : rows.length = ts.length := by rw [← ht', List.length_map]
      have bo : Box.Ok ⟨n, rows⟩ := by
        refine ⟨hn, fun r hr' => ?_, ?_, ?_⟩
        · show r.Ok n (rows.map (·.tag))
          rw [ht']; exact hr r hr'
        · show (rows.map (·.tag)).Pairwise _
          rw [ht']; exact tp
        · show rows.length ≤ 5
          omega
      simp only [List.length_zipIdx] at u'
      repeat walk_at "wx"
      refine we_if ?_
      repeat walk_at "wx"
      unfold c_q_kit_5
      refine we_lcI ts tD (fun dn ys A => A = [.io d', .val (.int (m : Nat)), .val (.int (n : Nat)), .val (.lst (ts.map tD)), .own (.lst (sr.map fun s => .int ((s : Nat) : Int))), .own (.lst (rows.map Row.d)), .val (Box.d ⟨n, rows⟩), s7, .un, s9, s10, s11, .un, .un] ∧ ∃ ns : List Int, ys = ns.map .int ∧ ns.length = dn.length) ?_
      repeat walk_at "wx"
      refine ⟨_, by walk_at "wn", rfl, limOk (by omega), ?_, ⟨rfl, [], rfl, rfl⟩, ?_, ?_⟩
      · simp only [noIo, List.all_cons, List.all_nil, Bool.and_true, List.getElem?_cons_succ, List.getElem?_cons_zero]
        cases s8 with
        | io y => cases h8
        | _ => rfl
      · rintro dn t rest ys A hsp ⟨rfl, ns, rfl, nl⟩
        obtain ⟨c, as', ec⟩ := breath_ok (b := ⟨n, rows⟩) (t := t) bo.few (fun r hr' => by rw [(hr r hr').len]; omega)
        repeat walk_at "wx"
        refine WF.d ec ?_
        repeat walk_at "wx"
        exact ⟨by walk_at "wn", ns ++ [c], by simp, by simp [nl]⟩
      · rintro ys A ⟨rfl, ns, rfl, nl⟩
        walk_at "nb"
        cases ns with
        | nil => simp at nl; omega
        | cons c ns =>
          repeat walk_at "wx"
          refine o_maxL ?_
          repeat walk_at "wx"
          refine ⟨fun _ => ?_, fun _ => ?_⟩
          · repeat walk_at "wx"
            refine ⟨d', ⟨n, rows⟩, rfl, rfl, bo, ?_, ⟨(fun r hr' => ltw _ (tsub _ (ht' ▸ List.mem_map.mpr ⟨r, hr', rfl⟩))), by show 0 < rows.length; omega⟩, u'.mono (by omega)⟩
            show rows.length ≤ _
            omega
          · obtain ⟨b, d7, e7, bo7, bl7, tw7, u7⟩ := known_ok u' (by omega)
            repeat walk_at "wx"
            refine WF.d e7 ?_
            repeat walk_at "wx"
            exact ⟨d7, b, rfl, rfl, bo7, by omega, tw7, u7.mono (by omega)⟩
  obtain ⟨r, as', e, d', b, rfl, rfl, ht, hr, u'⟩ := main.out
  exact ⟨b, d', e, ht, hr, u'⟩
/-! M8: drawn boxes, doubled boxes. -/
open PySem Z
open PyProof.Rows hiding St
theorem drawn_ok {d : D} {k m : Nat} (u : Ur k d) (hk : k + 2000 ≤ 1099511627776) (h0 : 0 < m) (h4 : m ≤ 4) : ∃ b d', g_q_drawn_kit [.io d, .val (.int (m : Nat))] = some (.d (Box.d b), [.io d', .val (.int (m : Nat))]) ∧ b.Ok ∧ b.rows.length ≤ max 3 m ∧ b.NoTw ∧ Ur (k + 310) d' := by
  obtain ⟨v, d2, e2, v0, v1, u2⟩ := take_ok (n := 4) u (by omega) (by omega) (by omega)
  have main : WF g_q_drawn_kit [.io d, .val (.int (m : Nat))] fun r as' => ∃ (d' : D) (b : Box), r = .d (Box.d b) ∧ as' = [.io d', .val (.int (m : Nat))] ∧ b.Ok ∧ b.rows.length ≤ max 3 m ∧ b.NoTw ∧ Ur (k + 310) d' := by
    refine wf_of (by walk_at "wn") ?_
    unfold b_q_drawn_kit
    repeat walk_at "wx"
    refine WF.d e2 ?_
    repeat walk_at "wx"
    refine wb_if ?_
    repeat walk_at "wx"
    refine ⟨fun _ => ?_, fun _ => ?_⟩
    · obtain ⟨b, d7, e7, bo7, bl7, tw7, u7⟩ := known_ok u2 (by omega)
      repeat walk_at "wx"
      refine WF.d e7 ?_
      repeat walk_at "wx"
      exact ⟨d7, b, rfl, rfl, bo7, by omega, tw7, u7.mono (by omega)⟩
    · repeat walk_at "wx"
      refine we_if ?_
      repeat walk_at "wx"
      refine ⟨fun _ => ?_, fun _ => ?_⟩
      · obtain ⟨b, d7, e7, bo7, bl7, tw7, u7⟩ := any_ok u2 (by omega) h0 h4
        repeat walk_at "wx"
        refine WF.d e7 ?_
        repeat walk_at "wx"
        exact ⟨d7, b, rfl, rfl, bo7, by omega, tw7, u7.mono (by omega)⟩
      · obtain ⟨b, d7, e7, bo7, bl7, tw7, u7⟩ := kit_ok u2 (by omega) h0 h4
        repeat walk_at "wx"
        refine WF.d e7 ?_
        repeat walk_at "wx"
        exact ⟨d7, b, rfl, rfl, bo7, by omega, tw7, u7.mono (by omega)⟩
  obtain ⟨r, as', e, d', b, rfl, rfl, ht, hr, tw, u'⟩ := main.out
  exact ⟨b, d', e, ht, hr, tw, u'⟩
/-! ### rows sorted by their names -/
theorem tup_le {a b : Nat} {xs ys : List D} (ha : a < 22) (hb : b < 22) (h : a ≠ b) : dleD (.tup (tD a :: xs)) (.tup (tD b :: ys)) = decide (a ≤ b) := by
  rw [← tg_le a b ha hb]
  have hne : (Sum.inr (tg b).cps.toList : Int ⊕ List Nat) ≠ .inr (tg a).cps.toList := fun e => h (tg_inj a b ha hb (PySem.W.str_of_cps (Sum.inr.inj e)).symm)
  show (!PyProof.Rows.lexLt PyProof.Rows.itemOrd (.inl 1 :: (.inr (tg b).cps.toList :: _)) (.inl 1 :: (.inr (tg a).cps.toList :: _))) = (!PyProof.Rows.lexLt PyProof.Rows.itemOrd [.inr (tg b).cps.toList] [.inr (tg a).cps.toList])
  exact congrArg (fun z => !z) ((PySem.W.lex_pre [.inl 1] _ _).trans (PySem.W.lex_atom hne _ _))
theorem sort_rows {n : Nat} {rows : List Row} (h : ∀ r ∈ rows, r.tag < 22) (nd : (rows.map (·.tag)).Nodup) (hl : rows.length ≤ 1000) : sortOk (rows.map Row.d) = true ∧ ∃ rs : List Row, sortD (rows.map Row.d) = rs.map Row.d ∧ rs.Perm rows ∧ (rs.map (·.tag)).Pairwise (· < ·) := by
  have h1 : (rows.map Row.d).all (okE 50) = true := by
    rw [List.all_eq_true]
    intro x hx
    obtain ⟨r, hr, rfl⟩ := List.mem_map.mp hx
    simp [Row.d, okE, tg_ok, fcD, seD]
  have h2 : alikeD (rows.map Row.d) = true := by
    unfold alikeD
    rw [List.all_eq_true]
    intro x hx
    rw [List.all_eq_true]
    intro y hy
    obtain ⟨r, hr, rfl⟩ := List.mem_map.mp hx
    obtain ⟨r', hr', rfl⟩ := List.mem_map.mp hy
    have hI : ∀ a b : List Nat, PySem.W.alikeAll (toPs (fcD a)) (toPs (fcD b)) = true := by
      intro a
      induction a with
      | nil => intro b; simp [fcD, toPs, PySem.W.alikeAll]
      | cons x a ih => intro b; cases b with
        | nil => simp [fcD, toPs, PySem.W.alikeAll]
        | cons y b => have := ih b; simp [fcD, toPs, toP, PySem.W.alikeAll, PySem.W.alike] at this ⊢; exact this
    have hS : ∀ a b : List Nat, PySem.W.alikeAll (toPs (seD a)) (toPs (seD b)) = true := by
      intro a
      induction a with
      | nil => intro b; simp [seD, toPs, PySem.W.alikeAll]
      | cons x a ih => intro b; cases b with
        | nil => simp [seD, toPs, PySem.W.alikeAll]
        | cons y b => have := ih b; simp [seD, toPs, toP, PySem.W.alikeAll, PySem.W.alike] at this ⊢; exact this
    simp [Row.d, toP, toPs, PySem.W.alike, PySem.W.alikeAll, hI, hS]
  refine ⟨?_, rows.mergeSort (fun a b => decide (a.tag ≤ b.tag)), ?_, List.mergeSort_perm _ _, ?_⟩
  · unfold sortOk
    simp only [Bool.and_eq_true, Bool.or_eq_true, decide_eq_true_eq]
    refine ⟨⟨⟨h1, h2⟩, .inl ?_⟩, limOk (by simp; omega)⟩
    rw [List.all_eq_true]
    intro x hx
    obtain ⟨r, hr, rfl⟩ := List.mem_map.mp hx
    rfl
  · have p := List.mergeSort_perm rows (fun a b => decide (a.tag ≤ b.tag))
    refine (sort_unique h1 h2 (p.map Row.d) ?_).symm
    rw [List.pairwise_map]
    have nd' : ((rows.mergeSort (fun a b => decide (a.tag ≤ b.tag))).map (·.tag)).Nodup := (p.map _).nodup_iff.mpr nd
    have s := List.pairwise_mergeSort (le := fun a b : Row => decide (a.tag ≤ b.tag)) (fun a b c h k => by simp at *; omega) (fun a b => by simp; omega) rows
    refine ((s.and (List.pairwise_map.mp nd')).imp_of_mem fun {a b} ha hb hab => ?_)
    show dleD a.d b.d = true
    rw [tup_le (h a (p.mem_iff.mp ha)) (h b (p.mem_iff.mp hb)) hab.2]
    exact hab.1
  · have p := List.mergeSort_perm rows (fun a b => decide (a.tag ≤ b.tag))
    have nd' : ((rows.mergeSort (fun a b => decide (a.tag ≤ b.tag))).map (·.tag)).Nodup := (p.map _).nodup_iff.mpr nd
    have s := List.pairwise_mergeSort (le := fun a b : Row => decide (a.tag ≤ b.tag)) (fun a b c h k => by simp at *; omega) (fun a b => by simp; omega) rows
    rw [List.pairwise_map]
    refine (s.and (List.pairwise_map.mp nd')).imp fun {a b} hab => ?_
    have h1 := of_decide_eq_true hab.1
    have h2 : a.tag ≠ b.tag := hab.2
    omega
theorem doubled_ok {d : D} {k : Nat} {b : Box} (u : Ur k d) (hk : k + 1000 ≤ 1099511627776) (bo : b.Ok) (tw : b.NoTw) : ∃ b' d', g_q_doubled [.io d, .val (Box.d b)] = some (.d (Box.d b'), [.io d', .val (Box.d b)]) ∧ b'.Ok ∧ Ur (k + 100) d' := by
  have h4 := tw.2
  obtain ⟨v, d2, e2, v0, v1, u2⟩ := take_ok (n := 2) u (by omega) (by omega) (by omega)
  have hm : b.many ≤ 3 := by have := bo.many; omega
  have main : WF g_q_doubled [.io d, .val (Box.d b)] fun r as' => ∃ (d' : D) (b' : Box), r = .d (Box.d b') ∧ as' = [.io d', .val (Box.d b)] ∧ b'.Ok ∧ Ur (k + 100) d' := by
    refine wf_of (by walk_at "wn") ?_
    unfold b_q_doubled
    repeat walk_at "wx"
    refine wb_if ?_
    repeat walk_at "wx"
    refine WF.d e2 ?_
    repeat walk_at "wx"
    refine ⟨fun _ => ⟨fun _ => ?_, (by intro z; cases z)⟩, fun _ => ?_⟩
    · repeat walk_at "wx"
      exact ⟨d2, b, rfl, rfl, bo, u2.mono (by omega)⟩
    repeat walk_at "wx"
    refine ⟨fun _ => ?_, fun hc => ?_⟩
    · repeat walk_at "wx"
      exact ⟨d2, b, rfl, rfl, bo, u2.mono (by omega)⟩
    have few : b.rows.length ≤ 4 := by
      have := of_decide_eq_false hc
      simp at this; omega
    obtain ⟨y, d3, e3', hy, u3⟩ := of_ok (X := .tup (b.rows.map Row.d)) (.inr rfl) u2 (by omega) (by intro e; have := congrArg List.length e; simp only [List.length_map, List.length_nil] at this; omega) (by simp; omega)
    obtain ⟨rt, hrt, rfl⟩ := List.mem_map.mp hy
    repeat walk_at "wx"
    refine WF.d e3' ?_
    repeat walk_at "wx"
    unfold l_q_doubled_1
    refine wb_forL (b.rows ++ [(⟨20, rt.faces, rt.sent⟩ : Row)]) Row.d (fun dn _ A => ∃ (s4 s5 s6 s7 : SV) (d' : D) (xs : List D) (rows : List Row), A = [.io d', .val (Box.d b), .val (Row.d rt), .own (.lst xs), s4, s5, s6, s7, .un] ∧ xs = rows.map Row.d ∧ NI s4 = true ∧ NI s5 = true ∧ NI s6 = true ∧ NI s7 = true ∧ rows.map (·.tag) = dn.map (·.tag) ∧ (∀ r ∈ rows, r.Ok b.many (20 :: b.tags)) ∧ Ur (k + 5 + 5 * dn.length) d') ?_
    repeat walk_at "wx"
    refine o_addT (by simp [LIM]; omega) ?_
    repeat walk_at "wx"
    refine ⟨by simp [tD, tg, TAGS], ⟨_, _, _, _, _, _, [], rfl, rfl, rfl, rfl, rfl, rfl, rfl, (fun r h => nomatch h), u3.mono (by simp)⟩, ?_, ?_⟩
    · rintro dn r rest A hsp ⟨s4, s5, s6, s7, d', xs, rows, rfl, rfl, h4', h5, h6, h7, ht, hr, u'⟩
      have hrm : r ∈ b.rows ++ [(⟨20, rt.faces, rt.sent⟩ : Row)] := by rw [hsp]; exact List.mem_append.mpr (.inr List.mem_cons_self)
      have hdl : dn.length ≤ 5 := by have := congrArg List.length hsp; simp at this; omega
      have hrl : rows.length = dn.length := by have := congrArg List.length ht; simpa using this
      have ro : r.Ok b.many (20 :: b.tags) := by
        rcases List.mem_append.mp hrm with hrm | hrm
        · have := bo.rows r hrm
          exact ⟨this.perm, this.len, fun x hx => (this.ends x hx).imp id (List.mem_cons_of_mem _), this.pos, this.known⟩
        · rw [List.mem_singleton.mp hrm]
          have := bo.rows rt hrt
          exact ⟨this.perm, this.len, fun x hx => (this.ends x hx).imp id (List.mem_cons_of_mem _), by show 0 < 20; omega, by show 20 < 22; omega⟩
      repeat walk_at "wx"
      unfold c_q_doubled_1
      refine we_lcI r.sent tD (fun dn' ys A => ∃ (d' : D) (ss : List Nat), A = [.io d', .val (Box.d b), .val (Row.d rt), .own (.lst (rows.map Row.d)), .val (tD r.tag), .val (.tup (fcD r.faces)), .val (.tup (seD r.sent)), s7, .un] ∧ ys = ss.map tD ∧ ss.length = dn'.length ∧ (∀ x ∈ ss, x = 0 ∨ x ∈ 20 :: b.tags) ∧ Ur (k + 5 + 5 * dn.length + dn'.length) d') ?_
      repeat walk_at "wx"
      refine ⟨_, by walk_at "wn", rfl, limOk (by rw [ro.len]; omega), rfl, ⟨_, [], rfl, rfl, rfl, (fun x h => nomatch h), u'.mono (by simp)⟩, ?_, ?_⟩
      · rintro dn' x rest' ys A hsp' ⟨d4, ss, rfl, rfl, sl, sm, u4⟩
        have hdl' : dn'.length ≤ 3 := by have := congrArg List.length hsp'; rw [ro.len] at this; simp at this; omega
        have hx := ro.ends x (by rw [hsp']; exact List.mem_append.mpr (.inr List.mem_cons_self))
        repeat walk_at "wx"
        refine we_if ?_
        repeat walk_at "wx"
        refine o_eqS (tg_ok _) (tg_ok _) ?_
        repeat walk_at "wx"
        have keep : ∀ x', (x' = 0 ∨ x' ∈ 20 :: b.tags) → ∀ y ∈ ss ++ [x'], y = 0 ∨ y ∈ 20 :: b.tags := by
          intro x' hx' y hy
          rcases List.mem_append.mp hy with hy | hy
          · exact sm y hy
          · rw [List.mem_singleton.mp hy]; exact hx'
        refine ⟨fun _ => ?_, fun _ => ⟨(by intro z; cases z), fun _ => ?_⟩⟩
        · obtain ⟨v, d5, e5, w0, w1, u5⟩ := take_ok (n := 2) u4 (by omega) (by omega) (by omega)
          repeat walk_at "wx"
          refine WF.d e5 ?_
          repeat walk_at "wx"
          refine ⟨fun _ => ?_, fun _ => ?_⟩
          · repeat walk_at "wx"
            exact ⟨d5, ss ++ [20], by walk_at "wn", by simp [tD, tg, TAGS], by simp [sl], keep 20 (.inr List.mem_cons_self), u5.mono (by simp; omega)⟩
          · repeat walk_at "wx"
            exact ⟨d5, ss ++ [x], by walk_at "wn", by simp, by simp [sl], keep x hx, u5.mono (by simp; omega)⟩
        · repeat walk_at "wx"
          exact ⟨d4, ss ++ [x], by walk_at "wn", by simp, by simp [sl], keep x hx, u4.mono (by simp only [List.length_append, List.length_cons, List.length_nil]; omega)⟩
      · rintro ys A ⟨d4, ss, rfl, rfl, sl, sm, u4⟩
        rw [ro.len] at sl u4
        walk_at "nb"
        repeat walk_at "wx"
        refine ⟨_, _, _, _, _, _, rows ++ [⟨r.tag, r.faces, ss⟩], rfl, by simp [Row.d, seD], rfl, rfl, rfl, rfl, by simp [ht], ?_, u4.mono (by simp; omega)⟩
        · intro r' hr'
          rcases List.mem_append.mp hr' with hr' | hr'
          · exact hr r' hr'
          · rw [List.mem_singleton.mp hr']
            exact ⟨ro.perm, sl, sm, ro.pos, ro.known⟩
        · simp only [List.length_map]; unfold LIM; omega
    · rintro A ⟨s4, s5, s6, s7, d', xs, rows, rfl, rfl, h4', h5, h6, h7, ht, hr, u'⟩
      have hrl : rows.length = b.rows.length + 1 := by have := congrArg List.length ht; simpa using this
      have nd : (rows.map (·.tag)).Nodup := by
        rw [ht, List.map_append, List.nodup_append]
        refine ⟨bo.sorted.imp (fun h e => by subst e; exact absurd h (Nat.lt_irrefl _)), by simp, ?_⟩
        intro a ha c hc e
        obtain ⟨r, hr', rfl⟩ := List.mem_map.mp ha
        simp at hc
        exact tw.1 r hr' (e.trans hc)
      obtain ⟨so, rs, ers, prs, srs⟩ := sort_rows (n := b.many) (fun r hr' => (hr r hr').known) nd (by omega)
      have tg' : ∀ x, x ∈ 20 :: b.tags → x ∈ rs.map (·.tag) := by
        intro x hx
        have : x ∈ rows.map (·.tag) := by
          rw [ht, List.map_append]
          rcases List.mem_cons.mp hx with rfl | hx
          · exact List.mem_append.mpr (.inr (by simp))
          · exact List.mem_append.mpr (.inl hx)
        exact (prs.map (·.tag)).mem_iff.mpr this
      repeat walk_at "wx"
      refine o_sorted so ?_
      rw [ers]
      repeat walk_at "wx"
      refine ⟨d', ⟨b.many, rs⟩, rfl, rfl, ⟨bo.many, fun r hr' => ?_, srs, ?_⟩, u'.mono (by simp; omega)⟩
      · have := hr r (prs.mem_iff.mp hr')
        exact ⟨this.perm, this.len, fun x hx => (this.ends x hx).imp id (tg' x), this.pos, this.known⟩
      · show rs.length ≤ 5
        rw [prs.length_eq]; omega
  obtain ⟨r, as', e, d', b', rfl, rfl, bo', u'⟩ := main.out
  exact ⟨b', d', e, bo', u'⟩
/-! M9: lines, what one thing makes of a line. -/
open PySem Z
open PyProof.Rows hiding St
@[reducible] def lnD (l : List Nat) : D := .tup (fcD l)
theorem lines_len (n : Nat) : ∀ k, (PL.lines n k).length = n ^ k
  | 0 => rfl
  | k + 1 => by
    rw [PL.lines, List.length_flatMap]
    simp only [List.length_map, List.length_range]
    rw [List.map_const', List.sum_replicate_nat, lines_len n k, Nat.pow_succ]
theorem wider_ok {b : Box} {ls : List (List Nat)} (hm : b.many ≤ 1000) (h1 : ls.length * b.many ≤ 1000000) (h2 : ∀ l ∈ ls, l.length ≤ 1000) :
    ∃ as', g_q_wider [.val (Box.d b), .val (.lst (ls.map lnD))] = some (.fr (.lst ((ls.flatMap fun own => (List.range b.many).map fun s => own ++ [s]).map lnD)), as') := by
  have main : WF g_q_wider [.val (Box.d b), .val (.lst (ls.map lnD))] fun r as' => r = .fr (.lst ((ls.flatMap fun own => (List.range b.many).map fun s => own ++ [s]).map lnD)) := by
    refine wf_of (by walk_at "wn") ?_
    unfold b_q_wider
    repeat walk_at "wx"
    unfold l_q_wider_1
    refine wb_forL ls lnD (fun dn _ A => ∃ (s3 : SV) (xs : List D), A = [.val (Box.d b), .val (.lst (ls.map lnD)), .own (.lst xs), s3, .un] ∧ NI s3 = true ∧ xs = (dn.flatMap fun own => (List.range b.many).map fun s => own ++ [s]).map lnD) ?_
    repeat walk_at "wx"
    refine ⟨rfl, ⟨_, _, rfl, rfl, rfl⟩, ?_, ?_⟩
    · rintro dn own rest A hsp ⟨s3, xs, rfl, h3, rfl⟩
      have hl : own.length ≤ 1000 := h2 own (by rw [hsp]; exact List.mem_append.mpr (.inr List.mem_cons_self))
      have hdl : (dn.length + 1) * b.many ≤ 1000000 := by
        refine Nat.le_trans (Nat.mul_le_mul_right _ ?_) h1
        have := congrArg List.length hsp; simp at this; omega
      repeat walk_at "wx"
      unfold c_q_wider_1
      refine we_lc (List.range b.many) (fun k => .int ((k : Nat) : Int)) (fun s => lnD (own ++ [s])) ?_
      repeat walk_at "wx"
      refine ⟨by omega, _, _, by walk_at "wn", by walk_at "wn", rfl, limOk (by simp; omega), rfl, fun s hs => ?_, ?_⟩
      · repeat walk_at "wx"
        refine o_addT (by simp [fcD, LIM]; omega) ?_
        repeat walk_at "wx"
        exact ⟨by simp [lnD, fcD], by walk_at "wn"⟩
      · have e : (dn.flatMap fun own => (List.range b.many).map fun s => own ++ [s]).length = dn.length * b.many := by
          rw [List.length_flatMap]
          simp only [List.length_map, List.length_range]
          rw [List.map_const', List.sum_replicate_nat]
        repeat walk_at "wx"
        refine o_addL ?_ ?_
        · rw [List.length_map, List.length_map, e, List.length_range]
          rw [Nat.add_mul, Nat.one_mul] at hdl
          unfold LIM
          omega
        repeat walk_at "wx"
        refine ⟨_, _, rfl, rfl, ?_⟩
        simp [List.flatMap_append, Function.comp_def]
    · rintro A ⟨s3, xs, rfl, h3, rfl⟩
      repeat walk_at "wx"
      rfl
  obtain ⟨r, as', e, rfl⟩ := main.out
  exact ⟨as', e⟩
theorem pow_le {n k m : Nat} (hn : 0 < n) (h : k ≤ m) : n ^ k ≤ n ^ m := Nat.pow_le_pow_right hn h
theorem lines_ok {b : Box} {k : Nat} (hm : 0 < b.many) (hm2 : b.many ≤ 1000) (hk : k ≤ 1000) (h1 : b.many ^ k ≤ 1000000) : ∃ as', g_q_lines [.val (Box.d b), .val (.int (k : Nat))] = some (.fr (.lst ((PL.lines b.many k).map lnD)), as') := by
  have main : WF g_q_lines [.val (Box.d b), .val (.int (k : Nat))] fun r as' => r = .fr (.lst ((PL.lines b.many k).map lnD)) := by
    refine wf_of (by walk_at "wn") ?_
    unfold b_q_lines
    repeat walk_at "wx"
    unfold l_q_lines_1
    refine wb_forL (List.range k) (fun j => .int ((j : Nat) : Int)) (fun dn _ A => ∃ (s2 s3 : SV), A = [.val (Box.d b), .val (.int (k : Nat)), s2, s3] ∧ NI s3 = true ∧ (s2 = .own (.lst ((PL.lines b.many dn.length).map lnD)))) ?_
    repeat walk_at "wx"
    refine ⟨by omega, rfl, ⟨_, _, rfl, rfl, rfl⟩, ?_, ?_⟩
    · rintro dn j rest A hsp ⟨s2, s3, rfl, h3, rfl⟩
      have hdl : dn.length + 1 ≤ k := by have := congrArg List.length hsp; simp at this; omega
      obtain ⟨as', e⟩ := wider_ok (b := b) (ls := PL.lines b.many dn.length) hm2 (by
        rw [lines_len, ← Nat.pow_succ]
        exact Nat.le_trans (pow_le hm hdl) h1) (fun l hl => by
        rw [((PL.mem_lines _ _ l).mp hl).1]; omega)
      repeat walk_at "wx"
      refine WF.fr e ?_
      repeat walk_at "wx"
      exact ⟨_, _, rfl, rfl, by simp [PL.lines]⟩
    · rintro A ⟨s2, s3, rfl, h3, rfl⟩
      repeat walk_at "wx"
      simp
  obtain ⟨r, as', e, rfl⟩ := main.out
  exact ⟨as', e⟩
/-! ### one thing at a line -/
def Box.look (b : Box) (x : Nat) : Option Row := b.rows.find? fun r => decide (r.tag = x)
def Box.F (b : Box) (x : Nat) : List Nat := match b.look x with
  | some r => r.faces
  | none => List.range b.many
def Box.S (b : Box) (x : Nat) : List Nat := match b.look x with
  | some r => r.sent
  | none => List.replicate b.many 0
def Box.ths (b : Box) : List Nat := 0 :: b.tags
theorem Box.Ok.look {b : Box} (bo : b.Ok) {x : Nat} (h : x ∈ b.tags) : ∃ r, b.look x = some r ∧ r ∈ b.rows ∧ r.tag = x := by
  obtain ⟨r, hr, rfl⟩ := List.mem_map.mp h
  cases e : b.look r.tag with
  | none =>
    have := List.find?_eq_none.mp e r hr
    simp at this
  | some r' =>
    exact ⟨r', rfl, List.mem_of_find?_eq_some e, of_decide_eq_true (List.find?_some (p := fun r' : Row => decide (r'.tag = r.tag)) e)⟩
theorem Box.Ok.look0 {b : Box} (bo : b.Ok) : b.look 0 = none := by
  refine List.find?_eq_none.mpr fun r hr => ?_
  have := (bo.rows r hr).pos
  simp; omega
theorem Box.Ok.F0 {b : Box} (bo : b.Ok) : b.F 0 = List.range b.many := by unfold Box.F; rw [bo.look0]
theorem Box.Ok.S0 {b : Box} (bo : b.Ok) : b.S 0 = List.replicate b.many 0 := by unfold Box.S; rw [bo.look0]
theorem Box.Ok.lt {b : Box} (bo : b.Ok) {x : Nat} (h : x ∈ b.ths) : x < 22 := by
  rcases List.mem_cons.mp h with rfl | h
  · omega
  · obtain ⟨r, hr, rfl⟩ := List.mem_map.mp h
    exact (bo.rows r hr).known
theorem Box.Ok.good {b : Box} (bo : b.Ok) : PL.Good b.many b.F b.S b.ths := by
  have hp : 0 < b.many := by have := bo.many; omega
  have key : ∀ x ∈ b.ths, (b.F x).length = b.many ∧ (b.S x).length = b.many ∧ ∀ y ∈ b.S x, y ∈ b.ths := by
    intro x hx
    rcases List.mem_cons.mp hx with rfl | hx
    · rw [bo.F0, bo.S0]
      exact ⟨by simp, by simp, fun y hy => by rw [List.eq_of_mem_replicate hy]; exact List.mem_cons_self⟩
    · obtain ⟨r, e, hr, rfl⟩ := bo.look hx
      have ro := bo.rows r hr
      have eF : b.F r.tag = r.faces := by unfold Box.F; rw [e]
      have eS : b.S r.tag = r.sent := by unfold Box.S; rw [e]
      rw [eF, eS]
      exact ⟨by rw [ro.perm.length_eq, List.length_range], ro.len, fun y hy => (ro.ends y hy).elim (fun h => by rw [h]; exact List.mem_cons_self) (List.mem_cons_of_mem _)⟩
  exact ⟨hp, fun x hx => (key x hx).1, fun x hx => (key x hx).2.1, fun x hx => (key x hx).2.2⟩
theorem Box.Ok.ths_lt {b : Box} (bo : b.Ok) : b.ths.Pairwise (· < ·) := by
  refine List.pairwise_cons.mpr ⟨fun x hx => ?_, bo.sorted⟩
  obtain ⟨r, hr, rfl⟩ := List.mem_map.mp hx
  exact (bo.rows r hr).pos
theorem last_ok (i : Nat) (h0 : 0 < i) (h : i < 22) : ∃ c, gIxA (tD i) (.int (-1)) = some (.d (.str c)) ∧ PyData.strOk c = true ∧ c ≠ "-" := by
  have : ∀ i ∈ List.range 22, 0 < i → (match gIxA (tD i) (.int (-1)) with
    | some (.d (.str c)) => PyData.strOk c && !(decide (c = "-"))
    | _ => false) = true := by decide +kernel
  have := this i (List.mem_range.mpr h) h0
  revert this
  split
  · rename_i c e
    intro h
    rw [Bool.and_eq_true] at h
    exact ⟨c, e, h.1, by simpa using h.2⟩
  · intro h; cases h
theorem done_ok {b : Box} {x : Nat} {l : List Nat} (bo : b.Ok) (hx : x ∈ b.ths) (hl : l.length ≤ 1000) (hf : ∀ f ∈ l, f < b.many) : ∃ y as', g_q_done [.val (Box.d b), .val (tD x), .val (lnD l)] = some (.d (.tup [lnD (PL.done b.F b.S x l), y]), as') := by
  have g := bo.good
  have main : WF g_q_done [.val (Box.d b), .val (tD x), .val (lnD l)] fun r as' => ∃ y, r = .d (.tup [lnD (PL.done b.F b.S x l), y]) := by
    refine wf_of (by walk_at "wn") ?_
    unfold b_q_done
    repeat walk_at "wx"
    unfold l_q_done_1
    refine wb_forL l (fun f => .int ((f : Nat) : Int)) (fun dn rest A => ∃ (s3 s6 : SV) (out : List Nat) (xs : List D) (cur : Nat), A = [.val (Box.d b), .val (tD x), .val (lnD l), s3, .own (.lst xs), .val (tD cur), s6, .un, .un, .un] ∧ xs = fcD out ∧ NI s3 = true ∧ NI s6 = true ∧ out.length = dn.length ∧ cur ∈ b.ths ∧ PL.done b.F b.S x l = out ++ PL.done b.F b.S cur rest) ?_
    repeat walk_at "wx"
    refine ⟨rfl, ⟨_, _, [], _, x, rfl, rfl, rfl, rfl, rfl, hx, rfl⟩, ?_, ?_⟩
    · rintro dn f rest A hsp ⟨s3, s6, out, xs, cur, rfl, rfl, h3, h6, ho, hc, hd⟩
      have hfm : f < b.many := hf f (by rw [hsp]; exact List.mem_append.mpr (.inr List.mem_cons_self))
      have hdl : dn.length ≤ 1000 := by have := congrArg List.length hsp; simp at this; omega
      repeat walk_at "wx"
      refine wb_if ?_
      repeat walk_at "wx"
      refine o_eqS (tg_ok cur) (by decide +kernel) ?_
      repeat walk_at "wx"
      refine ⟨fun hcur => ?_, fun hcur => ?_⟩
      · have hcur : cur = 0 := tg_inj cur 0 (bo.lt hc) (by omega) (of_decide_eq_true hcur)
        subst hcur
        repeat walk_at "wx"
        refine ⟨_, _, out ++ [f], _, 0, rfl, by simp [fcD], rfl, h6, by simp [ho], hc, ?_⟩
        · rw [hd, PL.done, bo.F0, bo.S0]
          simp [hfm]
        · simp only [fcD, List.length_map]; unfold LIM; omega
      · have hcur : cur ≠ 0 := fun e => by subst e; simp [tg, TAGS] at hcur
        have hct : cur ∈ b.tags := (List.mem_cons.mp hc).resolve_left hcur
        obtain ⟨c, ec, oc, nc⟩ := last_ok cur (by omega) (bo.lt hc)
        obtain ⟨r, er, hr, etag⟩ := bo.look hct
        have ro := bo.rows r hr
        have lf : r.faces.length = b.many := by rw [ro.perm.length_eq, List.length_range]
        refine wb_if ?_
        repeat walk_at "wx"
        refine W2.d ec ?_
        repeat walk_at "wx"
        refine o_eqS oc (by decide +kernel) ?_
        repeat walk_at "wx"
        refine ⟨fun h => absurd (of_decide_eq_true h) nc, fun _ => ?_⟩
        repeat walk_at "wx"
        unfold c_q_done_3
        refine we_lcF b.rows Row.d (fun r => decide (r.tag = cur)) Row.d ?_
        repeat walk_at "wx"
        refine ⟨_, _, by walk_at "wn", by walk_at "wn", rfl, limOk (by have := bo.few; omega), rfl, fun r' hr' => ?_, ?_⟩
        · unfold Elt
          repeat walk_at "wx"
          refine o_eqS (tg_ok _) (tg_ok _) ?_
          repeat walk_at "wx"
          refine ⟨?_, (by intro _; walk_at "wn"), fun _ => ?_⟩
          · have := tD_eq ((bo.rows r' hr').known) (bo.lt hc)
            simp only [tD, D.str.injEq] at this
            simp only [this]
          · repeat walk_at "wx"
            exact ⟨rfl, by walk_at "wn"⟩
        · have ef : b.rows.filter (fun r => decide (r.tag = cur)) = r :: (b.rows.filter (fun r => decide (r.tag = cur))).tail := by
            have := List.head?_filter (p := fun r : Row => decide (r.tag = cur)) (l := b.rows)
            unfold Box.look at er
            rw [er] at this
            cases e : b.rows.filter (fun r => decide (r.tag = cur)) with
            | nil => rw [e] at this; cases this
            | cons q qs => rw [e] at this; cases this; rfl
          rw [ef, List.map_cons]
          repeat walk_at "wx"
          refine o_ixt (fc_at rfl (by omega)) ?_
          repeat walk_at "wx"
          refine o_ixt (se_at rfl (by rw [ro.len]; omega)) ?_
          repeat walk_at "wx"
          have eF : b.F cur = r.faces := by unfold Box.F; rw [er]
          have eS : b.S cur = r.sent := by unfold Box.S; rw [er]
          refine ⟨_, _, out ++ [r.faces.getD f 0], _, r.sent.getD f 0, rfl, by simp [fcD], rfl, rfl, by simp [ho], ?_, ?_⟩
          · have := g.cl cur hc (r.sent.getD f 0) (by rw [eS]; exact PL.getD_mem 0 (by rw [ro.len]; exact hfm))
            exact this
          · rw [hd, PL.done, eF, eS, List.append_assoc]
            rfl
          · simp only [fcD, List.length_map]; unfold LIM; omega
    · rintro A ⟨s3, s6, out, xs, cur, rfl, rfl, h3, h6, ho, hc, hd⟩
      repeat walk_at "wx"
      rw [PL.done, List.append_nil] at hd
      exact ⟨_, by rw [hd]⟩
  obtain ⟨r, as', e, y, rfl⟩ := main.out
  exact ⟨y, as', e⟩
/-! M10: classes gathered in a dict; kinds, first. -/
open PySem Z
open PyProof.Rows hiding St
theorem reps_append {α : Type} [DecidableEq α] (c : Nat → α) : ∀ (xs acc ys : List Nat), PL.reps c acc (xs ++ ys) = PL.reps c (PL.reps c acc xs) ys
  | [], _, _ => rfl
  | x :: xs, acc, ys => by rw [List.cons_append, PL.reps, PL.reps, reps_append c xs]
def GK (c : Nat → D) (dn : List Nat) : List D := (PL.reps c [] dn).map c
def GW (c : Nat → D) (wr : List Nat → D) (dn : List Nat) : List D := (PL.reps c [] dn).map fun r => wr (dn.filter fun x => decide (c x = c r))
theorem findD_map (c f : Nat → D) (k : D) : ∀ rs : List Nat, findD (rs.map c) (rs.map f) k = (rs.find? fun r => decide (c r = k)).map f
  | [] => rfl
  | r :: rs => by
    simp only [List.map_cons, findD, List.find?_cons]
    by_cases h : c r = k
    · rw [if_pos h, decide_eq_true h]; rfl
    · rw [if_neg h, decide_eq_false h]; exact findD_map c f k rs
theorem GD_find {c : Nat → D} {wr : List Nat → D} {dn : List Nat} {x : Nat} : (findD (GK c dn) (GW c wr dn) (c x) = some (wr (dn.filter fun y => decide (c y = c x)))) ∨ (findD (GK c dn) (GW c wr dn) (c x) = none ∧ dn.filter (fun y => decide (c y = c x)) = []) := by
  unfold GK GW
  rw [findD_map]
  cases e : (PL.reps c [] dn).find? fun r => decide (c r = c x) with
  | some r =>
    have h := of_decide_eq_true (List.find?_some (p := fun r => decide (c r = c x)) e)
    left
    rw [Option.map_some, h]
  | none =>
    right
    refine ⟨rfl, List.filter_eq_nil_iff.mpr fun y hy h => ?_⟩
    obtain ⟨r, hr, er⟩ := PL.reps_has c dn [] y (.inr hy)
    have := List.find?_eq_none.mp e r hr
    exact this (decide_eq_true (er.trans (of_decide_eq_true h)))
theorem GD_has {c : Nat → D} {wr : List Nat → D} {dn : List Nat} {x : Nat} (h : x ∈ dn) : findD (GK c dn) (GW c wr dn) (c x) = some (wr (dn.filter fun y => decide (c y = c x))) := by
  rcases GD_find (c := c) (wr := wr) (dn := dn) (x := x) with e | ⟨e, e2⟩
  · exact e
  · exact absurd (decide_eq_true rfl) (List.filter_eq_nil_iff.mp e2 x h)
theorem zip_map2' (rs : List Nat) (f g : Nat → D) : (rs.map f).zip (rs.map g) = rs.map fun p => (f p, g p) := by
  induction rs with
  | nil => rfl
  | cons p ps ih => simp [ih]
theorem GD_put {c : Nat → D} {wr : List Nat → D} {dn : List Nat} {x : Nat} : putP ((GK c dn).zip (GW c wr dn)) (c x) (wr (dn.filter (fun y => decide (c y = c x)) ++ [x])) = (PL.reps c [] (dn ++ [x])).map fun r => (c r, wr ((dn ++ [x]).filter fun y => decide (c y = c r))) := by
  unfold GK GW
  rw [zip_map2', reps_append, PL.reps, PL.reps]
  unfold putP
  have ea : (((PL.reps c [] dn).map fun r => (c r, wr (dn.filter fun y => decide (c y = c r)))).any fun p => decide (p.1 = c x)) = (PL.reps c [] dn).any fun y => decide (c y = c x) := by
    rw [List.any_map]; rfl
  rw [ea]
  by_cases h : (PL.reps c [] dn).any (fun y => decide (c y = c x)) = true
  · rw [if_pos h, if_pos h, List.map_map]
    refine List.map_congr_left fun r _ => ?_
    simp only [Function.comp]
    by_cases e : c r = c x
    · rw [if_pos e, List.filter_append, e]
      simp
    · rw [if_neg e, List.filter_append]
      have : [x].filter (fun y => decide (c y = c r)) = [] := by simp; exact fun z => e z.symm
      rw [this, List.append_nil]
  · rw [if_neg h, if_neg h, List.map_append]
    have hno : ∀ y ∈ dn, c y ≠ c x := fun y hy e => by
      obtain ⟨r, hr, er⟩ := PL.reps_has c dn [] y (.inr hy)
      exact h (List.any_eq_true.mpr ⟨r, hr, decide_eq_true (er.trans e)⟩)
    congr 1
    · refine List.map_congr_left fun r hr => ?_
      have hr' := PL.reps_mem c hr
      have : [x].filter (fun y => decide (c y = c r)) = [] := by simp; exact fun z => hno r hr' z.symm
      rw [List.filter_append, this, List.append_nil]
    · simp only [List.map_cons, List.map_nil]
      rw [List.filter_append]
      simp
/-- the dict of classes so far -/
@[reducible] def GD (c : Nat → D) (wr : List Nat → D) (dn : List Nat) : D := .dct (GK c dn) (GW c wr dn)
theorem GK_all {c : Nat → D} {dn : List Nat} {p : D → Bool} (h : ∀ x ∈ dn, p (c x) = true) : (GK c dn).all p = true := by
  rw [List.all_eq_true]
  intro y hy
  obtain ⟨r, hr, rfl⟩ := List.mem_map.mp hy
  exact h r (PL.reps_mem c hr)
theorem GK_len {c : Nat → D} {dn : List Nat} : (GK c dn).length ≤ dn.length := by
  have := PL.reps_len c dn []
  simpa [GK] using this
theorem gPut_GD {c : Nat → D} {wr : List Nat → D} {dn : List Nat} {x : Nat} (hk : ((flatKs (GK c dn) && (dkey (c x)).isSome) || (rawKs (GK c dn) && (Z.tupKey (c x)).isSome)) = true) (hl : dn.length ≤ 1000) : gPut (GD c wr dn) (c x) (wr (dn.filter (fun y => decide (c y = c x)) ++ [x])) = some (GD c wr (dn ++ [x])) := by
  simp only [gPut]
  rw [if_pos ⟨hk, by have := GK_len (c := c) (dn := dn); unfold LIM; omega⟩, GD_put]
  simp only [List.map_map]
  rfl
theorem dget_GD {c : Nat → D} {wr : List Nat → D} {dn : List Nat} {x : Nat} (hk : ((flatKs (GK c dn) && (dkey (c x)).isSome) || (rawKs (GK c dn) && (Z.tupKey (c x)).isSome)) = true) : dgetD (GD c wr dn) (c x) = some (findD (GK c dn) (GW c wr dn) (c x)) := by
  simp only [dgetD]
  rw [if_pos hk]
/-! ### kinds -/
@[reducible] def mkD (m : List (List Nat)) : D := .tup (m.map lnD)
theorem nkeys_fc : ∀ l : List Nat, nkeys (fcD l) = some (l.map fun k => .num ((k : Nat) : Int))
  | [] => rfl
  | x :: l => by
    have := nkeys_fc l
    simp only [fcD, List.map_cons] at this ⊢
    rw [nkeys, this]; rfl
theorem nkeys_mk : ∀ m : List (List Nat), nkeys (m.map lnD) = some (m.map fun l => .tup (l.map fun k => .num ((k : Nat) : Int)))
  | [] => rfl
  | l :: m => by
    rw [List.map_cons, nkeys, nkey, nkeys_fc, nkeys_mk m]; rfl
theorem depth_fc : ∀ l : List Nat, NestedKey.depthAll (l.map fun k => .num ((k : Nat) : Int)) = 0
  | [] => rfl
  | x :: l => by rw [List.map_cons, NestedKey.depthAll, depth_fc l]; rfl
theorem depth_mk : ∀ m : List (List Nat), NestedKey.depthAll (m.map fun l => .tup (l.map fun k => .num ((k : Nat) : Int))) ≤ 1
  | [] => by simp [NestedKey.depthAll]
  | l :: m => by
    have := depth_mk m
    rw [List.map_cons, NestedKey.depthAll, NestedKey.depth, depth_fc]
    omega
theorem mk_key (m : List (List Nat)) : (Z.tupKey (mkD m)).isSome = true := by
  have e : nkey (mkD m) = some (.tup (m.map fun l => .tup (l.map fun k => .num ((k : Nat) : Int)))) := by rw [nkey, nkeys_mk]; rfl
  unfold Z.tupKey
  simp only [mkD] at e
  simp only [e]
  rw [if_pos (by rw [NestedKey.depth]; have := depth_mk m; omega)]
  rfl
theorem fcD_inj {a b : List Nat} (h : fcD a = fcD b) : a = b := by
  have : (fcD a).map toNatD = (fcD b).map toNatD := by rw [h]
  simpa [fcD, List.map_map, Function.comp_def, toNatD] using this
theorem mapl_inj : ∀ {a b : List (List Nat)}, a.map lnD = b.map lnD → a = b
  | [], [], _ => rfl
  | [], _ :: _, h => by simp at h
  | _ :: _, [], h => by simp at h
  | x :: a, y :: b, h => by
    simp only [List.map_cons, List.cons.injEq, D.tup.injEq] at h
    rw [fcD_inj h.1, mapl_inj h.2]
theorem mkD_inj {a b : List (List Nat)} (h : mkD a = mkD b) : a = b := mapl_inj (D.tup.inj h)
@[reducible] def gD (g : List Nat) : D := .tup (g.map tD)
@[reducible] def gL (g : List Nat) : D := .lst (g.map tD)
theorem seAll_alike : ∀ a b : List Nat, PySem.W.alikeAll (toPs (a.map tD)) (toPs (b.map tD)) = true := by
  intro a
  induction a with
  | nil => intro b; simp [toPs, PySem.W.alikeAll]
  | cons x a ih => intro b; cases b with
    | nil => simp [toPs, PySem.W.alikeAll]
    | cons y b => have := ih b; simp [toPs, toP, PySem.W.alikeAll, PySem.W.alike] at this ⊢; exact this
theorem sortOk_gD {gs : List (List Nat)} (h : ∀ g ∈ gs, g ≠ []) (hl : gs.length ≤ 1000) : sortOk (gs.map gD) = true := by
  unfold sortOk
  simp only [Bool.and_eq_true, Bool.or_eq_true, decide_eq_true_eq]
  refine ⟨⟨⟨?_, ?_⟩, .inl ?_⟩, limOk (by simp; omega)⟩
  · rw [List.all_eq_true]
    intro x hx
    obtain ⟨g, _, rfl⟩ := List.mem_map.mp hx
    simp [okE, tg_ok]
  · unfold alikeD
    rw [List.all_eq_true]
    intro x hx
    rw [List.all_eq_true]
    intro y hy
    obtain ⟨g, _, rfl⟩ := List.mem_map.mp hx
    obtain ⟨g', _, rfl⟩ := List.mem_map.mp hy
    have := seAll_alike g g'
    simpa [toP, PySem.W.alike] using this
  · rw [List.all_eq_true]
    intro x hx
    obtain ⟨g, hg, rfl⟩ := List.mem_map.mp hx
    cases g with
    | nil => exact absurd rfl (h [] hg)
    | cons y g => rfl
theorem grp_ne {α : Type} [DecidableEq α] {c : Nat → α} {l : List Nat} : ∀ g ∈ PL.grp c l, g ≠ [] := by
  intro g hg
  obtain ⟨r, hr, rfl⟩ := List.mem_map.mp hg
  exact List.ne_nil_of_mem (List.mem_filter.mpr ⟨PL.reps_mem c hr, decide_eq_true rfl⟩)
theorem grp_len {α : Type} [DecidableEq α] {c : Nat → α} {l : List Nat} : (PL.grp c l).length ≤ l.length := by
  have := PL.reps_len c l []
  simpa [PL.grp] using this
def Box.made (b : Box) (k : Nat) : Nat → List (List Nat) := PL.made b.many b.F b.S k
/-- what kinds and classes_by tell -/
def Box.X (b : Box) (k : Nat) : D := .lst (sortD ((PL.grp (b.made k) b.ths).map gD))
theorem ths_len {b : Box} (bo : b.Ok) : b.ths.length ≤ 6 := by
  have := bo.few
  simp [Box.ths, Box.tags]; omega
theorem kinds_ok {b : Box} {k : Nat} (bo : b.Ok) (hk : k ≤ 1000) (h1 : b.many ^ k ≤ 1000000) : ∃ as', g_q_kinds [.val (Box.d b), .val (.int (k : Nat))] = some (.fr (b.X k), as') := by
  have hm : 0 < b.many ∧ b.many ≤ 1000 := by have := bo.many; omega
  have tl := ths_len bo
  obtain ⟨al, el⟩ := lines_ok hm.1 hm.2 hk h1
  have hkeys : ∀ (dn : List Nat) (x : Nat), ((flatKs (GK (fun x => mkD (b.made k x)) dn) && (dkey (mkD (b.made k x))).isSome) || (rawKs (GK (fun x => mkD (b.made k x)) dn) && (Z.tupKey (mkD (b.made k x))).isSome)) = true := fun dn x => by
    rw [Bool.or_eq_true, Bool.and_eq_true, Bool.and_eq_true]
    exact .inr ⟨GK_all fun x _ => mk_key _, mk_key _⟩
  have main : WF g_q_kinds [.val (Box.d b), .val (.int (k : Nat))] fun r as' => r = .fr (b.X k) := by
    refine wf_of (by walk_at "wn") ?_
    unfold b_q_kinds
    repeat walk_at "wx"
    unfold l_q_kinds_1
    refine wb_forL b.ths tD (fun dn _ A => ∃ (s3 s4 : SV), A = [.val (Box.d b), .val (.int (k : Nat)), .own (GD (fun x => mkD (b.made k x)) gL dn), s3, s4, .un, .un] ∧ NI s3 = true ∧ NI s4 = true) ?_
    repeat walk_at "wx"
    unfold c_q_kinds_1
    refine we_lc b.rows Row.d (fun r => tD r.tag) ?_
    repeat walk_at "wx"
    refine ⟨_, _, by walk_at "wn", by walk_at "wn", rfl, limOk (by have := bo.few; omega), rfl, fun r hr => ?_, ?_⟩
    · repeat walk_at "wx"
      exact ⟨rfl, by walk_at "wn"⟩
    repeat walk_at "wx"
    refine o_addL (by have := bo.few; simp [LIM]; omega) ?_
    repeat walk_at "wx"
    refine ⟨by simp [Box.ths, Box.tags, tD, tg, TAGS], ⟨_, _, rfl, rfl, rfl⟩, ?_, ?_⟩
    · rintro dn x rest A hsp ⟨s3, s4, rfl, h3, h4⟩
      have hx : x ∈ b.ths := by rw [hsp]; exact List.mem_append.mpr (.inr List.mem_cons_self)
      have hdl : dn.length ≤ 6 := by have := congrArg List.length hsp; simp at this; omega
      repeat walk_at "wx"
      unfold c_q_kinds_2
      refine we_lc (PL.lines b.many k) lnD (fun l => lnD (PL.done b.F b.S x l)) ?_
      repeat walk_at "wx"
      refine WF.fr el ?_
      repeat walk_at "wx"
      refine ⟨_, _, by walk_at "wn", by walk_at "wn", rfl, limOk (by rw [lines_len]; omega), rfl, fun l hl => ?_, ?_⟩
      · obtain ⟨h1, h2⟩ := (PL.mem_lines _ _ l).mp hl
        obtain ⟨y, as', e⟩ := done_ok bo hx (by omega) h2
        repeat walk_at "wx"
        refine WF.d e ?_
        repeat walk_at "wx"
        exact ⟨rfl, by walk_at "wn"⟩
      · have em : ((PL.lines b.many k).map fun l => lnD (PL.done b.F b.S x l)) = (b.made k x).map lnD := by
          unfold Box.made PL.made
          rw [List.map_map]; rfl
        rw [em]
        repeat walk_at "wx"
        refine we_get2 ?_
        repeat walk_at "wx"
        refine PD.mk (by rfl) ?_
        repeat walk_at "wx"
        refine DG.mk (dget_GD (c := fun x => mkD (b.made k x)) (x := x) (hkeys dn x)) ?_
        rcases GD_find (c := fun x => mkD (b.made k x)) (wr := gL) (dn := dn) (x := x) with e | ⟨e, e2⟩
        · rw [e]
          refine ⟨fun w hw => ?_, (fun z => nomatch z)⟩
          cases hw
          repeat walk_at "wx"
          refine o_addL (by have := List.length_filter_le (fun y => decide (mkD (b.made k y) = mkD (b.made k x))) dn; simp only [List.length_map, List.length_cons, List.length_nil]; unfold LIM; omega) ?_
          repeat walk_at "wx"
          refine PT.own (by rfl) (d' := GD (fun x => mkD (b.made k x)) gL (dn ++ [x])) ?_ ?_
          · have := gPut_GD (c := fun x => mkD (b.made k x)) (wr := gL) (dn := dn) (x := x) (hkeys dn x) (by omega)
            rw [← this]
            simp [gL]
          repeat walk_at "wx"
          exact ⟨_, _, rfl, rfl, rfl⟩
        · rw [e]
          refine ⟨(fun w hw => nomatch hw), fun _ => ?_⟩
          repeat walk_at "wx"
          refine o_addL (by simp [LIM]) ?_
          repeat walk_at "wx"
          refine PT.own (by rfl) (d' := GD (fun x => mkD (b.made k x)) gL (dn ++ [x])) ?_ ?_
          · have := gPut_GD (c := fun x => mkD (b.made k x)) (wr := gL) (dn := dn) (x := x) (hkeys dn x) (by omega)
            rw [← this, e2]
            simp [gL]
          repeat walk_at "wx"
          exact ⟨_, _, rfl, rfl, rfl⟩
    · rintro A ⟨s3, s4, rfl, h3, h4⟩
      repeat walk_at "wx"
      unfold c_q_kinds_3
      refine we_lc (PL.reps (fun x => mkD (b.made k x)) [] b.ths) (fun x => mkD (b.made k x)) (fun r => gD (b.ths.filter fun x => decide (mkD (b.made k x) = mkD (b.made k r)))) ?_
      repeat walk_at "wx"
      have rl := PL.reps_len (fun x => mkD (b.made k x)) b.ths []
      refine ⟨_, _, by walk_at "wn", by walk_at "wn", rfl, limOk (by simp at rl; omega), noIo1 rfl h4, fun r hr => ?_, ?_⟩
      · have hr := PL.reps_mem _ hr
        have hf : ∀ i ∈ b.ths.filter (fun x => decide (mkD (b.made k x) = mkD (b.made k r))), i < 22 := fun i hi => bo.lt (List.mem_filter.mp hi).1
        have hfl := List.length_filter_le (fun x => decide (mkD (b.made k x) = mkD (b.made k r))) b.ths
        obtain ⟨so, es⟩ := sort_tags hf (by omega)
        rw [msort_id (bo.ths_lt.sublist List.filter_sublist)] at es
        repeat walk_at "wx"
        refine o_ixd (w := gL (b.ths.filter fun x => decide (mkD (b.made k x) = mkD (b.made k r)))) ?_ ?_
        · exact (dget_GD (c := fun x => mkD (b.made k x)) (x := r) (hkeys b.ths r)).trans (by rw [GD_has hr])
        repeat walk_at "wx"
        refine o_sorted so ?_
        rw [es]
        repeat walk_at "wx"
        exact ⟨rfl, by walk_at "wn"⟩
      · have sm : PL.Same b.ths (fun x => mkD (b.made k x)) (b.made k) := fun x _ y _ => ⟨mkD_inj, fun h => congrArg mkD h⟩
        have eg : (PL.reps (fun x => mkD (b.made k x)) [] b.ths).map (fun r => gD (b.ths.filter fun x => decide (mkD (b.made k x) = mkD (b.made k r)))) = (PL.grp (b.made k) b.ths).map gD := by
          rw [← PL.grp_same sm]
          unfold PL.grp
          rw [List.map_map]; rfl
        rw [eg]
        repeat walk_at "wx"
        refine o_sorted (sortOk_gD grp_ne (by have := grp_len (c := b.made k) (l := b.ths); omega)) ?_
        repeat walk_at "wx"
        rfl
  obtain ⟨r, as', e, rfl⟩ := main.out
  exact ⟨as', e⟩
/-- the least number of wheels by which the classes are those by m -/
def firstX (X : Nat → D) (m : Nat) : Nat → Nat → Nat
  | 0, k => k
  | f + 1, k => if X k = X m then k else firstX X m f (k + 1)
def Box.first (b : Box) (m : Nat) : Nat := firstX b.X m m 0
theorem firstX_le (X : Nat → D) (m : Nat) : ∀ f k, firstX X m f k ≤ k + f
  | 0, k => Nat.le_refl _
  | f + 1, k => by
    rw [firstX]
    split
    · omega
    · have := firstX_le X m f (k + 1); omega
theorem okE_sorted {xs : List D} {n : Nat} (h : ∀ x ∈ xs, okE n x = true) : okE (n + 1) (.lst (sortD xs)) = true := by
  rw [okE, List.all_eq_true]
  exact fun x hx => h x ((sortD_perm xs).mem_iff.mp hx)
theorem X_ok {b : Box} {k : Nat} : okE 60 (b.X k) = true := by
  refine okE_sorted (n := 59) fun x hx => ?_
  obtain ⟨g, _, rfl⟩ := List.mem_map.mp hx
  simp [okE, tg_ok]
theorem first_ok {b : Box} {m : Nat} (bo : b.Ok) (hk : m ≤ 1000) (h1 : b.many ^ m ≤ 1000000) : ∃ as', g_q_first [.val (Box.d b), .val (.int (m : Nat))] = some (.d (.int (b.first m : Nat)), as') := by
  have hm : 0 < b.many := by have := bo.many; omega
  obtain ⟨am, em⟩ := kinds_ok bo hk h1
  have main : WF g_q_first [.val (Box.d b), .val (.int (m : Nat))] fun r as' => r = .d (.int (b.first m : Nat)) := by
    refine wf_of (by walk_at "wn") ?_
    unfold b_q_first
    repeat walk_at "wx"
    unfold l_q_first_1
    refine wb_forL (List.range m) (fun j => .int ((j : Nat) : Int)) (fun dn rest A => ∃ (s2 : SV), A = [.val (Box.d b), .val (.int (m : Nat)), s2] ∧ NI s2 = true ∧ b.first m = firstX b.X m rest.length dn.length) ?_
    repeat walk_at "wx"
    refine ⟨by omega, rfl, ⟨_, rfl, rfl, by simp [Box.first]⟩, ?_, ?_⟩
    · rintro dn j rest A hsp ⟨s2, rfl, h2, hf⟩
      have hj : j = dn.length := by
        have := congrArg (fun l => l[dn.length]?) hsp
        simp only [List.getElem?_append_right (Nat.le_refl dn.length), Nat.sub_self, List.getElem?_cons_zero] at this
        obtain ⟨h, e⟩ := List.getElem?_eq_some_iff.mp this
        simpa using e.symm
      have hjm : j < m := List.mem_range.mp (by rw [hsp]; exact List.mem_append.mpr (.inr List.mem_cons_self))
      obtain ⟨aj, ej⟩ := kinds_ok (k := j) bo (by omega) (Nat.le_trans (pow_le hm (by omega)) h1)
      rw [List.length_cons, firstX, ← hj] at hf
      repeat walk_at "wx"
      refine wb_if ?_
      repeat walk_at "wx"
      refine WF.fr ej ?_
      repeat walk_at "wx"
      refine WF.fr em ?_
      repeat walk_at "wx"
      refine o_eq X_ok X_ok ?_
      repeat walk_at "wx"
      refine ⟨fun h => ?_, fun h => ?_⟩
      · rw [if_pos (of_decide_eq_true h)] at hf
        repeat walk_at "wx"
        show R.d _ = _
        rw [hf]
      · rw [if_neg (of_decide_eq_false h)] at hf
        repeat walk_at "wx"
        exact ⟨_, rfl, rfl, by rw [hf, List.length_append, ← hj]; rfl⟩
    · rintro A ⟨s2, rfl, h2, hf⟩
      rw [List.length_range] at hf
      repeat walk_at "wx"
      rw [hf]; rfl
  obtain ⟨r, as', e, rfl⟩ := main.out
  exact ⟨as', e⟩
/-! M11: plain, notes, the numbers of classes. -/
open PySem Z
open PyProof.Rows hiding St
/-! ### plain -/
def Pl (n : Nat) (x y : D) : Prop := ∃ r as', gd_plain n [.val x] = some (r, as') ∧ (r = .d y ∨ r = .fr y)
theorem isa_tup {xs : List D} : gIsa ["list", "tuple"] (.tup xs) = some (.d (.bl true)) := by simp [gIsa, isaD, tyOf]
theorem isa_lst {xs : List D} : gIsa ["list", "tuple"] (.lst xs) = some (.d (.bl true)) := by simp [gIsa, isaD, tyOf]
theorem isa_int {i : Int} : gIsa ["list", "tuple"] (.int i) = some (.d (.bl false)) := by simp [gIsa, isaD, tyOf]
theorem isa_str {i : Str} : gIsa ["list", "tuple"] (.str i) = some (.d (.bl false)) := by simp [gIsa, isaD, tyOf]
theorem Pl.leaf {n : Nat} {x : D} (h : gIsa ["list", "tuple"] x = some (.d (.bl false))) : Pl (n + 1) x x := by
  have main : WF (gd_plain (n + 1)) [.val x] fun r as' => r = .d x := by
    refine wf_of (by walk_at "wn") ?_
    unfold b_plain
    repeat walk_at "wx"
    refine we_ifF ?_
    repeat walk_at "wx"
    refine W1.d h ?_
    repeat walk_at "wx"
    refine ⟨rfl, ?_⟩
    repeat walk_at "wx"
    rfl
  obtain ⟨r, as', e, rfl⟩ := main.out
  exact ⟨_, as', e, .inl rfl⟩
theorem Pl.seq {n : Nat} {α : Type} {l : List α} {emb f : α → D} {x : D} (hx : x = .tup (l.map emb) ∨ x = .lst (l.map emb)) (hl : l.length ≤ 1000) (h : ∀ a ∈ l, Pl n (emb a) (f a)) : Pl (n + 1) x (.tup (l.map f)) := by
  have main : WF (gd_plain (n + 1)) [.val x] fun r as' => r = .d (.tup (l.map f)) := by
    refine wf_of (by walk_at "wn") ?_
    unfold b_plain
    repeat walk_at "wx"
    refine we_ifT ?_
    repeat walk_at "wx"
    refine W1.d (by rcases hx with rfl | rfl; exact isa_tup; exact isa_lst) ?_
    repeat walk_at "wx"
    refine ⟨rfl, ?_⟩
    repeat walk_at "wx"
    refine we_lc l emb f ?_
    repeat walk_at "wx"
    refine ⟨l.map emb, hx, _, _, by walk_at "wn", by walk_at "wn", rfl, limOk (by omega), rfl, fun a ha => ?_, ?_⟩
    · obtain ⟨r, as', e, hr⟩ := h a ha
      repeat walk_at "wx"
      rcases hr with rfl | rfl
      · refine WF.d e ?_
        repeat walk_at "wx"
        exact ⟨rfl, by walk_at "wn"⟩
      · refine WF.fr e ?_
        repeat walk_at "wx"
        exact ⟨rfl, by walk_at "wn"⟩
    · repeat walk_at "wx"
      rfl
  obtain ⟨r, as', e, rfl⟩ := main.out
  exact ⟨_, as', e, .inl rfl⟩
theorem Pl.tD {n i : Nat} : Pl (n + 1) (tD i) (tD i) := Pl.leaf isa_str
theorem Pl.int {n : Nat} {i : Int} : Pl (n + 1) (.int i) (.int i) := Pl.leaf isa_int
theorem Pl.fc {n : Nat} {l : List Nat} {x : D} (hx : x = .tup (fcD l) ∨ x = .lst (fcD l)) (hl : l.length ≤ 1000) : Pl (n + 2) x (.tup (fcD l)) := Pl.seq hx hl fun _ _ => Pl.int
theorem Pl.se {n : Nat} {l : List Nat} {x : D} (hx : x = .tup (seD l) ∨ x = .lst (seD l)) (hl : l.length ≤ 1000) : Pl (n + 2) x (.tup (seD l)) := Pl.seq hx hl fun _ _ => Pl.tD
@[reducible] def Row.s (r : Row) : D := .lst [tD r.tag, .lst (fcD r.faces), .lst (seD r.sent)]
@[reducible] def Box.s (b : Box) : D := .lst [.int (b.many : Nat), .lst (b.rows.map Row.s)]
theorem Pl.list {n : Nat} {ps : List (D × D)} {x y : D} (hx : x = .tup (ps.map (·.1)) ∨ x = .lst (ps.map (·.1))) (hy : y = .tup (ps.map (·.2))) (hl : ps.length ≤ 1000) (h : ∀ p ∈ ps, Pl n p.1 p.2) : Pl (n + 1) x y := by
  subst hy; exact Pl.seq hx hl h
theorem Box.Ok.small {b : Box} (bo : b.Ok) : ∀ r ∈ b.rows, r.faces.length ≤ 1000 ∧ r.sent.length ≤ 1000 := fun r hr => by
  have ro := bo.rows r hr
  have := bo.many
  rw [ro.len, ro.perm.length_eq, List.length_range]
  omega
theorem Pl.box {b : Box} (bo : b.Ok) : Pl 8 (Box.d b) (Box.d b) ∧ Pl 8 (Box.s b) (Box.d b) := by
  have few := bo.few
  constructor
  · refine Pl.list (ps := [(.int (b.many : Nat), .int (b.many : Nat)), (.tup (b.rows.map Row.d), .tup (b.rows.map Row.d))]) (.inl rfl) rfl (by simp) fun p hp => ?_
    simp only [List.mem_cons, List.not_mem_nil, or_false] at hp
    rcases hp with rfl | rfl
    · exact Pl.int
    · refine Pl.seq (.inl rfl) (by omega) fun r hr => ?_
      have := bo.small r hr
      refine Pl.list (ps := [(K72.tD r.tag, K72.tD r.tag), (.tup (fcD r.faces), .tup (fcD r.faces)), (.tup (seD r.sent), .tup (seD r.sent))]) (.inl rfl) rfl (by simp) fun p hp => ?_
      simp only [List.mem_cons, List.not_mem_nil, or_false] at hp
      rcases hp with rfl | rfl | rfl
      · exact Pl.tD
      · exact Pl.fc (.inl rfl) this.1
      · exact Pl.se (.inl rfl) this.2
  · refine Pl.list (ps := [(.int (b.many : Nat), .int (b.many : Nat)), (.lst (b.rows.map Row.s), .tup (b.rows.map Row.d))]) (.inr rfl) rfl (by simp) fun p hp => ?_
    simp only [List.mem_cons, List.not_mem_nil, or_false] at hp
    rcases hp with rfl | rfl
    · exact Pl.int
    · refine Pl.seq (.inr rfl) (by omega) fun r hr => ?_
      have := bo.small r hr
      refine Pl.list (ps := [(K72.tD r.tag, K72.tD r.tag), (.lst (fcD r.faces), .tup (fcD r.faces)), (.lst (seD r.sent), .tup (seD r.sent))]) (.inr rfl) rfl (by simp) fun p hp => ?_
      simp only [List.mem_cons, List.not_mem_nil, or_false] at hp
      rcases hp with rfl | rfl | rfl
      · exact Pl.tD
      · exact Pl.fc (.inr rfl) this.1
      · exact Pl.se (.inr rfl) this.2
/-- a box as tuples, or as lists -/
def Bx (b : Box) (x : D) : Prop := x = Box.d b ∨ x = Box.s b
theorem plain_ok {b : Box} {x : D} (bo : b.Ok) (h : Bx b x) : WF g_plain [.val x] fun r _ => r = .d (Box.d b) ∨ r = .fr (Box.d b) := by
  have := Pl.box bo
  rcases h with rfl | rfl
  · obtain ⟨r, as', e, rfl | rfl⟩ := this.1
    · exact WF.d e (.inl rfl)
    · exact WF.fr e (.inr rfl)
  · obtain ⟨r, as', e, rfl | rfl⟩ := this.2
    · exact WF.d e (.inl rfl)
    · exact WF.fr e (.inr rfl)
/-! ### notes -/
theorem notes_ok {b : Box} {x : D} (bo : b.Ok) (h : Bx b x) : ∃ as', g_notes [.val x] = some (.d (.tup (b.tags.map tD)), as') := by
  have few := bo.few
  have main : WF g_notes [.val x] fun r as' => r = .d (.tup (b.tags.map tD)) := by
    rcases h with rfl | rfl
    · refine wf_of (by walk_at "wn") ?_
      unfold b_notes
      repeat walk_at "wx"
      unfold c_notes_1
      refine we_lc b.rows Row.d (fun r => tD r.tag) ?_
      repeat walk_at "wx"
      refine ⟨_, _, by walk_at "wn", by walk_at "wn", rfl, limOk (by omega), rfl, fun r hr => ?_, ?_⟩
      · repeat walk_at "wx"
        exact ⟨rfl, by walk_at "wn"⟩
      · repeat walk_at "wx"
        simp [Box.tags]
    · refine wf_of (by walk_at "wn") ?_
      unfold b_notes
      repeat walk_at "wx"
      unfold c_notes_1
      refine we_lc b.rows Row.s (fun r => tD r.tag) ?_
      repeat walk_at "wx"
      refine ⟨_, _, by walk_at "wn", by walk_at "wn", rfl, limOk (by omega), rfl, fun r hr => ?_, ?_⟩
      · repeat walk_at "wx"
        exact ⟨rfl, by walk_at "wn"⟩
      · repeat walk_at "wx"
        simp [Box.tags]
  obtain ⟨r, as', e, rfl⟩ := main.out
  exact ⟨as', e⟩
/-! ### dicts from the names -/
@[reducible] def dT (l : List Nat) (f : Nat → D) : D := .dct (l.map tD) (l.map f)
theorem dget_dT {l : List Nat} {f : Nat → D} {x : Nat} (h : x ∈ l) (hl : ∀ i ∈ l, i < 22) : dgetD (dT l f) (tD x) = some (some (f x)) := by
  have e : findD (l.map tD) (l.map f) (tD x) = some (f x) := by
    rw [findD_map]
    cases e : l.find? fun r => decide (tD r = tD x) with
    | none =>
      have := List.find?_eq_none.mp e x h
      simp at this
    | some r =>
      have h1 := of_decide_eq_true (List.find?_some (p := fun r => decide (tD r = tD x)) e)
      have h2 := List.mem_of_find?_eq_some e
      have : r = x := (tD_eq (hl r h2) (hl x h)).mp h1
      rw [this]; rfl
  simp only [dgetD, flat_t, e]
  rfl
/-! ### finer -/
def Box.all (b : Box) : List Row := ⟨0, List.range b.many, List.replicate b.many 0⟩ :: b.rows
theorem all_tags (b : Box) : b.all.map (·.tag) = b.ths := rfl
theorem all_map {α : Type} (b : Box) (g : Nat → α) : b.all.map (fun r => g r.tag) = b.ths.map g := by
  rw [← all_tags, List.map_map]; rfl
theorem Box.Ok.all_F {b : Box} (bo : b.Ok) : ∀ r ∈ b.all, r.tag ∈ b.ths ∧ b.F r.tag = r.faces ∧ b.S r.tag = r.sent := by
  intro r hr
  rcases List.mem_cons.mp hr with rfl | hr
  · exact ⟨List.mem_cons_self, bo.F0, bo.S0⟩
  · have ht : r.tag ∈ b.tags := List.mem_map.mpr ⟨r, hr, rfl⟩
    obtain ⟨r', e, hr', et⟩ := bo.look ht
    have : r' = r := by
      have nd : (b.rows.map (·.tag)).Nodup := bo.sorted.imp (fun h e => by subst e; exact absurd h (Nat.lt_irrefl _))
      exact PL.pw_eq (c := fun r : Row => r.tag) (List.pairwise_map.mp nd) hr' hr et
    subst this
    exact ⟨List.mem_cons_of_mem _ ht, by unfold Box.F; rw [e], by unfold Box.S; rw [e]⟩
@[reducible] def thD (b : Box) : D := .tup (b.all.map Row.d)
@[reducible] def clD (b : Box) (c : Nat → Nat) : D := dT b.ths fun x => .int ((c x : Nat) : Int)
def kyD (b : Box) (c : Nat → Nat) (x : Nat) : D := .tup [.tup (fcD (b.F x)), .tup (fcD ((b.S x).map c))]
def orD (b : Box) (c : Nat → Nat) : List D := sortD (dedupD (b.ths.map (kyD b c)))
def Box.fin (b : Box) (c : Nat → Nat) (x : Nat) : Nat := (idxD (orD b c) (kyD b c x)).getD 0
theorem mem_orD {b : Box} {c : Nat → Nat} {x : Nat} (h : x ∈ b.ths) : kyD b c x ∈ orD b c := (sortD_perm _).mem_iff.mpr ((mem_dedup _ _).mpr (List.mem_map.mpr ⟨x, h, rfl⟩))
theorem orD_mem {b : Box} {c : Nat → Nat} {y : D} (h : y ∈ orD b c) : ∃ x ∈ b.ths, y = kyD b c x := by
  obtain ⟨x, hx, rfl⟩ := List.mem_map.mp ((mem_dedup _ _).mp ((sortD_perm _).mem_iff.mp h))
  exact ⟨x, hx, rfl⟩
theorem idx_has {xs : List D} {y : D} (h : y ∈ xs) : ∃ j, idxD xs y = some j ∧ xs[j]? = some y := by
  unfold idxD
  cases e : xs.findIdx? fun x => decide (x = y) with
  | none =>
    have := List.findIdx?_eq_none_iff.mp e y h
    simp at this
  | some j =>
    obtain ⟨h1, h2, _⟩ := List.findIdx?_eq_some_iff_getElem.mp e
    exact ⟨j, rfl, by rw [List.getElem?_eq_getElem h1, of_decide_eq_true h2]⟩
theorem fin_idx {b : Box} {c : Nat → Nat} {x : Nat} (h : x ∈ b.ths) : idxD (orD b c) (kyD b c x) = some (b.fin c x) ∧ (orD b c)[b.fin c x]? = some (kyD b c x) := by
  obtain ⟨j, e1, e2⟩ := idx_has (mem_orD (c := c) h)
  have : b.fin c x = j := by unfold Box.fin; rw [e1]; rfl
  rw [this]; exact ⟨e1, e2⟩
theorem fin_same {b : Box} {c : Nat → Nat} : PL.Same b.ths (b.fin c) (PL.step b.F b.S c) := by
  intro x hx y hy
  have hxx := fin_idx (c := c) hx
  have hyy := fin_idx (c := c) hy
  have key : b.fin c x = b.fin c y ↔ kyD b c x = kyD b c y := by
    constructor
    · intro e
      have h1 := hxx.2
      rw [e, hyy.2] at h1
      exact (Option.some.inj h1).symm
    · intro e
      have h1 := hxx.1
      rw [e, hyy.1] at h1
      exact (Option.some.inj h1).symm
  rw [key]
  unfold kyD PL.step
  simp only [D.tup.injEq, List.cons.injEq, and_true, Prod.mk.injEq]
  exact ⟨fun h => ⟨fcD_inj h.1, fcD_inj h.2⟩, fun h => ⟨by rw [h.1], by rw [h.2]⟩⟩
theorem numKs_num : ∀ l : List Nat, ZS.numKs (l.map fun k => .num ((k : Nat) : Int)) = true
  | [] => rfl
  | x :: l => by rw [List.map_cons, ZS.numKs, numKs_num l]; rfl
theorem ky_num {b : Box} {c : Nat → Nat} {x : Nat} : numTup (kyD b c x) = true := by
  have e : nkey (kyD b c x) = some (.tup [.tup ((b.F x).map fun k => .num ((k : Nat) : Int)), .tup (((b.S x).map c).map fun k => .num ((k : Nat) : Int))]) := by
    unfold kyD
    rw [nkey, nkeys, nkeys, nkeys, nkey, nkey, nkeys_fc, nkeys_fc]; rfl
  have et : Z.tupKey (kyD b c x) = some (.tup [.tup ((b.F x).map fun k => .num ((k : Nat) : Int)), .tup (((b.S x).map c).map fun k => .num ((k : Nat) : Int))]) := by
    unfold kyD at e ⊢
    unfold Z.tupKey
    simp only [e]
    rw [if_pos (by rw [NestedKey.depth, NestedKey.depthAll, NestedKey.depthAll, NestedKey.depthAll, NestedKey.depth, NestedKey.depth, depth_fc, depth_fc]; omega)]
  unfold numTup
  rw [et]
  simp only [ZS.numK, ZS.numKs, numKs_num, Bool.and_self]
theorem ky_ok {b : Box} {c : Nat → Nat} {x n : Nat} : okE (n + 2) (kyD b c x) = true := by
  unfold kyD
  simp [okE, fcD]
theorem fcAll_alike : ∀ a b : List Nat, PySem.W.alikeAll (toPs (fcD a)) (toPs (fcD b)) = true := by
  intro a
  induction a with
  | nil => intro b; simp [fcD, toPs, PySem.W.alikeAll]
  | cons x a ih => intro b; cases b with
    | nil => simp [fcD, toPs, PySem.W.alikeAll]
    | cons y b => have := ih b; simp [fcD, toPs, toP, PySem.W.alikeAll, PySem.W.alike] at this ⊢; exact this
theorem dedup_len (xs : List D) : (dedupD xs).length ≤ xs.length := by
  have key : ∀ (xs acc : List D), (dedupFrom acc xs).length ≤ acc.length + xs.length := by
    intro xs
    induction xs with
    | nil => intro acc; simp [dedupFrom]
    | cons x xs ih =>
      intro acc
      rw [dedupFrom]
      refine Nat.le_trans (ih _) ?_
      split <;> simp <;> omega
  simpa [dedupD] using key xs []
theorem ky_sort {b : Box} {c : Nat → Nat} (bo : b.Ok) : sortOk (dedupD (b.ths.map (kyD b c))) = true := by
  have mem : ∀ y ∈ dedupD (b.ths.map (kyD b c)), ∃ x, y = kyD b c x := fun y hy => by
    obtain ⟨x, _, rfl⟩ := List.mem_map.mp ((mem_dedup _ _).mp hy)
    exact ⟨x, rfl⟩
  unfold sortOk
  simp only [Bool.and_eq_true, Bool.or_eq_true, decide_eq_true_eq]
  refine ⟨⟨⟨?_, ?_⟩, .inl ?_⟩, limOk ?_⟩
  · rw [List.all_eq_true]
    intro y hy
    obtain ⟨x, rfl⟩ := mem y hy
    exact ky_ok
  · unfold alikeD
    rw [List.all_eq_true]
    intro y hy
    rw [List.all_eq_true]
    intro z hz
    obtain ⟨x, rfl⟩ := mem y hy
    obtain ⟨x', rfl⟩ := mem z hz
    unfold kyD
    simp only [toP, toPs, PySem.W.alike, PySem.W.alikeAll, fcAll_alike, Bool.and_self]
  · rw [List.all_eq_true]
    intro y hy
    obtain ⟨x, rfl⟩ := mem y hy
    rfl
  · have := dedup_len (b.ths.map (kyD b c))
    have := ths_len bo
    simp at *; omega
theorem finer_ok {b : Box} {c : Nat → Nat} (bo : b.Ok) : ∃ as', g_finer [.val (thD b), .val (clD b c)] = some (.fr (clD b (b.fin c)), as') := by
  have tl := ths_len bo
  have g := bo.good
  have al : b.all.length ≤ 6 := by have : b.all.length = b.ths.length := by rw [← all_tags, List.length_map]
                                   omega
  have hm : b.many ≤ 3 := by have := bo.many; omega
  have tlt : ∀ i ∈ b.ths, i < 22 := fun i hi => bo.lt hi
  have nd : b.ths.Nodup := bo.ths_lt.imp (fun h e => by subst e; exact absurd h (Nat.lt_irrefl _))
  have main : WF g_finer [.val (thD b), .val (clD b c)] fun r as' => r = .fr (clD b (b.fin c)) := by
    refine wf_of (by walk_at "wn") ?_
    unfold b_finer
    repeat walk_at "wx"
    unfold c_finer_2
    refine we_dc b.all Row.d (fun r => .inr (tg r.tag)) (fun r => kyD b c r.tag) ?_
    repeat walk_at "wx"
    refine ⟨_, _, by walk_at "wn", by walk_at "wn", rfl, limOk (by omega), rfl, ?_, fun r hr => ?_, ?_⟩
    · have : (b.all.map (fun r => r.tag)).Nodup := nd
      refine List.pairwise_map.mpr ((List.pairwise_map.mp this).imp_of_mem fun {x y} hx hy h e => h ?_)
      exact tg_inj _ _ (tlt _ (bo.all_F x hx).1) (tlt _ (bo.all_F y hy).1) (Sum.inr.inj e)
    · obtain ⟨h1, h2, h3⟩ := bo.all_F r hr
      have hc := g.cl r.tag h1
      rw [h3] at hc
      have hsl := g.sl r.tag h1
      rw [h3] at hsl
      repeat walk_at "wx"
      refine ⟨rfl, ?_⟩
      repeat walk_at "wx"
      unfold c_finer_1
      refine we_lc r.sent tD (fun y => .int ((c y : Nat) : Int)) ?_
      repeat walk_at "wx"
      refine ⟨_, _, by walk_at "wn", by walk_at "wn", rfl, limOk (by omega), rfl, fun y hy => ?_, ?_⟩
      · repeat walk_at "wx"
        refine o_ixd (dget_dT (hc y hy) tlt) ?_
        repeat walk_at "wx"
        exact ⟨rfl, by walk_at "wn"⟩
      · repeat walk_at "wx"
        refine ⟨?_, by walk_at "wn"⟩
        unfold kyD
        rw [h2, h3]
        simp [fcD, Function.comp_def]
    repeat walk_at "wx"
    rw [all_map b (kyD b c)]
    refine o_vals ?_ (by simp [Box.ths, Box.all, Box.tags]) ?_
    · unfold flatKs
      rw [List.all_eq_true]
      intro y hy
      obtain ⟨r, _, rfl⟩ := List.mem_map.mp hy
      rfl
    repeat walk_at "wx"
    refine W1.fr (z := .lst (orD b c)) ?_ ?_
    · have hn : (b.ths.map (kyD b c)).all numTup = true := by
        rw [List.all_eq_true]
        intro y hy
        obtain ⟨x, _, rfl⟩ := List.mem_map.mp hy
        exact ky_num
      have hc : (b.ths.map (kyD b c)).all numTup = true ∧ (b.ths.map (kyD b c)).length < 64 ∧ sortOk (dedupD (b.ths.map (kyD b c))) = true := ⟨hn, by rw [List.length_map]; omega, ky_sort bo⟩
      simp only [gSortedSet]
      rw [if_pos hc]
      rfl
    repeat walk_at "wx"
    unfold c_finer_3
    refine we_dc b.ths tD (fun x => .inr (tg x)) (fun x => .int ((b.fin c x : Nat) : Int)) ?_
    repeat walk_at "wx"
    refine ⟨_, _, by walk_at "wn", by walk_at "wn", ?_, limOk (by omega), rfl, ?_, fun x hx => ?_, ?_⟩
    · exact all_map b (fun x => tD x)
    · exact List.pairwise_map.mpr (nd.imp_of_mem fun {x y} hx hy h e => h (tg_inj _ _ (tlt x hx) (tlt y hy) (Sum.inr.inj e)))
    · repeat walk_at "wx"
      refine ⟨rfl, ?_⟩
      repeat walk_at "wx"
      refine o_ixd (w := kyD b c x) ?_ ?_
      · have := dget_dT (l := b.ths) (f := kyD b c) hx tlt
        rw [← this]
        unfold dT
        rw [← all_map b tD]
        rfl
      repeat walk_at "wx"
      refine o_index ?_ ky_ok (fin_idx hx).1 ?_
      · rw [List.all_eq_true]
        intro y hy
        obtain ⟨z, _, rfl⟩ := orD_mem hy
        exact ky_ok
      repeat walk_at "wx"
      exact ⟨rfl, by walk_at "wn"⟩
    · repeat walk_at "wx"
      rfl
  obtain ⟨r, as', e, rfl⟩ := main.out
  exact ⟨as', e⟩
/-! M12: numbers_by, classes_by, classes_of, sees_all. -/
open PySem Z
open PyProof.Rows hiding St
def Box.num (b : Box) : Nat → Nat → Nat
  | 0 => fun _ => 0
  | k + 1 => b.fin (b.num k)
theorem num_same {b : Box} (bo : b.Ok) : ∀ k, PL.Same b.ths (b.num k) (b.made k)
  | 0 => fun x _ y _ => ⟨fun _ => rfl, fun _ => rfl⟩
  | k + 1 => (fin_same (c := b.num k)).trans ((PL.step_same bo.good (num_same bo k)).trans (PL.made_step bo.good k).symm)
theorem MVs_dmap {A : SS} {xs : List D} {rs : List R} {Q : List D → SS → Prop} (h : MVs A rs fun ys A' => Q (xs ++ ys) A') : MVs A (xs.map R.d ++ rs) Q := by
  obtain ⟨ys, A', e, q⟩ := h
  exact ⟨_, _, by rw [mvs_d, e]; rfl, q⟩
theorem tags_nd {b : Box} (bo : b.Ok) : b.ths.Nodup := bo.ths_lt.imp (fun h e => by subst e; exact absurd h (Nat.lt_irrefl _))
theorem names_nd {b : Box} (bo : b.Ok) : (b.ths.map fun x => (Sum.inr (tg x) : Int ⊕ Str)).Nodup := List.pairwise_map.mpr ((tags_nd bo).imp_of_mem fun {x y} hx hy h e => h (tg_inj _ _ (bo.lt hx) (bo.lt hy) (Sum.inr.inj e)))
theorem numbers_ok {b : Box} {k : Nat} {x : D} (bo : b.Ok) (hb : Bx b x) (hk : k ≤ 1000) : WF g_numbers_by [.val x, .val (.int (k : Nat))] fun r _ => r = .fr (clD b (b.num (min k (b.rows.length + 1)))) ∨ r = .d (clD b (b.num (min k (b.rows.length + 1)))) := by
  have tl := ths_len bo
  have few := bo.few
  have hm : b.many ≤ 3 := by have := bo.many; omega
  have hm2 : 2 ≤ b.many := by have := bo.many; omega
  have al : b.all.length = b.rows.length + 1 := rfl
  refine wf_of (by walk_at "wn") ?_
  unfold b_numbers_by
  repeat walk_at "wx"
  refine (plain_ok bo hb).mono fun r _ hr => ?_
  have hr : MV [SV.val x, .val (.int (k : Nat)), .un, .un, .un, .un, .un, .un] r = MV [SV.val x, .val (.int (k : Nat)), .un, .un, .un, .un, .un, .un] (.d (Box.d b)) := by
    rcases hr with rfl | rfl <;> rfl
  rw [hr]
  repeat walk_at "wx"
  refine ⟨by omega, limOk (by simp; omega), ?_⟩
  repeat walk_at "wx"
  refine o_mulT hm2 (by omega) ?_
  repeat walk_at "wx"
  refine wes_star ?_
  repeat walk_at "wx"
  refine MVs_dmap ?_
  repeat walk_at "wx"
  have e0 : (D.tup [D.str "-", D.tup ((List.range b.many).map fun k => D.int ((k : Nat) : Int)), D.tup (List.replicate b.many (D.str "-"))] :: (b.rows.map Row.d ++ [])) = b.all.map Row.d := by
    have : D.str "-" = tD 0 := rfl
    rw [this, List.append_nil]
    simp [Box.all, Row.d, fcD, seD]
  rw [e0]
  refine ⟨limOk (by simp; omega), ?_⟩
  repeat walk_at "wx"
  unfold c_numbers_by_1
  refine we_dc b.all Row.d (fun r => .inr (tg r.tag)) (fun _ => .int ((0 : Nat) : Int)) ?_
  repeat walk_at "wx"
  refine ⟨_, _, by walk_at "wn", by walk_at "wn", rfl, limOk (by omega), rfl, ?_, fun r hr => ?_, ?_⟩
  · have := names_nd bo
    rw [← all_map b] at this
    exact this
  · repeat walk_at "wx"
    refine ⟨rfl, ?_⟩
    repeat walk_at "wx"
    exact ⟨rfl, by walk_at "wn"⟩
  have e1 : D.dct (b.all.map fun r => keyD (.inr (tg r.tag))) (b.all.map fun _ => .int ((0 : Nat) : Int)) = clD b (b.num 0) := by
    unfold clD dT
    congr 1
    · exact all_map b tD
    · exact all_map b (fun _ => D.int ((0 : Nat) : Int))
  rw [e1]
  repeat walk_at "wx"
  unfold l_numbers_by_1
  refine wb_forL (List.range (min k (b.rows.length + 1))) (fun j => .int ((j : Nat) : Int)) (fun dn _ A => ∃ (s0 s4 s7 : SV), A = [s0, .val (.int (k : Nat)), .val (thD b), .own (clD b (b.num dn.length)), s4, .val (.int (b.many : Nat)), .val (.tup (b.rows.map Row.d)), s7] ∧ NI s4 = true) ?_
  repeat walk_at "wx"
  have emin : (if (((b.all.map Row.d).length : Nat) : Int) < ((k : Nat) : Int) then (((b.all.map Row.d).length : Nat) : Int) else ((k : Nat) : Int)) = ((min k (b.rows.length + 1) : Nat) : Int) := by
    rw [List.length_map, al]
    split <;> omega
  refine ⟨min k (b.rows.length + 1), by rw [emin], by omega, rfl, ⟨_, _, _, rfl, rfl⟩, ?_, ?_⟩
  · rintro dn j rest A hsp ⟨s0, s4, s7, rfl, h4⟩
    obtain ⟨as', e⟩ := finer_ok (c := b.num dn.length) bo
    repeat walk_at "wx"
    refine WF.fr e ?_
    repeat walk_at "wx"
    exact ⟨_, _, _, by rw [List.length_append]; rfl, rfl⟩
  · rintro A ⟨s0, s4, s7, rfl, h4⟩
    rw [List.length_range]
    repeat walk_at "wx"
    exact .inl rfl
/-! ### the classes -/
theorem classes_gen {b : Box} {k : Nat} {x : D} (bo : b.Ok) (hb : Bx b x) (hk : k ≤ 1000) : ∃ as', g_classes_by [.val x, .val (.int (k : Nat))] = some (.fr (b.X (min k (b.rows.length + 1))), as') := by
  generalize hK : min k (b.rows.length + 1) = K
  have tl := ths_len bo
  have tlt : ∀ i ∈ b.ths, i < 22 := fun i hi => bo.lt hi
  have hkeys : ∀ (dn : List Nat) (x : Nat), ((flatKs (GK (fun x => D.int ((b.num K x : Nat) : Int)) dn) && (dkey (D.int ((b.num K x : Nat) : Int))).isSome) || (rawKs (GK (fun x => D.int ((b.num K x : Nat) : Int)) dn) && (Z.tupKey (D.int ((b.num K x : Nat) : Int))).isSome)) = true := fun dn x => by
    rw [Bool.or_eq_true, Bool.and_eq_true, Bool.and_eq_true]
    exact .inl ⟨GK_all fun x _ => rfl, rfl⟩
  have main : WF g_classes_by [.val x, .val (.int (k : Nat))] fun r as' => r = .fr (b.X K) := by
    refine wf_of (by walk_at "wn") ?_
    unfold b_classes_by
    repeat walk_at "wx"
    refine (numbers_ok bo hb hk).mono fun r _ hr => ?_
    rw [hK] at hr
    refine WE.mk (r := .fr (.dct [] [])) rfl ?_
    have hP : ∃ s3 : SV, (s3 = .own (clD b (b.num K)) ∨ s3 = .val (clD b (b.num K))) ∧ ∀ Q : Fl → SS → Prop, Q .nx [.val x, .val (.int (k : Nat)), .un, s3, .own (.dct [] [])] → RS [.val x, .val (.int (k : Nat)), .un, .un, .un] r fun q1 A3 => RS A3 (.fr (.dct [] [])) fun q2 A4 => PU 3 q1 A4 fun A5 => PU 4 q2 A5 fun A6 => Q .nx A6 := by
      rcases hr with rfl | rfl
      · refine ⟨_, .inl rfl, fun Q q => ?_⟩
        repeat walk_at "wx"
        exact q
      · refine ⟨_, .inr rfl, fun Q q => ?_⟩
        repeat walk_at "wx"
        exact q
    obtain ⟨s3, h3, hP⟩ := hP
    refine hP _ ?_
    clear hP
    repeat walk_at "wx"
    unfold l_classes_by_1
    have hv3 : ∀ A : SS, A[3]? = some s3 → evVar 3 A = some (.sl 3, A) ∧ peek A (.sl 3) = some (clD b (b.num K)) := fun A h => by
      rcases h3 with rfl | rfl
      · exact ⟨by simp only [evVar, h], by simp only [peek, h]⟩
      · exact ⟨by simp only [evVar, h], by simp only [peek, h]⟩
    have n3 : NI s3 = true := by rcases h3 with rfl | rfl <;> rfl
    obtain ⟨so, es⟩ := sort_tags tlt (by omega)
    rw [msort_id bo.ths_lt] at es
    refine wb_forL b.ths tD (fun dn _ A => ∃ (s2 : SV), A = [.val x, .val (.int (k : Nat)), s2, s3, .own (GD (fun x => D.int ((b.num K x : Nat) : Int)) gD dn)] ∧ NI s2 = true) ?_
    walk_at "wx"
    refine we_1 (WE.mk (hv3 _ rfl).1 (PK.mk (hv3 _ rfl).2 ?_))
    refine o_sortedK (flat_t b.ths id) so ?_
    rw [es]
    repeat walk_at "wx"
    refine ⟨rfl, ⟨_, rfl, rfl⟩, ?_, ?_⟩
    · rintro dn y rest A hsp ⟨s2, rfl, h2⟩
      have hy : y ∈ b.ths := by rw [hsp]; exact List.mem_append.mpr (.inr List.mem_cons_self)
      have hdl : dn.length ≤ 6 := by have := congrArg List.length hsp; simp at this; omega
      have look : ∀ {A : SS} {Q : R → SS → Prop}, A[3]? = some s3 → A[2]? = some (.val (tD y)) → Q (.d (.int ((b.num K y : Nat) : Int))) A → WE (ev2 gIxA (evVar 3) (evVar 2)) A Q := fun {A Q} e3 e2 q => by
        refine we_2 (WE.mk (hv3 A e3).1 (WE.mk (r := .sl 2) (A' := A) (by simp only [evVar, e2]) (PK.mk (hv3 A e3).2 (PK.mk (x := tD y) (by simp only [peek, e2]) ?_))))
        exact o_ixd (dget_dT hy tlt) q
      walk_at "wx"
      walk_at "wx"
      walk_at "wx"
      refine wb_put (we_2 (we_get2 (WE.mk (r := .sl 4) rfl (PD.mk (by rfl) ?_))))
      refine look rfl rfl ?_
      repeat walk_at "wx"
      refine DG.mk (dget_GD (c := fun x => D.int ((b.num K x : Nat) : Int)) (x := y) (hkeys dn y)) ?_
      rcases GD_find (c := fun x => D.int ((b.num K x : Nat) : Int)) (wr := gD) (dn := dn) (x := y) with e | ⟨e, e2⟩
      · rw [e]
        refine ⟨fun w hw => ?_, (fun z => nomatch z)⟩
        cases hw
        repeat walk_at "wx"
        refine o_addT (by have := List.length_filter_le (fun z => decide (D.int ((b.num K z : Nat) : Int) = D.int ((b.num K y : Nat) : Int))) dn; simp only [List.length_map, List.length_cons, List.length_nil]; unfold LIM; omega) ?_
        refine GO.mk (by rfl) ?_
        refine look rfl rfl ?_
        repeat walk_at "wx"
        refine PT.own (by rfl) (d' := GD (fun x => D.int ((b.num K x : Nat) : Int)) gD (dn ++ [y])) ?_ ?_
        · have := gPut_GD (c := fun x => D.int ((b.num K x : Nat) : Int)) (wr := gD) (dn := dn) (x := y) (hkeys dn y) (by omega)
          rw [← this]
          simp [gD]
        repeat walk_at "wx"
        exact ⟨_, rfl, rfl⟩
      · rw [e]
        refine ⟨(fun w hw => nomatch hw), fun _ => ?_⟩
        repeat walk_at "wx"
        refine o_addT (by simp [LIM]) ?_
        refine GO.mk (by rfl) ?_
        refine look rfl rfl ?_
        repeat walk_at "wx"
        refine PT.own (by rfl) (d' := GD (fun x => D.int ((b.num K x : Nat) : Int)) gD (dn ++ [y])) ?_ ?_
        · have := gPut_GD (c := fun x => D.int ((b.num K x : Nat) : Int)) (wr := gD) (dn := dn) (x := y) (hkeys dn y) (by omega)
          rw [← this, e2]
          simp [gD]
        repeat walk_at "wx"
        exact ⟨_, rfl, rfl⟩
    · rintro A ⟨s2, rfl, h2⟩
      repeat walk_at "wx"
      refine o_vals (GK_all fun x _ => rfl) (by simp [GK, GW]) ?_
      repeat walk_at "wx"
      have sm : PL.Same b.ths (fun x => D.int ((b.num K x : Nat) : Int)) (b.made K) := fun x hx y hy => by
        rw [← num_same bo K x hx y hy]
        exact ⟨fun h => Int.ofNat.inj (D.int.inj h), fun h => congrArg (fun n : Nat => D.int (n : Int)) h⟩
      have eg : GW (fun x => D.int ((b.num K x : Nat) : Int)) gD b.ths = (PL.grp (b.made K) b.ths).map gD := by
        rw [← PL.grp_same sm]
        unfold GW PL.grp
        rw [List.map_map]; rfl
      rw [eg]
      refine o_sorted (sortOk_gD grp_ne (by have := grp_len (c := b.made K) (l := b.ths); omega)) ?_
      repeat walk_at "wx"
      rfl
  obtain ⟨r, as', e, rfl⟩ := main.out
  exact ⟨as', e⟩
theorem classes_ok {b : Box} {k : Nat} {x : D} (bo : b.Ok) (hb : Bx b x) (hk : k ≤ b.rows.length + 1) : ∃ as', g_classes_by [.val x, .val (.int (k : Nat))] = some (.fr (b.X k), as') := by
  have few := bo.few
  have := classes_gen (k := k) bo hb (by omega)
  rwa [Nat.min_eq_left hk] at this
theorem classesOf_ok {b : Box} {x : D} (bo : b.Ok) (hb : Bx b x) : ∃ as', g_classes_of [.val x] = some (.fr (b.X b.rows.length), as') := by
  have few := bo.few
  obtain ⟨a1, e1⟩ := notes_ok bo hb
  obtain ⟨a2, e2⟩ := classes_ok (k := b.rows.length) bo hb (by omega)
  have main : WF g_classes_of [.val x] fun r as' => r = .fr (b.X b.rows.length) := by
    refine wf_of (by walk_at "wn") ?_
    unfold b_classes_of
    repeat walk_at "wx"
    refine WF.d e1 ?_
    repeat walk_at "wx"
    have : ((b.tags.map tD).length : Int) = (b.rows.length : Nat) := by simp [Box.tags]
    rw [this]
    refine WF.fr e2 ?_
    repeat walk_at "wx"
    rfl
  obtain ⟨r, as', e, rfl⟩ := main.out
  exact ⟨as', e⟩
theorem sees_ok {b : Box} {x : D} (bo : b.Ok) (hb : Bx b x) : ∃ as', g_sees_all [.val x] = some (.d (.int (b.first b.rows.length : Nat)), as') := by
  have few := bo.few
  obtain ⟨a1, e1⟩ := classesOf_ok bo hb
  have main : WF g_sees_all [.val x] fun r as' => r = .d (.int (b.first b.rows.length : Nat)) := by
    refine wf_of (by walk_at "wn") ?_
    unfold b_sees_all
    repeat walk_at "wx"
    unfold l_sees_all_1
    refine wb_while (fun k A => ∃ j : Nat, A = [.val x, .val (.int (j : Nat))] ∧ j + k = b.rows.length ∧ b.first b.rows.length = firstX b.X b.rows.length k j) ?_ 40 b.rows.length _ (by omega) ⟨0, rfl, by omega, rfl⟩
    rintro k A ⟨j, rfl, hj, hf⟩
    obtain ⟨a2, e2⟩ := classes_ok (k := j) bo hb (by omega)
    repeat walk_at "wx"
    refine WF.fr e2 ?_
    repeat walk_at "wx"
    refine WF.fr e1 ?_
    repeat walk_at "wx"
    refine o_ne X_ok X_ok ?_
    repeat walk_at "wx"
    refine ⟨fun h => ?_, fun h => ?_⟩
    · have h : b.X j = b.X b.rows.length := by simpa using h
      repeat walk_at "wx"
      have : b.first b.rows.length = j := by
        rw [hf]
        cases k with
        | zero => rfl
        | succ k => rw [firstX, if_pos h]
      rw [this]
    · have h : ¬ b.X j = b.X b.rows.length := by simpa using h
      cases k with
      | zero => exact absurd (by rw [show j = b.rows.length by omega]) h
      | succ k =>
        rw [firstX, if_neg h] at hf
        refine wb_aug (i := (j : Int)) rfl ?_
        repeat walk_at "wx"
        exact ⟨k, by omega, j + 1, rfl, by omega, hf⟩
  obtain ⟨r, as', e, rfl⟩ := main.out
  exact ⟨as', e⟩
/-! M13: alike_notes. -/
open PySem Z
open PyProof.Rows hiding St
def kyA (b : Box) (c : Nat → Nat) (x : Nat) : D := .tup [.int ((c x : Nat) : Int), .tup (fcD (b.F x)), .tup (fcD ((b.S x).map c))]
def orA (b : Box) (c : Nat → Nat) : List D := sortD (dedupD (b.ths.map (kyA b c)))
def Box.finA (b : Box) (c : Nat → Nat) (x : Nat) : Nat := (idxD (orA b c) (kyA b c x)).getD 0
theorem mem_orA {b : Box} {c : Nat → Nat} {x : Nat} (h : x ∈ b.ths) : kyA b c x ∈ orA b c := (sortD_perm _).mem_iff.mpr ((mem_dedup _ _).mpr (List.mem_map.mpr ⟨x, h, rfl⟩))
theorem orA_mem {b : Box} {c : Nat → Nat} {y : D} (h : y ∈ orA b c) : ∃ x ∈ b.ths, y = kyA b c x := by
  obtain ⟨x, hx, rfl⟩ := List.mem_map.mp ((mem_dedup _ _).mp ((sortD_perm _).mem_iff.mp h))
  exact ⟨x, hx, rfl⟩
theorem finA_idx {b : Box} {c : Nat → Nat} {x : Nat} (h : x ∈ b.ths) : idxD (orA b c) (kyA b c x) = some (b.finA c x) ∧ (orA b c)[b.finA c x]? = some (kyA b c x) := by
  obtain ⟨j, e1, e2⟩ := idx_has (mem_orA (c := c) h)
  have : b.finA c x = j := by unfold Box.finA; rw [e1]; rfl
  rw [this]; exact ⟨e1, e2⟩
theorem finA_iff {b : Box} {c : Nat → Nat} {x y : Nat} (hx : x ∈ b.ths) (hy : y ∈ b.ths) : b.finA c x = b.finA c y ↔ c x = c y ∧ PL.step b.F b.S c x = PL.step b.F b.S c y := by
  have hxx := finA_idx (c := c) hx
  have hyy := finA_idx (c := c) hy
  have key : b.finA c x = b.finA c y ↔ kyA b c x = kyA b c y := by
    constructor
    · intro e
      have h1 := hxx.2
      rw [e, hyy.2] at h1
      exact (Option.some.inj h1).symm
    · intro e
      have h1 := hxx.1
      rw [e, hyy.1] at h1
      exact (Option.some.inj h1).symm
  rw [key]
  unfold kyA PL.step
  simp only [D.tup.injEq, List.cons.injEq, and_true, Prod.mk.injEq, D.int.injEq]
  exact ⟨fun h => ⟨Int.ofNat.inj h.1, fcD_inj h.2.1, fcD_inj h.2.2⟩, fun h => ⟨by rw [h.1], by rw [h.2.1], by rw [h.2.2]⟩⟩
def Box.alk (b : Box) : Nat → Nat → Nat
  | 0 => fun _ => 0
  | k + 1 => b.finA (b.alk k)
theorem alk_same {b : Box} (bo : b.Ok) : ∀ k, PL.Same b.ths (b.alk k) (b.made k)
  | 0 => fun x _ y _ => ⟨fun _ => rfl, fun _ => rfl⟩
  | k + 1 => fun x hx y hy => by
    have ih := alk_same bo k
    show b.finA (b.alk k) x = b.finA (b.alk k) y ↔ _
    rw [finA_iff hx hy, ih x hx y hy, PL.step_same bo.good ih x hx y hy]
    have ms := PL.made_step bo.good k x hx y hy
    exact ⟨fun h => ms.mpr h.2, fun h => ⟨PL.made_mono bo.good k x hx y hy h, ms.mp h⟩⟩
theorem kyA_num {b : Box} {c : Nat → Nat} {x : Nat} : numTup (kyA b c x) = true := by
  have e : nkey (kyA b c x) = some (.tup [.num ((c x : Nat) : Int), .tup ((b.F x).map fun k => .num ((k : Nat) : Int)), .tup (((b.S x).map c).map fun k => .num ((k : Nat) : Int))]) := by
    unfold kyA
    rw [nkey, nkeys, nkeys, nkeys, nkeys, nkey, nkey, nkey, nkeys_fc, nkeys_fc]; rfl
  have et : Z.tupKey (kyA b c x) = some (.tup [.num ((c x : Nat) : Int), .tup ((b.F x).map fun k => .num ((k : Nat) : Int)), .tup (((b.S x).map c).map fun k => .num ((k : Nat) : Int))]) := by
    unfold kyA at e ⊢
    unfold Z.tupKey
    simp only [e]
    rw [if_pos (by simp only [NestedKey.depth, NestedKey.depthAll, depth_fc]; omega)]
  unfold numTup
  rw [et]
  simp only [ZS.numK, ZS.numKs, numKs_num, Bool.and_self]
theorem kyA_ok {b : Box} {c : Nat → Nat} {x n : Nat} : okE (n + 2) (kyA b c x) = true := by
  unfold kyA
  simp [okE, fcD]
theorem kyA_sort {b : Box} {c : Nat → Nat} (bo : b.Ok) : sortOk (dedupD (b.ths.map (kyA b c))) = true := by
  have mem : ∀ y ∈ dedupD (b.ths.map (kyA b c)), ∃ x, y = kyA b c x := fun y hy => by
    obtain ⟨x, _, rfl⟩ := List.mem_map.mp ((mem_dedup _ _).mp hy)
    exact ⟨x, rfl⟩
  unfold sortOk
  simp only [Bool.and_eq_true, Bool.or_eq_true, decide_eq_true_eq]
  refine ⟨⟨⟨?_, ?_⟩, .inl ?_⟩, limOk ?_⟩
  · rw [List.all_eq_true]
    intro y hy
    obtain ⟨x, rfl⟩ := mem y hy
    exact kyA_ok
  · unfold alikeD
    rw [List.all_eq_true]
    intro y hy
    rw [List.all_eq_true]
    intro z hz
    obtain ⟨x, rfl⟩ := mem y hy
    obtain ⟨x', rfl⟩ := mem z hz
    unfold kyA
    simp only [toP, toPs, PySem.W.alike, PySem.W.alikeAll, fcAll_alike, Bool.and_self]
  · rw [List.all_eq_true]
    intro y hy
    obtain ⟨x, rfl⟩ := mem y hy
    rfl
  · have := dedup_len (b.ths.map (kyA b c))
    have := ths_len bo
    simp at *; omega
/-! ### how many classes -/
theorem dedup_reps {α : Type} [DecidableEq α] (c : Nat → α) (f : α → D) (hf : ∀ a a', f a = f a' → a = a') : ∀ (xs acc : List Nat), dedupFrom (acc.map fun x => f (c x)) (xs.map fun x => f (c x)) = (PL.reps c acc xs).map fun x => f (c x)
  | [], _ => rfl
  | x :: xs, acc => by
    rw [List.map_cons, dedupFrom, PL.reps]
    have e : (acc.map fun x => f (c x)).contains (f (c x)) = acc.any fun y => decide (c y = c x) := by
      rw [Bool.eq_iff_iff, List.contains_iff_mem, List.mem_map, List.any_eq_true]
      constructor
      · rintro ⟨y, hy, e⟩; exact ⟨y, hy, decide_eq_true (hf _ _ e)⟩
      · rintro ⟨y, hy, e⟩; exact ⟨y, hy, by rw [of_decide_eq_true e]⟩
    rw [e]
    by_cases h : acc.any (fun y => decide (c y = c x)) = true
    · rw [if_pos h, if_pos h]
      exact dedup_reps c f hf xs acc
    · rw [if_neg h, if_neg h]
      have := dedup_reps c f hf xs (acc ++ [x])
      rw [List.map_append] at this
      exact this
theorem dedup_cnt {α : Type} [DecidableEq α] (c : Nat → α) (f : α → D) (hf : ∀ a a', f a = f a' → a = a') (l : List Nat) : (dedupD (l.map fun x => f (c x))).length = PL.cnt l c := by
  have := congrArg List.length (dedup_reps c f hf l [])
  simpa [dedupD, PL.cnt] using this
theorem keysD_int : ∀ l : List Int, (keysD (l.map .int)).isSome = true
  | [] => rfl
  | x :: l => by
    have := keysD_int l
    rw [List.map_cons, keysD]
    obtain ⟨k, e⟩ := Option.isSome_iff_exists.mp this
    rw [e]; rfl
theorem keysD_tD : ∀ l : List Nat, (keysD (l.map tD)).isSome = true
  | [] => rfl
  | x :: l => by
    have := keysD_tD l
    rw [List.map_cons, keysD]
    obtain ⟨k, e⟩ := Option.isSome_iff_exists.mp this
    rw [e]; rfl
theorem o_lenSet {xs : List D} {QR : R → Prop} (h1 : (keysD xs).isSome = true) (h2 : xs.length ≤ 1000) (q : QR (.d (.int ((dedupD xs).length : Nat)))) : W1 gLenSet (.lst xs) QR := W1.d (by simp only [gLenSet]; rw [if_pos ⟨h1, h2⟩]) q
def cn (b : Box) (j : Nat) : Nat := PL.cnt b.ths (b.alk j)
theorem lenSet_alk {b : Box} {j : Nat} {QR : R → Prop} (bo : b.Ok) (q : QR (.d (.int ((cn b j : Nat) : Int)))) : W1 gLenSet (.lst (b.ths.map fun x => .int ((b.alk j x : Nat) : Int))) QR := by
  have tl := ths_len bo
  refine o_lenSet ?_ (by simp; omega) ?_
  · have := keysD_int (b.ths.map fun x => ((b.alk j x : Nat) : Int))
    rw [List.map_map] at this
    exact this
  · have e := dedup_cnt (b.alk j) (fun n : Nat => D.int (n : Int)) (fun a a' h => Int.ofNat.inj (D.int.inj h)) b.ths
    rw [show (b.ths.map fun x => D.int ((b.alk j x : Nat) : Int)) = b.ths.map fun x => (fun n : Nat => D.int (n : Int)) (b.alk j x) from rfl, e]
    exact q
/-- what the walk knows behind j turns -/
def bef (b : Box) : Nat → Int
  | 0 => -1
  | j + 1 => ((cn b j : Nat) : Int)
theorem alk_stop {b : Box} {j : Nat} (bo : b.Ok) (h : ∀ i, i + 1 < j → cn b i ≠ cn b (i + 1)) : j ≤ b.rows.length + 1 := by
  cases j with
  | zero => omega
  | succ j =>
    have hl : b.ths.length = b.rows.length + 1 := by simp [Box.ths, Box.tags]
    have := PL.made_all bo.good (m := b.rows.length) (j := j) hl (fun i hi s => h i (by omega) ?_)
    · omega
    · unfold cn
      rw [PL.cnt_same (alk_same bo i), PL.cnt_same (alk_same bo (i + 1))]
      exact (PL.cnt_same s).symm
theorem alk_end {b : Box} {j : Nat} (bo : b.Ok) (h : ∀ i, i + 1 < j → cn b i ≠ cn b (i + 1)) (e : bef b j = ((cn b j : Nat) : Int)) : PL.Fin' b.ths (b.made b.rows.length) (b.alk j) := by
  have hj := alk_stop bo h
  cases j with
  | zero =>
    have e : (-1 : Int) = ((cn b 0 : Nat) : Int) := e
    omega
  | succ j =>
    have e : cn b j = cn b (j + 1) := Int.ofNat.inj e
    unfold cn at e
    rw [PL.cnt_same (alk_same bo j), PL.cnt_same (alk_same bo (j + 1))] at e
    have s : PL.Same b.ths (b.made (j + 1)) (b.made j) := PL.same_of_cnt (PL.made_mono bo.good j) e.symm
    intro x hx y hy hm
    rw [alk_same bo (j + 1) x hx y hy]
    by_cases hjm : j + 1 ≤ b.rows.length
    · exact PL.made_fin bo.good hjm x hx y hy hm
    · have : j = b.rows.length := by omega
      rw [s x hx y hy, this]
      exact hm
theorem alike_ok {b : Box} (bo : b.Ok) : ∃ j, PL.Fin' b.ths (b.made b.rows.length) (b.alk j) ∧ ∃ r as', g_alike_notes [.val (Box.d b)] = some (r, as') ∧ (r = .fr (clD b (b.alk j)) ∨ r = .d (clD b (b.alk j))) := by
  have tl := ths_len bo
  have few := bo.few
  have g := bo.good
  have hm : b.many ≤ 3 := by have := bo.many; omega
  have hm2 : 2 ≤ b.many := by have := bo.many; omega
  have al : b.all.length = b.rows.length + 1 := rfl
  have tlt : ∀ i ∈ b.ths, i < 22 := fun i hi => bo.lt hi
  have main : WF g_alike_notes [.val (Box.d b)] fun r _ => ∃ j, PL.Fin' b.ths (b.made b.rows.length) (b.alk j) ∧ (r = .fr (clD b (b.alk j)) ∨ r = .d (clD b (b.alk j))) := by
    refine wf_of (by walk_at "wn") ?_
    unfold b_alike_notes
    repeat walk_at "wx"
    refine (plain_ok bo (.inl rfl)).mono fun r _ hr => ?_
    have hr : MV [SV.val (Box.d b), .un, .un, .un, .un, .un, .un, .un, .un, .un] r = MV [SV.val (Box.d b), .un, .un, .un, .un, .un, .un, .un, .un, .un] (.d (Box.d b)) := by
      rcases hr with rfl | rfl <;> rfl
    rw [hr]
    repeat walk_at "wx"
    refine ⟨by omega, limOk (by simp; omega), ?_⟩
    repeat walk_at "wx"
    refine o_mulT hm2 (by omega) ?_
    repeat walk_at "wx"
    refine wes_star ?_
    repeat walk_at "wx"
    refine MVs_dmap ?_
    repeat walk_at "wx"
    have e0 : (D.tup [D.str "-", D.tup ((List.range b.many).map fun k => D.int ((k : Nat) : Int)), D.tup (List.replicate b.many (D.str "-"))] :: (b.rows.map Row.d ++ [])) = b.all.map Row.d := by
      have : D.str "-" = tD 0 := rfl
      rw [this, List.append_nil]
      simp [Box.all, Row.d, fcD, seD]
    rw [e0]
    refine ⟨limOk (by simp only [List.length_map]; omega), ?_⟩
    repeat walk_at "wx"
    unfold c_alike_notes_1
    refine we_dc b.all Row.d (fun r => .inr (tg r.tag)) (fun _ => .int ((0 : Nat) : Int)) ?_
    repeat walk_at "wx"
    refine ⟨_, _, by walk_at "wn", by walk_at "wn", rfl, limOk (by omega), rfl, ?_, fun r hr => ?_, ?_⟩
    · have := names_nd bo
      rw [← all_map b] at this
      exact this
    · repeat walk_at "wx"
      refine ⟨rfl, ?_⟩
      repeat walk_at "wx"
      exact ⟨rfl, by walk_at "wn"⟩
    have e1 : D.dct (b.all.map fun r => keyD (.inr (tg r.tag))) (b.all.map fun _ => .int ((0 : Nat) : Int)) = clD b (b.alk 0) := by
      unfold clD dT
      congr 1
      · exact all_map b tD
      · exact all_map b (fun _ => D.int ((0 : Nat) : Int))
    rw [e1]
    repeat walk_at "wx"
    unfold l_alike_notes_1
    refine wb_while (fun k A => ∃ (j : Nat) (s2 s5 s6 s7 s8 s9 : SV), A = [.val (Box.d b), .val (thD b), s2, .own (clD b (b.alk j)), .val (.int (bef b j)), s5, s6, s7, s8, s9] ∧ j + k = b.rows.length + 2 ∧ (∀ i, i + 1 < j → cn b i ≠ cn b (i + 1)) ∧ NI s5 = true ∧ NI s6 = true ∧ NI s7 = true ∧ NI s8 = true ∧ NI s9 = true) ?_ 40 (b.rows.length + 2) _ (by omega) ⟨0, _, _, _, _, _, _, rfl, by omega, (fun i h => absurd h (by omega)), rfl, rfl, rfl, rfl, rfl⟩
    rintro k A ⟨j, s2, s5, s6, s7, s8, s9, rfl, hj, inv, h5, h6, h7, h8, h9⟩
    repeat walk_at "wx"
    unfold c_alike_notes_2
    refine we_lc b.ths tD (fun x => .int ((b.alk j x : Nat) : Int)) ?_
    repeat walk_at "wx"
    refine ⟨_, _, by walk_at "wn", by walk_at "wn", rfl, limOk (by omega), noIo1 rfl h8, fun x hx => ?_, ?_⟩
    · repeat walk_at "wx"
      refine o_ixd (dget_dT hx tlt) ?_
      repeat walk_at "wx"
      exact ⟨rfl, by walk_at "wn"⟩
    repeat walk_at "wx"
    refine lenSet_alk bo ?_
    repeat walk_at "wx"
    refine ⟨fun h => ?_, fun h => ?_⟩
    · have h : bef b j = ((cn b j : Nat) : Int) := by simpa using h
      repeat walk_at "wx"
      exact ⟨j, alk_end bo inv h, .inr rfl⟩
    have h : bef b j ≠ ((cn b j : Nat) : Int) := by simpa using h
    have inv' : ∀ i, i + 1 < j + 1 → cn b i ≠ cn b (i + 1) := fun i hi => by
      by_cases e : i + 1 < j
      · exact inv i e
      · have : j = i + 1 := by omega
        subst this
        exact fun e => h (by rw [bef, e])
    have hk := alk_stop bo inv'
    repeat walk_at "wx"
    unfold c_alike_notes_3
    refine we_lc b.ths tD (fun x => .int ((b.alk j x : Nat) : Int)) ?_
    repeat walk_at "wx"
    refine ⟨_, _, by walk_at "wn", by walk_at "wn", rfl, limOk (by omega), noIo1 rfl h8, fun x hx => ?_, ?_⟩
    · repeat walk_at "wx"
      refine o_ixd (dget_dT hx tlt) ?_
      repeat walk_at "wx"
      exact ⟨rfl, by walk_at "wn"⟩
    repeat walk_at "wx"
    refine lenSet_alk bo ?_
    repeat walk_at "wx"
    unfold c_alike_notes_5
    refine we_dc b.all Row.d (fun r => .inr (tg r.tag)) (fun r => kyA b (b.alk j) r.tag) ?_
    repeat walk_at "wx"
    refine ⟨_, _, by walk_at "wn", by walk_at "wn", rfl, limOk (by omega), noIo1 rfl h7, ?_, fun r hr => ?_, ?_⟩
    · have := names_nd bo
      rw [← all_map b] at this
      exact this
    · obtain ⟨g1, g2, g3⟩ := bo.all_F r hr
      have hc := g.cl r.tag g1
      rw [g3] at hc
      have hsl := g.sl r.tag g1
      rw [g3] at hsl
      repeat walk_at "wx"
      refine ⟨rfl, ?_⟩
      repeat walk_at "wx"
      refine o_ixd (dget_dT g1 tlt) ?_
      repeat walk_at "wx"
      unfold c_alike_notes_4
      refine we_lc r.sent tD (fun y => .int ((b.alk j y : Nat) : Int)) ?_
      repeat walk_at "wx"
      refine ⟨_, _, by walk_at "wn", by walk_at "wn", rfl, limOk (by omega), noIo1 rfl h9, fun y hy => ?_, ?_⟩
      · repeat walk_at "wx"
        refine o_ixd (dget_dT (hc y hy) tlt) ?_
        repeat walk_at "wx"
        exact ⟨rfl, by walk_at "wn"⟩
      · repeat walk_at "wx"
        refine ⟨?_, by walk_at "wn"⟩
        unfold kyA
        rw [g2, g3]
        simp [fcD, Function.comp_def]
    have e2 : D.dct (b.all.map fun r => keyD (.inr (tg r.tag))) (b.all.map fun r => kyA b (b.alk j) r.tag) = dT b.ths (kyA b (b.alk j)) := by
      unfold dT
      congr 1
      · exact all_map b tD
      · exact all_map b (kyA b (b.alk j))
    rw [e2]
    repeat walk_at "wx"
    unfold c_alike_notes_6
    refine we_lc b.ths tD (kyA b (b.alk j)) ?_
    repeat walk_at "wx"
    refine ⟨_, _, by walk_at "wn", by walk_at "wn", rfl, limOk (by omega), noIo1 rfl h8, fun x hx => ?_, ?_⟩
    · repeat walk_at "wx"
      refine o_ixd (dget_dT hx tlt) ?_
      repeat walk_at "wx"
      exact ⟨rfl, by walk_at "wn"⟩
    repeat walk_at "wx"
    refine W1.fr (z := .lst (orA b (b.alk j))) ?_ ?_
    · have hn : (b.ths.map (kyA b (b.alk j))).all numTup = true := by
        rw [List.all_eq_true]
        intro y hy
        obtain ⟨x, _, rfl⟩ := List.mem_map.mp hy
        exact kyA_num
      have hc : (b.ths.map (kyA b (b.alk j))).all numTup = true ∧ (b.ths.map (kyA b (b.alk j))).length < 64 ∧ sortOk (dedupD (b.ths.map (kyA b (b.alk j)))) = true := ⟨hn, by rw [List.length_map]; omega, kyA_sort bo⟩
      simp only [gSortedSet]
      rw [if_pos hc]
      rfl
    repeat walk_at "wx"
    unfold c_alike_notes_7
    refine we_dc b.ths tD (fun x => .inr (tg x)) (fun x => .int ((b.alk (j + 1) x : Nat) : Int)) ?_
    repeat walk_at "wx"
    refine ⟨_, _, by walk_at "wn", by walk_at "wn", rfl, limOk (by omega), noIo1 rfl h8, names_nd bo, fun x hx => ?_, ?_⟩
    · repeat walk_at "wx"
      refine ⟨rfl, ?_⟩
      repeat walk_at "wx"
      refine o_ixd (dget_dT hx tlt) ?_
      repeat walk_at "wx"
      refine o_index ?_ kyA_ok (finA_idx hx).1 ?_
      · rw [List.all_eq_true]
        intro y hy
        obtain ⟨z, _, rfl⟩ := orA_mem hy
        exact kyA_ok
      repeat walk_at "wx"
      exact ⟨rfl, by walk_at "wn"⟩
    · repeat walk_at "wx"
      exact ⟨b.rows.length + 1 - j, by omega, j + 1, _, _, _, _, _, _, rfl, by omega, inv', rfl, rfl, h7, h8, h9⟩
  obtain ⟨r, as', e, j, hf, hr⟩ := main.out
  exact ⟨j, hf, r, as', e, hr⟩
/-! M14: least_box. -/
open PySem Z
open PyProof.Rows hiding St
def mnD : List D → D
  | [] => tD 0
  | x :: xs => minDD x xs
theorem minDD_mem : ∀ (xs : List D) (x : D), minDD x xs = x ∨ minDD x xs ∈ xs
  | [], x => .inl rfl
  | y :: xs, x => by
    have : minDD x (y :: xs) = minDD (if dltD y x then y else x) xs := rfl
    rw [this]
    rcases minDD_mem xs (if dltD y x then y else x) with e | e
    · rw [e]
      split
      · exact .inr List.mem_cons_self
      · exact .inl rfl
    · exact .inr (List.mem_cons_of_mem _ e)
theorem mnD_tD (l : List Nat) : ∃ i, mnD (l.map tD) = tD i := by
  cases l with
  | nil => exact ⟨0, rfl⟩
  | cons x l =>
    rcases minDD_mem (l.map tD) (tD x) with e | e
    · exact ⟨x, e⟩
    · obtain ⟨i, _, h⟩ := List.mem_map.mp e
      exact ⟨i, h.symm⟩
/-- what the table tells of a note -/
def tb (b : Box) (a : Nat → Nat) (x : Nat) : D := if a x = a 0 then tD 0 else mnD ((b.tags.filter fun y => decide (a y = a x)).map tD)
theorem tb_tD (b : Box) (a : Nat → Nat) (x : Nat) : ∃ i, tb b a x = tD i := by
  unfold tb
  split
  · exact ⟨0, rfl⟩
  · exact mnD_tD _
theorem tb_same {b : Box} {a : Nat → Nat} {x y : Nat} (h : a x = a y) : tb b a x = tb b a y := by
  unfold tb
  rw [h]
theorem flat_m (l : List Nat) : flatKs (l.map tD) = true := flat_t l id
theorem putP_new {l : List Nat} {f : Nat → D} {x : Nat} {y : D} (h : ∀ i ∈ l, tD i ≠ tD x) : putP ((l.map tD).zip (l.map f)) (tD x) y = (l.map fun i => (tD i, f i)) ++ [(tD x, y)] := by
  rw [zip_map2']
  unfold putP
  rw [if_neg]
  intro ha
  obtain ⟨p, hp, hq⟩ := List.any_eq_true.mp ha
  obtain ⟨i, hi, rfl⟩ := List.mem_map.mp hp
  exact h i hi (of_decide_eq_true hq)
theorem gPut_new {l : List Nat} {f : Nat → D} {x : Nat} (h : ∀ i ∈ l, tD i ≠ tD x) (hl : l.length ≤ 1000) : gPut (dT l f) (tD x) (f x) = some (dT (l ++ [x]) f) := by
  simp only [gPut]
  rw [if_pos ⟨by rw [flat_m]; rfl, by simp only [List.length_map]; unfold LIM; omega⟩, putP_new h]
  simp [dT, Function.comp_def]
theorem findD_some {k : D} : ∀ {ks ws : List D}, ks.length = ws.length → k ∈ ks → ∃ w ∈ ws, findD ks ws k = some w
  | [], _, _, h => by cases h
  | a :: ks, [], e, _ => by cases e
  | a :: ks, w :: ws, e, h => by
    simp only [findD]
    split
    · exact ⟨w, List.mem_cons_self, rfl⟩
    · rename_i hne
      rcases List.mem_cons.mp h with rfl | h
      · exact absurd rfl hne
      · obtain ⟨w', hw, e'⟩ := findD_some (ks := ks) (ws := ws) (by simpa using e) h
        exact ⟨w', List.mem_cons_of_mem _ hw, e'⟩
theorem least_ok {b : Box} (bo : b.Ok) : ∃ (a : Nat → Nat) (y : D) (as' : SS), PL.Fin' b.ths (b.made b.rows.length) a ∧ g_least_box [.val (Box.d b)] = some (.d (.tup [y, dT b.tags (tb b a)]), as') := by
  have tl := ths_len bo
  have few := bo.few
  have tlt : ∀ i ∈ b.ths, i < 22 := fun i hi => bo.lt hi
  have ttl : ∀ i ∈ b.tags, i < 22 := fun i hi => bo.lt (List.mem_cons_of_mem _ hi)
  have tagl : b.tags.length = b.rows.length := by simp [Box.tags]
  have nd : b.tags.Nodup := (List.nodup_cons.mp (tags_nd bo)).2
  obtain ⟨j, hf, ra, aa, ea, hra⟩ := alike_ok bo
  obtain ⟨an, en⟩ := notes_ok (x := Box.d b) bo (.inl rfl)
  refine ⟨b.alk j, ?_⟩
  have main : WF g_least_box [.val (Box.d b)] fun r _ => ∃ y, r = .d (.tup [y, dT b.tags (tb b (b.alk j))]) := by
    refine wf_of (by walk_at "wn") ?_
    unfold b_least_box
    repeat walk_at "wx"
    have hP : ∃ s1 : SV, (s1 = .own (clD b (b.alk j)) ∨ s1 = .val (clD b (b.alk j))) ∧ ∀ (Q : R → SS → Prop) (Q2 : SS → Prop), (∀ as', Q ra as' = RS [.val (Box.d b), .un, .un, .un, .un, .un, .un, .un, .un, .un, .un, .un] ra fun r' A2 => PU 1 r' A2 Q2) → Q2 [.val (Box.d b), s1, .un, .un, .un, .un, .un, .un, .un, .un, .un, .un] → WF g_alike_notes [.val (Box.d b)] Q := by
      rcases hra with rfl | rfl
      · refine ⟨_, .inl rfl, fun Q Q2 h q => WF.fr ea ?_⟩
        rw [h]
        repeat walk_at "wx"
        exact q
      · refine ⟨_, .inr rfl, fun Q Q2 h q => WF.d ea ?_⟩
        rw [h]
        repeat walk_at "wx"
        exact q
    obtain ⟨s1, h1, hP⟩ := hP
    refine hP _ _ (fun _ => rfl) ?_
    clear hP
    have hv1 : ∀ A : SS, A[1]? = some s1 → evVar 1 A = some (.sl 1, A) ∧ peek A (.sl 1) = some (clD b (b.alk j)) := fun A h => by
      rcases h1 with rfl | rfl
      · exact ⟨by simp only [evVar, h], by simp only [peek, h]⟩
      · exact ⟨by simp only [evVar, h], by simp only [peek, h]⟩
    have look : ∀ {A : SS} {Q : R → SS → Prop} {e : EV} {y : Nat}, y ∈ b.ths → A[1]? = some s1 → (∃ r, e A = some (r, A) ∧ peek A r = some (tD y)) → Q (.d (.int ((b.alk j y : Nat) : Int))) A → WE (ev2 gIxA (evVar 1) e) A Q := fun {A Q e y} hy e1 ⟨r, e2, e3⟩ q => by
      refine we_2 (WE.mk (hv1 A e1).1 (WE.mk e2 (PK.mk (hv1 A e1).2 (PK.mk e3 ?_))))
      exact o_ixd (dget_dT hy tlt) q
    repeat walk_at "wx"
    unfold l_least_box_1
    refine wb_forL b.tags tD (fun dn _ A => ∃ (s3 s6 : SV), A = [.val (Box.d b), s1, .own (dT dn (tb b (b.alk j))), s3, .un, .un, s6, .un, .un, .un, .un, .un] ∧ NI s3 = true ∧ NI s6 = true) ?_
    repeat walk_at "wx"
    refine WF.d en ?_
    repeat walk_at "wx"
    refine ⟨rfl, ⟨_, _, rfl, rfl, rfl⟩, ?_, ?_⟩
    · rintro dn x rest A hsp ⟨s3, s6, rfl, h3, h6⟩
      have hx : x ∈ b.tags := by rw [hsp]; exact List.mem_append.mpr (.inr List.mem_cons_self)
      have hdl : dn.length ≤ 5 := by have := congrArg List.length hsp; simp at this; omega
      have hnew : ∀ i ∈ dn, tD i ≠ tD x := fun i hi e => by
        have hib : i ∈ b.tags := by rw [hsp]; exact List.mem_append.mpr (.inl hi)
        have : i = x := (tD_eq (ttl i hib) (ttl x hx)).mp e
        subst this
        rw [hsp] at nd
        exact (List.nodup_append.mp nd).2.2 i hi i List.mem_cons_self rfl
      repeat walk_at "wx"
      unfold c_least_box_1
      refine we_lcF b.tags tD (fun y => decide (b.alk j y = b.alk j x)) tD ?_
      repeat walk_at "wx"
      refine WF.d en ?_
      repeat walk_at "wx"
      refine ⟨_, _, by walk_at "wn", by walk_at "wn", rfl, limOk (by omega), rfl, fun y hy => ?_, ?_⟩
      · unfold Elt
        repeat walk_at "wx"
        refine WE.mk (hv1 _ rfl).1 ?_
        repeat walk_at "wx"
        refine PK.mk (hv1 _ rfl).2 ?_
        repeat walk_at "wx"
        refine o_ixd (dget_dT (List.mem_cons_of_mem _ hy) tlt) ?_
        repeat walk_at "wx"
        refine WE.mk (hv1 _ rfl).1 ?_
        repeat walk_at "wx"
        refine PK.mk (hv1 _ rfl).2 ?_
        repeat walk_at "wx"
        refine o_ixd (dget_dT (List.mem_cons_of_mem _ hx) tlt) ?_
        repeat walk_at "wx"
        refine ⟨?_, (by intro _; walk_at "wn"), fun _ => ?_⟩
        · rw [Bool.eq_iff_iff]; simp only [decide_eq_true_eq]; omega
        repeat walk_at "wx"
        exact ⟨rfl, by walk_at "wn"⟩
      repeat walk_at "wx"
      refine we_if (wt_B (we_2 ?_))
      refine look (List.mem_cons_of_mem _ hx) rfl ⟨_, rfl, rfl⟩ ?_
      refine look (y := 0) List.mem_cons_self rfl ⟨_, rfl, rfl⟩ ?_
      repeat walk_at "wx"
      refine ⟨fun h => ?_, fun h => ?_⟩
      · have h : b.alk j x = b.alk j 0 := by have := of_decide_eq_true h; omega
        repeat walk_at "wx"
        have et : tb b (b.alk j) x = D.str "-" := by unfold tb; rw [if_pos h]; rfl
        rw [← et]
        refine PT.own (by rfl) (gPut_new hnew (by omega)) ?_
        repeat walk_at "wx"
        exact ⟨_, _, rfl, rfl, rfl⟩
      · have h : ¬ b.alk j x = b.alk j 0 := fun e => of_decide_eq_false h (by rw [e])
        repeat walk_at "wx"
        have et : tb b (b.alk j) x = mnD ((b.tags.filter fun y => decide (b.alk j y = b.alk j x)).map tD) := by unfold tb; rw [if_neg h]
        have hxf : x ∈ b.tags.filter fun y => decide (b.alk j y = b.alk j x) := List.mem_filter.mpr ⟨hx, decide_eq_true rfl⟩
        have hso := (sort_tags (l := b.tags.filter fun y => decide (b.alk j y = b.alk j x)) (fun i hi => ttl i (List.mem_filter.mp hi).1) (by have := List.length_filter_le (fun y => decide (b.alk j y = b.alk j x)) b.tags; omega)).1
        refine W1.d (z := tb b (b.alk j) x) ?_ ?_
        · rw [et]
          cases ef : b.tags.filter fun y => decide (b.alk j y = b.alk j x) with
          | nil => rw [ef] at hxf; cases hxf
          | cons z zs =>
            rw [ef] at hso
            simp only [List.map_cons] at hso ⊢
            simp only [gMinD]
            have hnt : (tD z :: zs.map tD).all noTup = true := by
              rw [List.all_eq_true]
              intro w hw
              have hw : w ∈ (z :: zs).map tD := hw
              obtain ⟨i, _, rfl⟩ := List.mem_map.mp hw
              rfl
            rw [if_pos ⟨hso, hnt⟩]
            rfl
        repeat walk_at "wx"
        refine PT.own (by rfl) (gPut_new hnew (by omega)) ?_
        repeat walk_at "wx"
        exact ⟨_, _, rfl, rfl, rfl⟩
    · rintro A ⟨s3, s6, rfl, h3, h6⟩
      repeat walk_at "wx"
      unfold c_least_box_2
      refine we_lcS b.rows Row.d Row.d ?_
      repeat walk_at "wx"
      refine (plain_ok bo (.inl rfl)).mono fun r _ hr => ?_
      refine WE.mk (r := .d (.int 1)) rfl ?_
      have hr : PK [.val (Box.d b), s1, .own (dT b.tags (tb b (b.alk j))), s3, .un, .un, s6, .un, .un, .un, .un, .un] r = PK [.val (Box.d b), s1, .own (dT b.tags (tb b (b.alk j))), s3, .un, .un, s6, .un, .un, .un, .un, .un] (.d (Box.d b)) := by
        rcases hr with rfl | rfl <;> rfl
      rw [hr]
      repeat walk_at "wx"
      refine ⟨_, _, by walk_at "wn", by walk_at "wn", rfl, limOk (by omega), rfl, fun r hr => ?_, fun p => ?_⟩
      · have ht : r.tag ∈ b.tags := List.mem_map.mpr ⟨r, hr, rfl⟩
        obtain ⟨i, ei⟩ := tb_tD b (b.alk j) r.tag
        unfold EltS
        repeat walk_at "wx"
        refine o_ixd (dget_dT ht ttl) ?_
        repeat walk_at "wx"
        refine o_eq (by rw [ei]; exact tD_ok) tD_ok ?_
        repeat walk_at "wx"
        refine ⟨(by intro _; walk_at "wn"), fun _ => ?_⟩
        repeat walk_at "wx"
        exact ⟨rfl, by walk_at "wn"⟩
      repeat walk_at "wx"
      have hfl := List.length_filter_le p b.rows
      unfold c_least_box_4
      refine we_lcI (b.rows.filter p) Row.d (fun _ _ A => A = [.val (Box.d b), s1, .own (dT b.tags (tb b (b.alk j))), .un, .val (.lst ((b.rows.filter p).map Row.d)), .un, s6, .un, .un, .un, .un, .un]) ?_
      repeat walk_at "wx"
      refine ⟨_, by walk_at "wn", rfl, limOk (by omega), ?_, rfl, ?_, ?_⟩
      · simp only [noIo, List.all_cons, List.all_nil, Bool.and_true, List.getElem?_cons_succ, List.getElem?_cons_zero]
        cases s3 with
        | io y => cases h3
        | _ => rfl
      · rintro dn r rest ys A hsp rfl
        have hr : r ∈ b.rows := (List.mem_filter.mp (by rw [hsp]; exact List.mem_append.mpr (.inr List.mem_cons_self) : r ∈ b.rows.filter p)).1
        have hsm := (bo.small r hr).2
        repeat walk_at "wx"
        unfold c_least_box_3
        refine we_lcI r.sent tD (fun _ _ A => A = [.val (Box.d b), s1, .own (dT b.tags (tb b (b.alk j))), .val (tD r.tag), .val (.lst ((b.rows.filter p).map Row.d)), .un, s6, .un, .un, .val (.tup (fcD r.faces)), .val (.tup (seD r.sent)), .un]) ?_
        repeat walk_at "wx"
        refine ⟨_, by walk_at "wn", rfl, limOk (by omega), rfl, rfl, ?_, ?_⟩
        · rintro dn y rest ys A hsp rfl
          repeat walk_at "wx"
          refine we_get2 ?_
          repeat walk_at "wx"
          refine PD.mk (by rfl) ?_
          repeat walk_at "wx"
          refine DG.mk (o := findD (b.tags.map tD) (b.tags.map (tb b (b.alk j))) (tD y)) (by simp only [dgetD]; rw [if_pos (by rw [flat_m]; rfl)]) ⟨fun w hw => ?_, fun _ => ?_⟩
          · repeat walk_at "wx"
            rfl
          · repeat walk_at "wx"
            rfl
        · rintro ys A rfl
          walk_at "nb"
          repeat walk_at "wx"
          rfl
      · rintro ys A rfl
        walk_at "nb"
        repeat walk_at "wx"
        exact ⟨_, rfl⟩
  obtain ⟨r, as', e, y, rfl⟩ := main.out
  exact ⟨y, as', hf, e⟩
/-! M15: lists, same. -/
open PySem Z
open PyProof.Rows hiding St
/-! ### lists -/
def Ls (n : Nat) (x y : D) : Prop := ∃ r as', gd_q_lists n [.val x] = some (r, as') ∧ (r = .d y ∨ r = .fr y)
theorem Ls.leaf {n : Nat} {x : D} (h : gIsa ["list", "tuple"] x = some (.d (.bl false))) : Ls (n + 1) x x := by
  have main : WF (gd_q_lists (n + 1)) [.val x] fun r as' => r = .d x := by
    refine wf_of (by walk_at "wn") ?_
    unfold b_q_lists
    repeat walk_at "wx"
    refine we_ifF ?_
    repeat walk_at "wx"
    refine W1.d h ?_
    repeat walk_at "wx"
    refine ⟨rfl, ?_⟩
    repeat walk_at "wx"
    rfl
  obtain ⟨r, as', e, rfl⟩ := main.out
  exact ⟨_, as', e, .inl rfl⟩
theorem Ls.seq {n : Nat} {α : Type} {l : List α} {emb f : α → D} {x : D} (hx : x = .tup (l.map emb) ∨ x = .lst (l.map emb)) (hl : l.length ≤ 1000) (h : ∀ a ∈ l, Ls n (emb a) (f a)) : Ls (n + 1) x (.lst (l.map f)) := by
  have main : WF (gd_q_lists (n + 1)) [.val x] fun r as' => r = .fr (.lst (l.map f)) := by
    refine wf_of (by walk_at "wn") ?_
    unfold b_q_lists
    repeat walk_at "wx"
    refine we_ifT ?_
    repeat walk_at "wx"
    refine W1.d (by rcases hx with rfl | rfl; exact isa_tup; exact isa_lst) ?_
    repeat walk_at "wx"
    refine ⟨rfl, ?_⟩
    refine we_lc l emb f ?_
    repeat walk_at "wx"
    refine ⟨l.map emb, hx, _, _, by walk_at "wn", by walk_at "wn", rfl, limOk (by omega), rfl, fun a ha => ?_, ?_⟩
    · obtain ⟨r, as', e, hr⟩ := h a ha
      repeat walk_at "wx"
      rcases hr with rfl | rfl
      · refine WF.d e ?_
        repeat walk_at "wx"
        exact ⟨rfl, by walk_at "wn"⟩
      · refine WF.fr e ?_
        repeat walk_at "wx"
        exact ⟨rfl, by walk_at "wn"⟩
    · repeat walk_at "wx"
      rfl
  obtain ⟨r, as', e, rfl⟩ := main.out
  exact ⟨_, as', e, .inr rfl⟩
theorem Ls.tD {n i : Nat} : Ls (n + 1) (tD i) (tD i) := Ls.leaf isa_str
theorem Ls.int {n : Nat} {i : Int} : Ls (n + 1) (.int i) (.int i) := Ls.leaf isa_int
theorem Ls.list {n : Nat} {ps : List (D × D)} {x y : D} (hx : x = .tup (ps.map (·.1)) ∨ x = .lst (ps.map (·.1))) (hy : y = .lst (ps.map (·.2))) (hl : ps.length ≤ 1000) (h : ∀ p ∈ ps, Ls n p.1 p.2) : Ls (n + 1) x y := by
  subst hy; exact Ls.seq hx hl h
theorem Ls.box {b : Box} (bo : b.Ok) : Ls 8 (Box.d b) (Box.s b) := by
  have few := bo.few
  refine Ls.list (ps := [(.int (b.many : Nat), .int (b.many : Nat)), (.tup (b.rows.map Row.d), .lst (b.rows.map Row.s))]) (.inl rfl) rfl (by simp) fun p hp => ?_
  simp only [List.mem_cons, List.not_mem_nil, or_false] at hp
  rcases hp with rfl | rfl
  · exact Ls.int
  · refine Ls.seq (.inl rfl) (by omega) fun r hr => ?_
    have := bo.small r hr
    refine Ls.list (ps := [(K72.tD r.tag, K72.tD r.tag), (.tup (fcD r.faces), .lst (fcD r.faces)), (.tup (seD r.sent), .lst (seD r.sent))]) (.inl rfl) rfl (by simp) fun p hp => ?_
    simp only [List.mem_cons, List.not_mem_nil, or_false] at hp
    rcases hp with rfl | rfl | rfl
    · exact Ls.tD
    · exact Ls.seq (.inl rfl) this.1 fun _ _ => Ls.int
    · exact Ls.seq (.inl rfl) this.2 fun _ _ => Ls.tD
theorem lists_ok {b : Box} (bo : b.Ok) : ∃ as', g_q_lists [.val (Box.d b)] = some (.fr (Box.s b), as') := by
  have few := bo.few
  have h : Ls 8 (Box.d b) (Box.s b) := Ls.box bo
  have main : WF (gd_q_lists 8) [.val (Box.d b)] fun r as' => ∃ x, r = .fr x := by
    refine wf_of (by walk_at "wn") ?_
    unfold b_q_lists
    repeat walk_at "wx"
    refine we_ifT ?_
    repeat walk_at "wx"
    refine W1.d isa_tup ?_
    repeat walk_at "wx"
    refine ⟨rfl, ?_⟩
    refine we_lcI [D.int (b.many : Nat), .tup (b.rows.map Row.d)] id (fun _ _ A => A = [.val (Box.d b), .un]) ?_
    repeat walk_at "wx"
    refine ⟨_, by walk_at "wn", by simp, limLit rfl, rfl, rfl, ?_, ?_⟩
    · rintro dn x rest ys A hsp rfl
      have hx : x ∈ [D.int (b.many : Nat), .tup (b.rows.map Row.d)] := by rw [hsp]; exact List.mem_append.mpr (.inr List.mem_cons_self)
      have : ∃ y, Ls 7 x y := by
        simp only [List.mem_cons, List.not_mem_nil, or_false] at hx
        rcases hx with rfl | rfl
        · exact ⟨_, Ls.int⟩
        · refine ⟨_, Ls.seq (.inl rfl) (by omega) (f := Row.s) fun r hr => ?_⟩
          have := bo.small r hr
          refine Ls.list (ps := [(K72.tD r.tag, K72.tD r.tag), (.tup (fcD r.faces), .lst (fcD r.faces)), (.tup (seD r.sent), .lst (seD r.sent))]) (.inl rfl) rfl (by simp) fun p hp => ?_
          simp only [List.mem_cons, List.not_mem_nil, or_false] at hp
          rcases hp with rfl | rfl | rfl
          · exact Ls.tD
          · exact Ls.seq (.inl rfl) this.1 fun _ _ => Ls.int
          · exact Ls.seq (.inl rfl) this.2 fun _ _ => Ls.tD
      obtain ⟨y, r, as', e, hr⟩ := this
      repeat walk_at "wx"
      rcases hr with rfl | rfl
      · refine WF.d e ?_
        repeat walk_at "wx"
        walk_at "wn"
      · refine WF.fr e ?_
        repeat walk_at "wx"
        walk_at "wn"
    · rintro ys A rfl
      walk_at "nb"
      repeat walk_at "wx"
      exact ⟨_, rfl⟩
  obtain ⟨r, as', e, x, rfl⟩ := main.out
  obtain ⟨r2, as2, e2, h2⟩ := h
  rw [e] at e2
  obtain ⟨rfl, rfl⟩ := Prod.mk.inj (Option.some.inj e2)
  rcases h2 with h2 | h2
  · cases h2
  · cases h2; exact ⟨_, e⟩
/-! ### same -/
def sOk : Nat → D → Bool
  | _ + 1, .int _ => true
  | _ + 1, .str x => PyData.strOk x
  | n + 1, .tup xs => xs.all (sOk n) && decide (xs.length ≤ 1000)
  | n + 1, .lst xs => xs.all (sOk n) && decide (xs.length ≤ 1000)
  | _, _ => false
theorem o_neB {a b : Bool} {QR : R → Prop} (q : QR (.d (.bl (a != b)))) : W2 gNe (.bl a) (.bl b) QR := W2.d (by simp [gNe, okE]) q
theorem o_eqB {a b : Bool} {QR : R → Prop} (q : QR (.d (.bl (a == b)))) : W2 gEq (.bl a) (.bl b) QR := W2.d (by simp [gEq, okE]) q
theorem o_isa {cs : List String} {x : D} {t : String} {QR : R → Prop} (h : tyOf x = some t) (q : QR (.d (.bl (cs.any fun c => t == c || (t == "bool" && c == "int"))))) : W1 (gIsa cs) x QR := W1.d (by simp only [gIsa, isaD, h, Option.map_some]) q
theorem zipL_self : ∀ xs : List D, zipL xs xs = xs.map fun x => .tup [x, x]
  | [] => rfl
  | x :: xs => by rw [zipL, zipL_self xs]; rfl
theorem same_self : ∀ (n : Nat) (x : D), sOk n x = true → WF (gd_q_same n) [.val x, .val x] fun r _ => r = .d (.bl true)
  | 0, x, h => by cases x <;> cases h
  | n + 1, x, h => by
    have seq : ∀ (xs : List D) (t : String), (x = .tup xs ∨ x = .lst xs) → tyOf x = some t → (["list", "tuple"].any fun c => t == c || (t == "bool" && c == "int")) = true → xs.all (sOk n) = true → xs.length ≤ 1000 → WF (gd_q_same (n + 1)) [.val x, .val x] fun r _ => r = .d (.bl true) := by
      intro xs t hx ht hb ha hl
      have hlen : ∀ {QR : R → Prop}, QR (.d (.int (xs.length : Nat))) → W1 gLen x QR := fun {QR} q => by
        rcases hx with rfl | rfl
        · exact o_lenT q
        · exact o_lenL q
      have hz : (([x, x] : List D) = [.lst xs, .lst xs] ∨ ([x, x] : List D) = [.tup xs, .tup xs]) := by
        rcases hx with rfl | rfl
        · exact .inr rfl
        · exact .inl rfl
      refine wf_of (by walk_at "wn") ?_
      unfold b_q_same
      repeat walk_at "wx"
      refine wb_if ?_
      repeat walk_at "wx"
      refine o_isa ht ?_
      repeat walk_at "wx"
      rw [hb]
      refine ⟨fun _ => ?_, (fun h => nomatch h)⟩
      repeat walk_at "wx"
      refine wb_if ?_
      repeat walk_at "wx"
      refine o_isa ht ?_
      repeat walk_at "wx"
      refine o_isa ht ?_
      repeat walk_at "wx"
      refine o_neB ?_
      repeat walk_at "wx"
      refine ⟨fun h => absurd h (by simp), fun _ => ?_⟩
      repeat walk_at "wx"
      refine o_isa ht ?_
      repeat walk_at "wx"
      refine o_isa ht ?_
      repeat walk_at "wx"
      refine o_neB ?_
      repeat walk_at "wx"
      refine ⟨fun h => absurd h (by simp), fun _ => ?_⟩
      repeat walk_at "wx"
      refine hlen ?_
      repeat walk_at "wx"
      refine hlen ?_
      repeat walk_at "wx"
      refine ⟨fun _ => ?_, fun h => absurd h (by simp)⟩
      repeat walk_at "wx"
      refine we_lc xs (fun x => .tup [x, x]) (fun _ => .bl true) ?_
      repeat walk_at "wx"
      refine ⟨xs, xs, hz, _, _, by walk_at "wn", by walk_at "wn", zipL_self xs, limOk (by omega), rfl, fun y hy => ?_, ?_⟩
      · repeat walk_at "wx"
        refine (same_self n y (List.all_eq_true.mp ha y hy)).mono fun r _ hr => ?_
        subst hr
        repeat walk_at "wx"
        exact ⟨rfl, by walk_at "wn"⟩
      · repeat walk_at "wx"
        refine o_allT (fun y hy => by obtain ⟨z, _, rfl⟩ := List.mem_map.mp hy; rfl) ?_
        repeat walk_at "wx"
        rfl
    cases x with
    | tup xs =>
      rw [sOk, Bool.and_eq_true] at h
      exact seq xs "tuple" (.inl rfl) rfl (by decide) h.1 (of_decide_eq_true h.2)
    | lst xs =>
      rw [sOk, Bool.and_eq_true] at h
      exact seq xs "list" (.inr rfl) rfl (by decide) h.1 (of_decide_eq_true h.2)
    | int i =>
      refine wf_of (by walk_at "wn") ?_
      unfold b_q_same
      repeat walk_at "wx"
      refine wb_if ?_
      repeat walk_at "wx"
      refine W1.d isa_int ?_
      repeat walk_at "wx"
      refine ⟨(fun h => nomatch h), fun _ => ?_⟩
      repeat walk_at "wx"
      refine wb_if ?_
      repeat walk_at "wx"
      refine W2.d (z := .bl false) rfl ?_
      repeat walk_at "wx"
      refine ⟨(fun h => nomatch h), fun _ => ?_⟩
      repeat walk_at "wx"
      refine o_isa (t := "int") rfl ?_
      repeat walk_at "wx"
      refine ⟨fun h => absurd h (by decide), fun _ => ?_⟩
      repeat walk_at "wx"
      refine o_isa (t := "int") rfl ?_
      repeat walk_at "wx"
      refine ⟨fun _ => ?_, fun h => absurd h (by decide)⟩
      repeat walk_at "wx"
      refine o_isa (t := "int") rfl ?_
      repeat walk_at "wx"
      refine ⟨fun _ => ?_, fun h => absurd h (by decide)⟩
      repeat walk_at "wx"
      simp
    | str s =>
      refine wf_of (by walk_at "wn") ?_
      unfold b_q_same
      repeat walk_at "wx"
      refine wb_if ?_
      repeat walk_at "wx"
      refine W1.d isa_str ?_
      repeat walk_at "wx"
      refine ⟨(fun h => nomatch h), fun _ => ?_⟩
      repeat walk_at "wx"
      refine wb_if ?_
      repeat walk_at "wx"
      refine W2.d (z := .bl false) rfl ?_
      repeat walk_at "wx"
      refine ⟨(fun h => nomatch h), fun _ => ?_⟩
      repeat walk_at "wx"
      refine o_isa (t := "str") rfl ?_
      repeat walk_at "wx"
      refine ⟨fun _ => ?_, fun h => absurd h (by decide)⟩
      repeat walk_at "wx"
      refine o_eqS h h ?_
      repeat walk_at "wx"
      refine ⟨fun _ => ?_, fun h => absurd h (by simp)⟩
      repeat walk_at "wx"
      refine o_isa (t := "str") rfl ?_
      repeat walk_at "wx"
      refine o_isa (t := "str") rfl ?_
      repeat walk_at "wx"
      refine o_eqB ?_
      repeat walk_at "wx"
      refine ⟨fun _ => ?_, fun h => absurd h (by simp)⟩
      repeat walk_at "wx"
      refine W2.d (z := .bl false) rfl ?_
      repeat walk_at "wx"
      refine W2.d (z := .bl false) rfl ?_
      repeat walk_at "wx"
      refine o_eqB ?_
      repeat walk_at "wx"
      rfl
    | non => cases h
    | bl b => cases h
    | dct a b => cases h
    | scr a => cases h
/-! M16: one case. -/
open PySem Z
open PyProof.Rows hiding St
theorem X_sOk {b : Box} {k n : Nat} (bo : b.Ok) : sOk (n + 3) (b.X k) = true := by
  have tl := ths_len bo
  have gl := grp_len (c := b.made k) (l := b.ths)
  rw [Box.X, sOk, Bool.and_eq_true]
  refine ⟨?_, ?_⟩
  · rw [List.all_eq_true]
    intro x hx
    obtain ⟨g, hg, rfl⟩ := List.mem_map.mp ((sortD_perm _).mem_iff.mp hx)
    obtain ⟨r, hr, rfl⟩ := List.mem_map.mp hg
    have := List.length_filter_le (fun x => decide (b.made k x = b.made k r)) b.ths
    simp [sOk, tg_ok]; omega
  · refine decide_eq_true ?_
    rw [(sortD_perm _).length_eq, List.length_map]; omega
theorem sOk_lst {n : Nat} {xs : List D} (h : ∀ x ∈ xs, sOk n x = true) (hl : xs.length ≤ 1000) : sOk (n + 1) (.lst xs) = true := by
  rw [sOk, Bool.and_eq_true]
  exact ⟨List.all_eq_true.mpr h, decide_eq_true hl⟩
theorem soft_ok {b : Box} : okE 60 (Box.s b) = true := by
  simp [okE, fcD, seD, tg_ok, Box.s, Row.s]
theorem keysD_all : ∀ xs : List D, (∀ x ∈ xs, ∃ i, x = tD i) → (keysD xs).isSome = true
  | [], _ => rfl
  | x :: xs, h => by
    obtain ⟨i, rfl⟩ := h x List.mem_cons_self
    obtain ⟨k, e⟩ := Option.isSome_iff_exists.mp (keysD_all xs fun y hy => h y (List.mem_cons_of_mem _ hy))
    rw [keysD, e]; rfl
theorem dedup_one {c : D} {xs : List D} (h : ∀ x ∈ xs, x = c) (ne : xs ≠ []) : (dedupD xs).length = 1 := by
  have nd := dedup_nodup xs
  have mem := mem_dedup xs
  cases e : dedupD xs with
  | nil =>
    obtain ⟨x, hx⟩ := List.exists_mem_of_ne_nil xs ne
    have := (mem x).mpr hx
    rw [e] at this; cases this
  | cons y ys =>
    cases ys with
    | nil => rfl
    | cons z zs =>
      have hy := h y ((mem y).mp (by rw [e]; exact List.mem_cons_self))
      have hz := h z ((mem z).mp (by rw [e]; exact List.mem_cons_of_mem _ List.mem_cons_self))
      rw [e] at nd
      rw [hy, hz] at nd
      exact absurd List.mem_cons_self (List.nodup_cons.mp nd).1
theorem dget_tb {b : Box} {a : Nat → Nat} {x : Nat} (bo : b.Ok) (hx : x ∈ b.ths) : ∃ o, dgetD (dT b.tags (tb b a)) (tD x) = some o ∧ (∀ w, o = some w → w = tb b a x) ∧ (o = none → tb b a x = D.str "-") := by
  have ttl : ∀ i ∈ b.tags, i < 22 := fun i hi => bo.lt (List.mem_cons_of_mem _ hi)
  by_cases h : x ∈ b.tags
  · exact ⟨_, dget_dT h ttl, fun w hw => (Option.some.inj hw).symm, fun z => nomatch z⟩
  · have h0 : x = 0 := (List.mem_cons.mp hx).resolve_right h
    subst h0
    refine ⟨findD (b.tags.map tD) (b.tags.map (tb b a)) (tD 0), by simp only [dgetD]; rw [if_pos (by rw [flat_m]; rfl)], fun w hw => ?_, fun _ => by unfold tb; rw [if_pos rfl]; rfl⟩
    rw [findD_map] at hw
    cases e : b.tags.find? (fun r => decide (tD r = tD 0)) with
    | none => rw [e] at hw; cases hw
    | some r =>
      have h1 := of_decide_eq_true (List.find?_some (p := fun r => decide (tD r = tD 0)) e)
      have h2 := List.mem_of_find?_eq_some e
      have : r = 0 := (tD_eq (ttl r h2) (by omega)).mp h1
      subst this
      exact absurd h2 h
theorem case_ok {d : D} {k : Nat} (u : Ur k d) (hk : k + 3000 ≤ 1099511627776) : ∃ d', g_q_case_right [.io d] = some (.d (.bl true), [.io d']) ∧ Ur (k + 500) d' := by
  obtain ⟨b0, d1, e1, bo0, bl0, tw0, u1⟩ := drawn_ok (m := 4) u (by omega) (by omega) (by omega)
  obtain ⟨b, d2, e2, bo, u2⟩ := doubled_ok u1 (by omega) bo0 tw0
  have few := bo.few
  have hm : 0 < b.many ∧ b.many ≤ 3 := by have := bo.many; omega
  have hpow : ∀ j, j ≤ b.rows.length → b.many ^ j ≤ 1000000 := fun j hj => by
    have h1 : b.many ^ j ≤ 3 ^ j := Nat.pow_le_pow_left hm.2 j
    have h2 : 3 ^ j ≤ 3 ^ 5 := Nat.pow_le_pow_right (by omega) (by omega)
    have h3 : 3 ^ 5 ≤ 1000000 := by decide
    omega
  obtain ⟨al, el⟩ := lists_ok bo
  obtain ⟨a, y, aa, hf, ea⟩ := least_ok bo
  have same_ok : ∀ x : D, sOk 8 x = true → WF g_q_same [.val x, .val x] fun r _ => r = .d (.bl true) := same_self 8
  have main : WF g_q_case_right [.io d] fun r as' => r = .d (.bl true) ∧ as' = [.io d2] := by
    refine wf_of (by walk_at "wn") ?_
    unfold b_q_case_right
    repeat walk_at "wx"
    refine WF.d e1 ?_
    repeat walk_at "wx"
    refine WF.d e2 ?_
    repeat walk_at "wx"
    refine WF.fr el ?_
    repeat walk_at "wx"
    have hlen : ((b.rows.map Row.d).length : Int) = (b.rows.length : Nat) := by rw [List.length_map]
    refine WE.mono (Q := fun r A' => r = .d (.int (b.rows.length : Nat)) ∧ A' = [.io d2, .val (Box.d b), .un, .un, .un, .un, .un, .un, .un, .un, .un]) (we_if ?_) ?_
    · repeat walk_at "wx"
      refine ⟨fun h => ?_, fun _ => ?_⟩
      · have h := of_decide_eq_true h
        rw [hlen] at h
        repeat walk_at "wx"
        have : b.rows.length = 5 := by omega
        rw [this]
        exact ⟨rfl, rfl⟩
      · repeat walk_at "wx"
        rw [hlen]
        exact ⟨rfl, rfl⟩
    rintro r A' ⟨rfl, rfl⟩
    repeat walk_at "wx"
    unfold l_q_case_right_1
    refine wb_forL (List.range (b.rows.length + 1)) (fun j => .int ((j : Nat) : Int)) (fun dn _ A => ∃ (s2 s6 s8 : SV), A = [.io d2, .val (Box.d b), s2, .un, .un, .un, s6, .val (.int (b.rows.length : Nat)), s8, .un, .un] ∧ (s6 = .own (Box.s b) ∨ s6 = .val (Box.s b)) ∧ NI s2 = true ∧ NI s8 = true) ?_
    repeat walk_at "wx"
    refine ⟨(by show b.rows.length + 1 < _; omega), rfl, ⟨_, _, _, rfl, .inl rfl, rfl, rfl⟩, ?_, ?_⟩
    · rintro dn j rest A hsp ⟨s2, s6, s8, rfl, h6, h2, h8⟩
      have hj : j ≤ b.rows.length := by
        have : j ∈ List.range (b.rows.length + 1) := by rw [hsp]; exact List.mem_append.mpr (.inr List.mem_cons_self)
        have := List.mem_range.mp this
        omega
      obtain ⟨a1, k1⟩ := kinds_ok (k := j) bo (by omega) (hpow j hj)
      obtain ⟨a2, k2⟩ := classes_ok (k := j) (x := Box.d b) bo (.inl rfl) (by omega)
      obtain ⟨a3, k3⟩ := classes_ok (k := j) (x := Box.s b) bo (.inr rfl) (by omega)
      have sx : sOk 8 (.lst [b.X j, b.X j]) = true := sOk_lst (fun x hx => by
        have : x = b.X j := by simpa using hx
        rw [this]; exact X_sOk (n := 4) bo) (by simp)
      rcases h6 with rfl | rfl
      · repeat walk_at "wx"
        refine WF.fr k1 ?_
        repeat walk_at "wx"
        refine wb_if ?_
        repeat walk_at "wx"
        refine WF.fr k2 ?_
        repeat walk_at "wx"
        refine WF.fr k3 ?_
        repeat walk_at "wx"
        refine (same_ok _ sx).mono fun r _ hr => ?_
        subst hr
        repeat walk_at "wx"
        refine ⟨(fun h => nomatch h), fun _ => ?_⟩
        repeat walk_at "wx"
        exact ⟨_, _, _, rfl, .inr rfl, rfl, rfl⟩
      · repeat walk_at "wx"
        refine WF.fr k1 ?_
        repeat walk_at "wx"
        refine wb_if ?_
        repeat walk_at "wx"
        refine WF.fr k2 ?_
        repeat walk_at "wx"
        refine WF.fr k3 ?_
        repeat walk_at "wx"
        refine (same_ok _ sx).mono fun r _ hr => ?_
        subst hr
        repeat walk_at "wx"
        refine ⟨(fun h => nomatch h), fun _ => ?_⟩
        repeat walk_at "wx"
        exact ⟨_, _, _, rfl, .inr rfl, rfl, rfl⟩
    rintro A ⟨s2, s6, s8, rfl, h6, h2, h8⟩
    obtain ⟨a1, k1⟩ := classesOf_ok (x := Box.d b) bo (.inl rfl)
    obtain ⟨a2, k2⟩ := sees_ok (x := Box.d b) bo (.inl rfl)
    obtain ⟨a3, k3⟩ := classesOf_ok (x := Box.s b) bo (.inr rfl)
    obtain ⟨a4, k4⟩ := sees_ok (x := Box.s b) bo (.inr rfl)
    obtain ⟨a5, k5⟩ := kinds_ok (k := b.rows.length) bo (by omega) (hpow _ (Nat.le_refl _))
    obtain ⟨a6, k6⟩ := first_ok (m := b.rows.length) bo (by omega) (hpow _ (Nat.le_refl _))
    have mid : WB (bSet 3 (evLst (evCons (evCall 1 g_classes_of [] (evCons (evVar 1) evNil)) (evCons (evCall 1 g_sees_all [] (evCons (evVar 1) evNil)) (evCons (evCall 1 g_classes_of [] (evCons (evVar 6) evNil)) (evCons (evCall 1 g_sees_all [] (evCons (evVar 6) evNil)) evNil))))))
        [.io d2, .val (Box.d b), s2, .un, .un, .un, s6, .val (.int (b.rows.length : Nat)), s8, .un, .un] fun f A' => f = .nx ∧ A' = [.io d2, .val (Box.d b), s2, .own (.lst [b.X b.rows.length, .int (b.first b.rows.length : Nat), b.X b.rows.length, .int (b.first b.rows.length : Nat)]), .un, .un, .val (Box.s b), .val (.int (b.rows.length : Nat)), s8, .un, .un] := by
      rcases h6 with rfl | rfl
      · repeat walk_at "wx"
        refine WF.fr k1 ?_
        repeat walk_at "wx"
        refine WF.d k2 ?_
        repeat walk_at "wx"
        refine WF.fr k3 ?_
        repeat walk_at "wx"
        refine WF.d k4 ?_
        repeat walk_at "wx"
        exact ⟨rfl, rfl⟩
      · repeat walk_at "wx"
        refine WF.fr k1 ?_
        repeat walk_at "wx"
        refine WF.d k2 ?_
        repeat walk_at "wx"
        refine WF.fr k3 ?_
        repeat walk_at "wx"
        refine WF.d k4 ?_
        repeat walk_at "wx"
        exact ⟨rfl, rfl⟩
    walk_at "wx"
    walk_at "wx"
    refine wb_mid _ mid ?_
    rintro A' rfl
    repeat walk_at "wx"
    refine WF.fr k5 ?_
    repeat walk_at "wx"
    refine WF.d k6 ?_
    repeat walk_at "wx"
    refine wb_if ?_
    repeat walk_at "wx"
    refine o_addL (by simp [LIM]) ?_
    have e4 : [b.X b.rows.length, .int ((b.first b.rows.length : Nat) : Int)] ++ [b.X b.rows.length, .int ((b.first b.rows.length : Nat) : Int)] = [b.X b.rows.length, .int ((b.first b.rows.length : Nat) : Int), b.X b.rows.length, .int ((b.first b.rows.length : Nat) : Int)] := rfl
    rw [e4]
    have sx : sOk 8 (.lst [b.X b.rows.length, .int ((b.first b.rows.length : Nat) : Int), b.X b.rows.length, .int ((b.first b.rows.length : Nat) : Int)]) = true := sOk_lst (fun x hx => by
      have : x = b.X b.rows.length ∨ x = .int ((b.first b.rows.length : Nat) : Int) := by
        simp only [List.mem_cons, List.not_mem_nil, or_false] at hx
        rcases hx with h | h | h | h
        · exact .inl h
        · exact .inr h
        · exact .inl h
        · exact .inr h
      rcases this with rfl | rfl
      · exact X_sOk (n := 4) bo
      · rfl) (by simp)
    repeat walk_at "wx"
    refine (same_ok _ sx).mono fun r _ hr => ?_
    subst hr
    repeat walk_at "wx"
    refine ⟨(fun h => nomatch h), fun _ => ?_⟩
    repeat walk_at "wx"
    refine WF.fr el ?_
    repeat walk_at "wx"
    refine o_ne soft_ok soft_ok ?_
    repeat walk_at "wx"
    refine ⟨fun h => absurd h (by simp), fun _ => ?_⟩
    repeat walk_at "wx"
    refine WF.d ea ?_
    repeat walk_at "wx"
    unfold c_q_case_right_2
    refine we_lc (sortD ((PL.grp (b.made b.rows.length) b.ths).map gD)) id (fun _ => .bl true) ?_
    repeat walk_at "wx"
    have gl := grp_len (c := b.made b.rows.length) (l := b.ths)
    have tl := ths_len bo
    refine ⟨_, _, by walk_at "wn", by walk_at "wn", by simp, limOk (by rw [(sortD_perm _).length_eq, List.length_map]; omega), rfl, fun x hx => ?_, ?_⟩
    · obtain ⟨g, hg, rfl⟩ := List.mem_map.mp ((sortD_perm _).mem_iff.mp hx)
      obtain ⟨r0, hr0, rfl⟩ := List.mem_map.mp hg
      have hr0 := PL.reps_mem _ hr0
      have hfl := List.length_filter_le (fun x => decide (b.made b.rows.length x = b.made b.rows.length r0)) b.ths
      repeat walk_at "wx"
      unfold c_q_case_right_1
      refine we_lc (b.ths.filter fun x => decide (b.made b.rows.length x = b.made b.rows.length r0)) tD (tb b a) ?_
      repeat walk_at "wx"
      refine ⟨_, _, by walk_at "wn", by walk_at "wn", rfl, limOk (by omega), rfl, fun x hx => ?_, ?_⟩
      · obtain ⟨o, eo, h1, h2⟩ := dget_tb (a := a) bo (List.mem_filter.mp hx).1
        repeat walk_at "wx"
        refine we_get2 ?_
        repeat walk_at "wx"
        refine PD.mk (by rfl) ?_
        repeat walk_at "wx"
        refine DG.mk eo ⟨fun w hw => ?_, fun hn => ?_⟩
        · repeat walk_at "wx"
          exact ⟨h1 w hw, by walk_at "wn"⟩
        · repeat walk_at "wx"
          exact ⟨(h2 hn).symm, by walk_at "wn"⟩
      · repeat walk_at "wx"
        refine o_lenSet (keysD_all _ fun y hy => ?_) (by rw [List.length_map]; omega) ?_
        · obtain ⟨z, _, rfl⟩ := List.mem_map.mp hy
          exact tb_tD b a z
        have hall : ∀ y ∈ (b.ths.filter fun x => decide (b.made b.rows.length x = b.made b.rows.length r0)).map (tb b a), y = tb b a r0 := fun y hy => by
          obtain ⟨z, hz, rfl⟩ := List.mem_map.mp hy
          have hz := List.mem_filter.mp hz
          exact tb_same (hf z hz.1 r0 hr0 (of_decide_eq_true hz.2))
        have hne : (b.ths.filter fun x => decide (b.made b.rows.length x = b.made b.rows.length r0)).map (tb b a) ≠ [] := fun e => by
          have h1 : r0 ∈ b.ths.filter fun x => decide (b.made b.rows.length x = b.made b.rows.length r0) := List.mem_filter.mpr ⟨hr0, decide_eq_true rfl⟩
          rw [List.map_eq_nil_iff.mp e] at h1
          cases h1
        rw [dedup_one hall hne]
        repeat walk_at "wx"
        exact ⟨rfl, by walk_at "wn"⟩
    · repeat walk_at "wx"
      refine o_allT (fun y hy => by obtain ⟨z, _, rfl⟩ := List.mem_map.mp hy; rfl) ?_
      repeat walk_at "wx"
      exact ⟨rfl, rfl⟩
  obtain ⟨r, as', e, rfl, rfl⟩ := main.out
  exact ⟨d2, e, u2.mono (by omega)⟩
/-! M17: the cells of the script, the urn. -/
open PySem Z
open PyProof.Rows hiding St
def inD (cs : List Int) : List D := cs.map .int
theorem cut_len {α : Type} (xs : List α) (hi : Option Int) : (Z.cutD xs none hi).length = min (HT.sIx xs.length xs.length hi) xs.length := by
  unfold Z.cutD
  simp only [HT.sIx_none, Nat.sub_zero, List.drop_zero, List.length_take]
theorem cells_ok {ns : List Int} (hl : ns.length ≤ 63) {m : Nat} (hm : 0 < m) (hm2 : m ≤ 10) : ∃ cs : List Int, (∃ as', g_q_cells [.val (.scr ns), .val (.int (m : Nat))] = some (.fr (.lst (inD cs)), as')) ∧ cs.length ≤ m := by
  have l1 : (Z.cutD ns none (some (m : Int))).length = min m ns.length := by rw [cut_len, HT.sIx_nat]; omega
  have l2 : (Z.cutD ns (some (m : Int)) (some 63)).length = min 63 ns.length - min m ns.length := by
    unfold Z.cutD
    rw [HT.sIx_nat, show ((63 : Int)) = ((63 : Nat) : Int) from rfl, HT.sIx_nat]
    simp only [List.length_take, List.length_drop]
    omega
  have main : WF g_q_cells [.val (.scr ns), .val (.int (m : Nat))] fun r _ => ∃ cs : List Int, r = .fr (.lst (inD cs)) ∧ cs.length ≤ m := by
    refine wf_of (by walk_at "wn") ?_
    unfold b_q_cells
    repeat walk_at "wx"
    refine we_orV ?_
    repeat walk_at "wx"
    refine W1.fr (z := .lst (inD (Z.cutD ns none (some (m : Int))))) rfl ?_
    repeat walk_at "wx"
    have start : ∀ cs0 : List Int, (0 < cs0.length) → cs0.length ≤ m → (m < ns.length → cs0.length = m) → WB l_q_cells_1 [.val (.scr ns), .val (.int (m : Nat)), .own (.lst (inD cs0)), .un, .un, .un] (fun f A' => f = .nx ∧ ∃ (s3 s4 s5 : SV) (cs : List Int), A' = [.val (.scr ns), .val (.int (m : Nat)), .own (.lst (inD cs)), s3, s4, s5] ∧ cs.length ≤ m) := by
      intro cs0 h0 h1 h2
      unfold l_q_cells_1
      refine wb_forL ((Z.cutD ns (some (m : Int)) (some 63)).zipIdx) (fun p => .tup [.int (p.2 : Nat), .int p.1]) (fun dn _ A => ∃ (s3 s4 s5 : SV) (xs : List D) (cs : List Int), A = [.val (.scr ns), .val (.int (m : Nat)), .own (.lst xs), s3, s4, s5] ∧ xs = inD cs ∧ NI s3 = true ∧ NI s4 = true ∧ NI s5 = true ∧ cs.length = cs0.length) ?_
      repeat walk_at "wx"
      refine W1.fr (z := .lst ((Z.cutD ns (some (m : Int)) (some 63)).map .int)) rfl ?_
      repeat walk_at "wx"
      refine ⟨enumL_map D.int _ 0, ⟨_, _, _, _, cs0, rfl, rfl, rfl, rfl, rfl, rfl⟩, ?_, ?_⟩
      · rintro dn ⟨v, i⟩ rest A hsp ⟨s3, s4, s5, xs, cs, rfl, rfl, h3, h4, h5, hc⟩
        have hmem : (v, i) ∈ (Z.cutD ns (some (m : Int)) (some 63)).zipIdx := by rw [hsp]; exact List.mem_append.mpr (.inr List.mem_cons_self)
        have hi := List.snd_lt_of_mem_zipIdx hmem
        have hcm : cs.length = m := by
          rw [hc]
          refine h2 ?_
          simp at hi
          omega
        have hmod : ((i : Nat) : Int) % ((m : Nat) : Int) = ((i % m : Nat) : Int) := by omega
        have hlt : i % m < cs.length := by rw [hcm]; exact Nat.mod_lt _ hm
        repeat walk_at "wx"
        refine o_mod (by omega) ?_
        rw [hmod]
        repeat walk_at "wx"
        refine o_ixl (z := .int (cs[i % m])) (atI_nat rfl (by simpa [inD] using hlt) |>.trans (by simp [inD])) ?_
        repeat walk_at "wx"
        refine o_mulI (.inr ⟨by simp at hi; omega, by simp at hi; omega⟩) ?_
        repeat walk_at "wx"
        refine PT.own (by rfl) (put_lst (j := i % m) rfl (by simpa [inD] using hlt)) ?_
        repeat walk_at "wx"
        refine ⟨_, _, _, _, cs.set (i % m) (cs[i % m] + v * ((i : Nat) + 2)), rfl, by simp [inD, List.map_set], rfl, rfl, rfl, by simp [hc]⟩
      · rintro A ⟨s3, s4, s5, xs, cs, rfl, rfl, h3, h4, h5, hc⟩
        exact ⟨rfl, _, _, _, cs, rfl, by omega⟩
    have cont : ∀ cs0 : List Int, (0 < cs0.length) → cs0.length ≤ m → (m < ns.length → cs0.length = m) → WB l_q_cells_1 [.val (.scr ns), .val (.int (m : Nat)), .own (.lst (inD cs0)), .un, .un, .un] (NX (bRet (evVar 2)) (Ret [.val (.scr ns), .val (.int (m : Nat))] fun r _ => ∃ cs : List Int, r = .fr (.lst (inD cs)) ∧ cs.length ≤ m)) := by
      intro cs0 h0 h1 h2
      refine wb_mid _ (start cs0 h0 h1 h2) ?_
      rintro A' ⟨s3, s4, s5, cs, rfl, hc⟩
      repeat walk_at "wx"
      exact hc
    refine ⟨fun h => ?_, fun h => ?_⟩
    · repeat walk_at "wx"
      refine cont (Z.cutD ns none (some (m : Int))) ?_ (by omega) (by omega)
      have : (Z.cutD ns none (some (m : Int))) ≠ [] := fun e => by rw [e] at h; simp [inD] at h
      exact List.length_pos_iff.mpr this
    · have hn : Z.cutD ns none (some (m : Int)) = [] := by
        cases e : Z.cutD ns none (some (m : Int)) with
        | nil => rfl
        | cons x xs => rw [e] at h; simp [inD] at h
      repeat walk_at "wx"
      refine cont [0] (by simp) (by simp; omega) fun hlt => ?_
      rw [hn] at l1
      simp at l1
      omega
  obtain ⟨r, as', e, cs, rfl, hc⟩ := main.out
  exact ⟨cs, ⟨as', e⟩, hc⟩
theorem box_ok {cs : List Int} {k : Nat} (hk : k < cs.length) (h10 : cs.length ≤ 10) : ∃ (d : D), (∃ as', g_q_box [.val (.lst (inD cs)), .val (.int (k : Nat))] = some (.fr d, as')) ∧ Ur 0 d := by
  have main : WF g_q_box [.val (.lst (inD cs)), .val (.int (k : Nat))] fun r _ => ∃ d, r = .fr d ∧ Ur 0 d := by
    refine wf_of (by walk_at "wn") ?_
    unfold b_q_box
    repeat walk_at "wx"
    refine we_if ?_
    repeat walk_at "wx"
    refine ⟨fun _ => ?_, fun h => absurd (of_decide_eq_false h) (by simp [inD]; omega)⟩
    repeat walk_at "wx"
    refine o_ixl (z := .int (cs[k])) (atI_nat rfl (by simpa [inD] using hk) |>.trans (by simp [inD])) ?_
    repeat walk_at "wx"
    generalize cs[k] = c
    have hp : gPow (.int 10) (.int 18) = some (.d (.int 1000000000000000000)) := by
      simp only [gPow]
      rw [if_pos ⟨by omega, by omega, by decide⟩]
      rfl
    refine W2.d hp ?_
    repeat walk_at "wx"
    refine o_mulI (.inr (by split <;> omega)) ?_
    repeat walk_at "wx"
    refine o_mod (by omega) ?_
    repeat walk_at "wx"
    refine o_mulI (.inl ⟨by omega, by omega⟩) ?_
    repeat walk_at "wx"
    have h1 := Int.emod_nonneg c (b := 2305843009213693951) (by omega)
    have h2 := Int.emod_lt_of_pos c (b := 2305843009213693951) (by omega)
    refine ⟨_, _, _, rfl, ?_, by omega, by omega, by omega, by omega⟩
    refine Int.mul_nonneg ?_ ?_
    · split <;> omega
    · split <;> omega
  obtain ⟨r, as', e, d, rfl, hu⟩ := main.out
  exact ⟨d, ⟨as', e⟩, hu⟩
/-! M18: by hand, the law. -/
open PySem Z
open PyProof.Rows hiding St
def srt (L : List D) : Bool := L.all (okE 50) && alikeD L && decide (L.Pairwise fun a b => dleD a b = true)
theorem sortD_lit {L : List D} (h : srt L = true) : sortD L = L := by
  unfold srt at h
  rw [Bool.and_eq_true, Bool.and_eq_true] at h
  exact (sort_unique h.1.1 h.1.2 (List.Perm.refl _) (of_decide_eq_true h.2)).symm
theorem X_lit {b : Box} {k : Nat} {L : List D} (h : (PL.grp (b.made k) b.ths).map gD = L) (hs : srt L = true) : b.X k = .lst L := by
  unfold Box.X
  rw [h, sortD_lit hs]
def bDeep : Box := ⟨2, [⟨1, [0, 1], [0, 2]⟩, ⟨2, [0, 1], [0, 4]⟩, ⟨4, [1, 0], [0, 0]⟩]⟩
def bSame : Box := ⟨2, [⟨1, [1, 0], [0, 2]⟩, ⟨2, [1, 0], [0, 1]⟩, ⟨6, [0, 1], [6, 6]⟩]⟩
def bLate : Box := ⟨2, [⟨1, [1, 0], [0, 4]⟩, ⟨2, [1, 0], [0, 5]⟩, ⟨4, [0, 1], [0, 0]⟩, ⟨5, [0, 1], [2, 0]⟩]⟩
def bThree : Box := ⟨3, []⟩
def bTwo : Box := ⟨2, []⟩
theorem bDeep_ok : bDeep.Ok := by decide +kernel
theorem bSame_ok : bSame.Ok := by decide +kernel
theorem bLate_ok : bLate.Ok := by decide +kernel
theorem bThree_ok : bThree.Ok := by decide +kernel
theorem bTwo_ok : bTwo.Ok := by decide +kernel
theorem deep0 : bDeep.X 0 = .lst [gD [0, 1, 2, 4]] := X_lit (by decide +kernel) (by decide +kernel)
theorem deep1 : bDeep.X 1 = .lst [gD [0, 1, 2], gD [4]] := X_lit (by decide +kernel) (by decide +kernel)
theorem deep2 : bDeep.X 2 = .lst [gD [0, 1], gD [2], gD [4]] := X_lit (by decide +kernel) (by decide +kernel)
theorem deep3 : bDeep.X 3 = .lst [gD [0], gD [1], gD [2], gD [4]] := X_lit (by decide +kernel) (by decide +kernel)
theorem deep4 : bDeep.X 4 = .lst [gD [0], gD [1], gD [2], gD [4]] := X_lit (by decide +kernel) (by decide +kernel)
theorem deepF : bDeep.first 3 = 3 := by
  unfold Box.first
  simp only [firstX, Nat.reduceAdd, deep0, deep1, deep2, deep3]
  decide +kernel
theorem same0 : bSame.X 0 = .lst [gD [0, 1, 2, 6]] := X_lit (by decide +kernel) (by decide +kernel)
theorem same1 : bSame.X 1 = .lst [gD [0, 6], gD [1, 2]] := X_lit (by decide +kernel) (by decide +kernel)
theorem same2 : bSame.X 2 = .lst [gD [0, 6], gD [1, 2]] := X_lit (by decide +kernel) (by decide +kernel)
theorem same3 : bSame.X 3 = .lst [gD [0, 6], gD [1, 2]] := X_lit (by decide +kernel) (by decide +kernel)
theorem sameF : bSame.first 3 = 1 := by
  unfold Box.first
  simp only [firstX, Nat.reduceAdd, same0, same1, same2, same3]
  decide +kernel
theorem late0 : bLate.X 0 = .lst [gD [0, 1, 2, 4, 5]] := X_lit (by decide +kernel) (by decide +kernel)
theorem late1 : bLate.X 1 = .lst [gD [0, 4, 5], gD [1, 2]] := X_lit (by decide +kernel) (by decide +kernel)
theorem late2 : bLate.X 2 = .lst [gD [0, 4], gD [1, 2], gD [5]] := X_lit (by decide +kernel) (by decide +kernel)
theorem late3 : bLate.X 3 = .lst [gD [0, 4], gD [1], gD [2], gD [5]] := X_lit (by decide +kernel) (by decide +kernel)
theorem late4 : bLate.X 4 = .lst [gD [0, 4], gD [1], gD [2], gD [5]] := X_lit (by decide +kernel) (by decide +kernel)
theorem lateF : bLate.first 4 = 3 := by
  unfold Box.first
  simp only [firstX, Nat.reduceAdd, late0, late1, late2, late3, late4]
  decide +kernel
theorem three0 : bThree.X 0 = .lst [gD [0]] := X_lit (by decide +kernel) (by decide +kernel)
theorem threeF : bThree.first 0 = 0 := rfl
theorem two1 : bTwo.X 1 = .lst [gD [0]] := X_lit (by decide +kernel) (by decide +kernel)
theorem hand_ok : WF g_q_by_hand_right [] fun r _ => r = .d (.bl true) := by
  obtain ⟨_, d1⟩ := classesOf_ok (x := Box.d bDeep) bDeep_ok (.inl rfl)
  obtain ⟨_, d2⟩ := sees_ok (x := Box.d bDeep) bDeep_ok (.inl rfl)
  obtain ⟨_, s1⟩ := classesOf_ok (x := Box.d bSame) bSame_ok (.inl rfl)
  obtain ⟨_, s2⟩ := sees_ok (x := Box.d bSame) bSame_ok (.inl rfl)
  obtain ⟨_, l1⟩ := classes_ok (k := 1) (x := Box.d bLate) bLate_ok (.inl rfl) (by decide)
  obtain ⟨_, l2⟩ := classes_ok (k := 2) (x := Box.d bLate) bLate_ok (.inl rfl) (by decide)
  obtain ⟨_, l3⟩ := classes_ok (k := 3) (x := Box.d bLate) bLate_ok (.inl rfl) (by decide)
  obtain ⟨_, l4⟩ := sees_ok (x := Box.d bLate) bLate_ok (.inl rfl)
  obtain ⟨_, t1⟩ := classesOf_ok (x := Box.d bThree) bThree_ok (.inl rfl)
  obtain ⟨_, t2⟩ := sees_ok (x := Box.d bThree) bThree_ok (.inl rfl)
  obtain ⟨_, s3⟩ := classes_ok (k := 0) (x := Box.d bSame) bSame_ok (.inl rfl) (by decide)
  obtain ⟨_, w1⟩ := classes_gen (k := 9) (x := Box.d bTwo) bTwo_ok (.inl rfl) (by decide)
  have d1 : g_classes_of [.val (Box.d bDeep)] = some (.fr (bDeep.X 3), _) := d1
  have d2 : g_sees_all [.val (Box.d bDeep)] = some (.d (.int (bDeep.first 3 : Nat)), _) := d2
  have s1 : g_classes_of [.val (Box.d bSame)] = some (.fr (bSame.X 3), _) := s1
  have s2 : g_sees_all [.val (Box.d bSame)] = some (.d (.int (bSame.first 3 : Nat)), _) := s2
  have l4 : g_sees_all [.val (Box.d bLate)] = some (.d (.int (bLate.first 4 : Nat)), _) := l4
  have t1 : g_classes_of [.val (Box.d bThree)] = some (.fr (bThree.X 0), _) := t1
  have t2 : g_sees_all [.val (Box.d bThree)] = some (.d (.int (bThree.first 0 : Nat)), _) := t2
  have w1 : g_classes_by [.val (Box.d bTwo), .val (.int (9 : Nat))] = some (.fr (bTwo.X 1), _) := w1
  rw [deep3] at d1
  rw [deepF] at d2
  rw [same3] at s1
  rw [sameF] at s2
  rw [late1] at l1
  rw [late2] at l2
  rw [late3] at l3
  rw [lateF] at l4
  rw [three0] at t1
  rw [threeF] at t2
  rw [same0] at s3
  rw [two1] at w1
  refine wf_of (by walk_at "wn") ?_
  unfold b_q_by_hand_right
  repeat walk_at "wx"
  unfold c_q_by_hand_right_1
  refine we_lc (List.range 5) (fun k => .int ((k : Nat) : Int)) bDeep.X ?_
  repeat walk_at "wx"
  refine ⟨by decide, _, _, by walk_at "wn", by walk_at "wn", rfl, limOk (by decide), rfl, fun k hk => ?_, ?_⟩
  · have hk := List.mem_range.mp hk
    obtain ⟨_, e⟩ := classes_ok (k := k) (x := Box.d bDeep) bDeep_ok (.inl rfl) (by show k ≤ 4; omega)
    repeat walk_at "wx"
    refine WF.fr e ?_
    repeat walk_at "wx"
    exact ⟨rfl, by walk_at "wn"⟩
  have e5 : (List.range 5).map bDeep.X = [.lst [gD [0, 1, 2, 4]], .lst [gD [0, 1, 2], gD [4]], .lst [gD [0, 1], gD [2], gD [4]], .lst [gD [0], gD [1], gD [2], gD [4]], .lst [gD [0], gD [1], gD [2], gD [4]]] := by
    have : List.range 5 = [0, 1, 2, 3, 4] := by decide
    rw [this]
    simp only [List.map_cons, List.map_nil, deep0, deep1, deep2, deep3, deep4]
  rw [e5]
  repeat walk_at "wx"
  refine WF.fr d1 ?_
  repeat walk_at "wx"
  refine WF.d d2 ?_
  repeat walk_at "wx"
  refine WF.fr s1 ?_
  repeat walk_at "wx"
  refine WF.d s2 ?_
  repeat walk_at "wx"
  refine o_addL (by simp [LIM]) ?_
  repeat walk_at "wx"
  refine o_addL (by simp [LIM]) ?_
  repeat walk_at "wx"
  refine o_addT (by simp [LIM]) ?_
  repeat walk_at "wx"
  refine WF.fr l1 ?_
  repeat walk_at "wx"
  refine WF.fr l2 ?_
  repeat walk_at "wx"
  refine WF.fr l3 ?_
  repeat walk_at "wx"
  refine WF.d l4 ?_
  repeat walk_at "wx"
  refine WF.fr t1 ?_
  repeat walk_at "wx"
  refine o_addL (by simp [LIM]) ?_
  repeat walk_at "wx"
  refine o_addL (by simp [LIM]) ?_
  repeat walk_at "wx"
  refine o_addL (by simp [LIM]) ?_
  repeat walk_at "wx"
  refine WF.d t2 ?_
  repeat walk_at "wx"
  refine WF.fr s3 ?_
  repeat walk_at "wx"
  refine WF.fr w1 ?_
  repeat walk_at "wx"
  refine o_addL (by simp [LIM]) ?_
  repeat walk_at "wx"
  refine o_addL (by simp [LIM]) ?_
  repeat walk_at "wx"
  have key : ∀ x y : D, x = y → sOk 8 x = true → WF g_q_same [.val x, .val y] fun r _ => r = .d (.bl true) := fun x y e h => by
    subst e; exact same_self 8 x h
  refine (key _ _ (by decide +kernel) (by decide +kernel)).mono fun r _ hr => ?_
  subst hr
  repeat walk_at "wx"
  rfl
theorem right_ok {d : D} (u : Ur 0 d) : ∃ d', g_q_right [.io d] = some (.d (.bl true), [.io d']) := by
  have main : WF g_q_right [.io d] fun r as' => r = .d (.bl true) ∧ ∃ d', as' = [.io d'] := by
    refine wf_of (by walk_at "wn") ?_
    unfold b_q_right
    repeat walk_at "wx"
    refine hand_ok.mono fun r _ hr => ?_
    subst hr
    repeat walk_at "wx"
    refine ⟨fun _ => ?_, (fun h => nomatch h)⟩
    repeat walk_at "wx"
    unfold c_q_right_1
    refine we_lcI (List.range 6) (fun k => .int ((k : Nat) : Int)) (fun dn ys A => ∃ d', A = [.io d', .un] ∧ Ur (500 * dn.length) d' ∧ ∀ y ∈ ys, y = .bl true) ?_
    repeat walk_at "wx"
    refine ⟨by decide, _, by walk_at "wn", rfl, limOk (by decide), rfl, ⟨d, rfl, u, (fun y h => nomatch h)⟩, ?_, ?_⟩
    · rintro dn k rest ys A hsp ⟨d', rfl, u', hy⟩
      have hdl : dn.length ≤ 6 := by have := congrArg List.length hsp; simp at this; omega
      obtain ⟨d2, e, u2⟩ := case_ok u' (by omega)
      repeat walk_at "wx"
      refine WF.d e ?_
      repeat walk_at "wx"
      refine ⟨u2.mono (by simp; omega), fun y hy' => ?_⟩
      rcases List.mem_append.mp hy' with h | h
      · exact hy y h
      · exact List.mem_singleton.mp h
    · rintro ys A ⟨d', rfl, u', hy⟩
      walk_at "nb"
      repeat walk_at "wx"
      refine o_allT hy ?_
      repeat walk_at "wx"
      exact ⟨rfl, _, rfl⟩
  obtain ⟨r, as', e, rfl, d', rfl⟩ := main.out
  exact ⟨d', e⟩
theorem law_true (ns : List Int) (hl : ns.length ≤ 63) : ∃ A', g_law [.val (.scr ns)] = some (.d (.bl true), A') := by
  obtain ⟨cs, ⟨a1, e1⟩, hc⟩ := cells_ok hl (m := 3) (by omega) (by omega)
  have main : WF g_law [.val (.scr ns)] fun r _ => r = .d (.bl true) := by
    refine wf_of (by walk_at "wn") ?_
    unfold b_law
    repeat walk_at "wx"
    refine WF.fr e1 ?_
    repeat walk_at "wx"
    unfold c_law_1
    refine we_lcI (List.range cs.length) (fun k => .int ((k : Nat) : Int)) (fun dn ys A => ∃ s1 : SV, A = [.val (.scr ns), s1, .un] ∧ (s1 = .own (.lst (inD cs)) ∨ s1 = .val (.lst (inD cs))) ∧ ∀ y ∈ ys, y = .bl true) ?_
    repeat walk_at "wx"
    refine ⟨(by simp [inD]; omega), _, by walk_at "wn", by simp [inD], limOk (by simp; omega), rfl, ⟨_, rfl, .inl rfl, (fun y h => nomatch h)⟩, ?_, ?_⟩
    · rintro dn k rest ys A hsp ⟨s1, rfl, h1, hy⟩
      have hk : k < cs.length := List.mem_range.mp (by rw [hsp]; exact List.mem_append.mpr (.inr List.mem_cons_self))
      obtain ⟨d, ⟨a2, e2⟩, u⟩ := box_ok hk (by omega)
      obtain ⟨d', e3⟩ := right_ok u
      have fin : ∀ y ∈ ys ++ [D.bl true], y = .bl true := fun y hy' => by
        rcases List.mem_append.mp hy' with h | h
        · exact hy y h
        · exact List.mem_singleton.mp h
      rcases h1 with rfl | rfl
      · repeat walk_at "wx"
        refine WF.fr e2 ?_
        repeat walk_at "wx"
        refine WF.d e3 ?_
        repeat walk_at "wx"
        exact ⟨.inr rfl, fin⟩
      · repeat walk_at "wx"
        refine WF.fr e2 ?_
        repeat walk_at "wx"
        refine WF.d e3 ?_
        repeat walk_at "wx"
        exact ⟨.inr rfl, fin⟩
    · rintro ys A ⟨s1, rfl, h1, hy⟩
      walk_at "nb"
      repeat walk_at "wx"
      refine o_allT hy ?_
      repeat walk_at "wx"
      rfl
  obtain ⟨r, as', e, rfl⟩ := main.out
  exact ⟨as', e⟩
end K72
open PySem PySem.W PyProof.Rows
set_option maxHeartbeats 0 in
theorem PySem.Challenge.cw_facechains_k72_what_a_few_wheels_see_holds : PySem.Challenge.rw_facechains_k72_what_a_few_wheels_see.Holds := by
  w_on; o_law; k_head; (case hw => w_witness2)
  k_fill
  refine L2.walk_of (l := PySem.Challenge.rw_facechains_k72_what_a_few_wheels_see) (n := 63) (k := 16) (x := "_law_script") (CX := fun _ => L2.CX0) (sp := fun w => Z.spF ⟨PySem.Challenge.pw_facechains_k72_what_a_few_wheels_see, w, _⟩ 1 K72.g_law) rfl (by decide) rfl ⟨rfl, by decide, by decide⟩ (fun w h Y => PySem.W.kIn_of Y) ?F (fun w H a ns hl _ hS => let ⟨_, e⟩ := K72.law_true ns hl; Z.sp_law hS e) (fun _ _ _ _ _ h => h)
  case F =>
    intro w mg fa h KX G hmg
    refine' K72.law_F KX G hmg ?a_plain ?l_plain ?c_plain ?k_plain ?a_notes ?l_notes ?c_notes ?k_notes ?a_alike_notes ?l_alike_notes ?c_alike_notes ?k_alike_notes ?a_least_box ?l_least_box ?c_least_box ?k_least_box ?a_finer ?l_finer ?c_finer ?k_finer ?a_numbers_by ?l_numbers_by ?c_numbers_by ?k_numbers_by ?a_classes_by ?l_classes_by ?c_classes_by ?k_classes_by ?a_classes_of ?l_classes_of ?c_classes_of ?k_classes_of ?a_sees_all ?l_sees_all ?c_sees_all ?k_sees_all ?a_q_box ?l_q_box ?c_q_box ?k_q_box ?a_q_take ?l_q_take ?c_q_take ?k_q_take ?a_q_cells ?l_q_cells ?c_q_cells ?k_q_cells ?a_q_of ?l_q_of ?c_q_of ?k_q_of ?a_q_pick ?l_q_pick ?c_q_pick ?k_q_pick ?a_q_lists ?l_q_lists ?c_q_lists ?k_q_lists ?a_q_same ?l_q_same ?c_q_same ?k_q_same ?a_q_turning ?l_q_turning ?c_q_turning ?k_q_turning ?a_q_breath ?l_q_breath ?c_q_breath ?k_q_breath ?a_q_known_kit ?l_q_known_kit ?c_q_known_kit ?k_q_known_kit ?a_q_kit ?l_q_kit ?c_q_kit ?k_q_kit ?a_q_any ?l_q_any ?c_q_any ?k_q_any ?a_q_drawn_kit ?l_q_drawn_kit ?c_q_drawn_kit ?k_q_drawn_kit ?a_q_done ?l_q_done ?c_q_done ?k_q_done ?a_q_wider ?l_q_wider ?c_q_wider ?k_q_wider ?a_q_lines ?l_q_lines ?c_q_lines ?k_q_lines ?a_q_kinds ?l_q_kinds ?c_q_kinds ?k_q_kinds ?a_q_doubled ?l_q_doubled ?c_q_doubled ?k_q_doubled ?a_q_first ?l_q_first ?c_q_first ?k_q_first ?a_q_by_hand_right ?l_q_by_hand_right ?c_q_by_hand_right ?k_q_by_hand_right ?a_q_case_right ?l_q_case_right ?c_q_case_right ?k_q_case_right ?a_q_right ?l_q_right ?c_q_right ?k_q_right ?a_law ?l_law ?c_law ?k_law ?z_abs ?z_all ?z_bool ?z_enumerate ?z_int ?z_isinstance ?z_len ?z_list ?z_max ?z_min ?z_range ?z_set ?z_sorted ?z_str ?z_sum ?z_tuple ?z_zip ?y_NONE
    (case a_plain => k_is); (case l_plain => k_is); (case c_plain => k_is); (case k_plain => k_is); (case a_notes => k_is); (case l_notes => k_is); (case c_notes => k_is); (case k_notes => k_is); (case a_alike_notes => k_is); (case l_alike_notes => k_is); (case c_alike_notes => k_is); (case k_alike_notes => k_is); (case a_least_box => k_is); (case l_least_box => k_is); (case c_least_box => k_is); (case k_least_box => k_is); (case a_finer => k_is); (case l_finer => k_is); (case c_finer => k_is); (case k_finer => k_is); (case a_numbers_by => k_is); (case l_numbers_by => k_is); (case c_numbers_by => k_is); (case k_numbers_by => k_is); (case a_classes_by => k_is); (case l_classes_by => k_is); (case c_classes_by => k_is); (case k_classes_by => k_is); (case a_classes_of => k_is); (case l_classes_of => k_is); (case c_classes_of => k_is); (case k_classes_of => k_is); (case a_sees_all => k_is); (case l_sees_all => k_is); (case c_sees_all => k_is); (case k_sees_all => k_is); (case a_q_box => k_is); (case l_q_box => k_is); (case c_q_box => k_is); (case k_q_box => k_is); (case a_q_take => k_is); (case l_q_take => k_is); (case c_q_take => k_is); (case k_q_take => k_is); (case a_q_cells => k_is); (case l_q_cells => k_is); (case c_q_cells => k_is); (case k_q_cells => k_is); (case a_q_of => k_is); (case l_q_of => k_is); (case c_q_of => k_is); (case k_q_of => k_is); (case a_q_pick => k_is); (case l_q_pick => k_is); (case c_q_pick => k_is); (case k_q_pick => k_is); (case a_q_lists => k_is); (case l_q_lists => k_is); (case c_q_lists => k_is); (case k_q_lists => k_is); (case a_q_same => k_is); (case l_q_same => k_is); (case c_q_same => k_is); (case k_q_same => k_is); (case a_q_turning => k_is); (case l_q_turning => k_is); (case c_q_turning => k_is); (case k_q_turning => k_is); (case a_q_breath => k_is); (case l_q_breath => k_is); (case c_q_breath => k_is); (case k_q_breath => k_is); (case a_q_known_kit => k_is); (case l_q_known_kit => k_is); (case c_q_known_kit => k_is); (case k_q_known_kit => k_is); (case a_q_kit => k_is); (case l_q_kit => k_is); (case c_q_kit => k_is); (case k_q_kit => k_is); (case a_q_any => k_is); (case l_q_any => k_is); (case c_q_any => k_is); (case k_q_any => k_is); (case a_q_drawn_kit => k_is); (case l_q_drawn_kit => k_is); (case c_q_drawn_kit => k_is); (case k_q_drawn_kit => k_is); (case a_q_done => k_is); (case l_q_done => k_is); (case c_q_done => k_is); (case k_q_done => k_is); (case a_q_wider => k_is); (case l_q_wider => k_is); (case c_q_wider => k_is); (case k_q_wider => k_is); (case a_q_lines => k_is); (case l_q_lines => k_is); (case c_q_lines => k_is); (case k_q_lines => k_is); (case a_q_kinds => k_is); (case l_q_kinds => k_is); (case c_q_kinds => k_is); (case k_q_kinds => k_is); (case a_q_doubled => k_is); (case l_q_doubled => k_is); (case c_q_doubled => k_is); (case k_q_doubled => k_is); (case a_q_first => k_is); (case l_q_first => k_is); (case c_q_first => k_is); (case k_q_first => k_is); (case a_q_by_hand_right => k_is); (case l_q_by_hand_right => k_is); (case c_q_by_hand_right => k_is); (case k_q_by_hand_right => k_is); (case a_q_case_right => k_is); (case l_q_case_right => k_is); (case c_q_case_right => k_is); (case k_q_case_right => k_is); (case a_q_right => k_is); (case l_q_right => k_is); (case c_q_right => k_is); (case k_q_right => k_is); (case a_law => k_is); (case l_law => k_is); (case c_law => k_is); (case k_law => k_is); (case z_abs => k_is); (case z_all => k_is); (case z_bool => k_is); (case z_enumerate => k_is); (case z_int => k_is); (case z_isinstance => k_is); (case z_len => k_is); (case z_list => k_is); (case z_max => k_is); (case z_min => k_is); (case z_range => k_is); (case z_set => k_is); (case z_sorted => k_is); (case z_str => k_is); (case z_sum => k_is); (case z_tuple => k_is); (case z_zip => k_is); (case y_NONE => k_is)
