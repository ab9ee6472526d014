import PyProof.Rows.All
import Wide.All
import OpenK.AllK
import Wide.FinOn
import HandS.ForMost
import HandS.Deep
import HandS.TupAny
import HandS.IsInst
import HandS.Replace
import HandS.Sort
import HandS.SortInts
import HandS.Conv
import HandS.More
import PySem.Challenge.RW_viewedwords_k23_pairs_of_patterns
set_option Elab.async false
set_option linter.all false
set_option maxRecDepth 100000
set_option maxHeartbeats 4000000
/-! VS: values of Python as deep data, over the abstract heap of the hand layer. -/
namespace VS
open PySem PySem.Spec PyProof.Rows L2

/-! ### data -/
/-- a text by its codes -/
def S (l : List Nat) : Str := ⟨l.toArray⟩
inductive D where
  | non | bl (b : Bool) | int (i : Int) | str (l : List Nat)
  | tup (ds : List D) | lst (ds : List D)
  | dic (ks vs : List D) | obj (C : Str) (fs : List Str) (vs : List D)
  deriving Inhabited
/-- a value, an error, or no word -/
inductive R (α : Type) where
  | ok (a : α) | ex (e : D) | stuck
def R.bind {α β : Type} (x : R α) (f : α → R β) : R β :=
  match x with
  | .ok a => f a
  | .ex e => .ex e
  | .stuck => .stuck
instance : Monad R where
  pure := .ok
  bind := R.bind
@[simp] theorem ok_bind {α β : Type} (a : α) (f : α → R β) : (R.ok a >>= f) = f a := rfl
@[simp] theorem ex_bind {α β : Type} (e : D) (f : α → R β) : ((R.ex e : R α) >>= f) = .ex e := rfl
@[simp] theorem stuck_bind {α β : Type} (f : α → R β) : ((R.stuck : R α) >>= f) = .stuck := rfl
@[simp] theorem pure_ok {α : Type} (a : α) : (pure a : R α) = .ok a := rfl

structure Wd where
  K : PySem.W.Frag
  mg : Str → Option Value

/-- a key of a plain dict -/
def D.key : D → Option Key
  | .int i => some (.inl i)
  | .str l => some (.inr (S l))
  | _ => none

mutual
inductive Rp (E : Wd) (G : Hp) : V → D → Prop
  | non : Rp E G .non .non
  | bl (b : Bool) : Rp E G (.bl b) (.bl b)
  | int (i : Int) : Rp E G (.int i) (.int i)
  | str (l : List Nat) : Rp E G (.str (S l)) (.str l)
  | tup {a : Addr} {vs : List V} {ds : List D} : SqT E.K G a vs → RpL E G vs ds → Rp E G (.ref a) (.tup ds)
  | lst {a : Addr} {vs : List V} {ds : List D} : SqL E.K G a vs → RpL E G vs ds → Rp E G (.ref a) (.lst ds)
  | dic {a : Addr} {kvs : List (Key × V)} {ks ds : List D} : Rd G a (.dK kvs) → ks.map D.key = kvs.map (fun p => some p.1) → RpL E G (kvs.map (·.2)) ds → Rp E G (.ref a) (.dic ks ds)
  | obj {a C dx : Addr} {nm : Str} {fvs : List (Str × V)} {fs : List Str} {ds : List D} : G a = some (.ins C dx fvs) → E.mg nm = some (.ref C) → fs = fvs.map (·.1) → RpL E G (fvs.map (·.2)) ds → Rp E G (.ref a) (.obj nm fs ds)
inductive RpL (E : Wd) (G : Hp) : List V → List D → Prop
  | nil : RpL E G [] []
  | cons {v : V} {vs : List V} {d : D} {ds : List D} : Rp E G v d → RpL E G vs ds → RpL E G (v :: vs) (d :: ds)
end

section
variable {E : Wd} {G G' H H' : Hp}
theorem Same.rd (s : Same G G') {a : Addr} {u : HO} (h : Rd G a u) : Rd G' a u := by
  rcases h with h | ⟨o, h⟩
  · exact .inl (s a _ h)
  · exact .inr ⟨o, s a _ h⟩
theorem Same.sqL {K : PySem.W.Frag} (s : Same G G') {a : Addr} {xs : List V} (h : SqL K G a xs) : SqL K G' a xs := s.seq h
theorem Same.sqT {K : PySem.W.Frag} (s : Same G G') {a : Addr} {xs : List V} (h : SqT K G a xs) : SqT K G' a xs := by
  rcases h with h | h
  · exact .inl (Same.rd s h)
  · exact .inr h
mutual
theorem Rp.mono (s : Same G G') : ∀ {v : V} {d : D}, Rp E G v d → Rp E G' v d
  | _, _, .non => .non
  | _, _, .bl b => .bl b
  | _, _, .int i => .int i
  | _, _, .str l => .str l
  | _, _, .tup h r => .tup (Same.sqT s h) (RpL.mono s r)
  | _, _, .lst h r => .lst (Same.sqL s h) (RpL.mono s r)
  | _, _, .dic h e r => .dic (Same.rd s h) e (RpL.mono s r)
  | _, _, .obj h e f r => .obj (s _ _ h) e f (RpL.mono s r)
theorem RpL.mono (s : Same G G') : ∀ {vs : List V} {ds : List D}, RpL E G vs ds → RpL E G' vs ds
  | _, _, .nil => .nil
  | _, _, .cons h r => .cons (Rp.mono s h) (RpL.mono s r)
end
theorem RpL.length {vs : List V} {ds : List D} (h : RpL E G vs ds) : vs.length = ds.length := by
  induction ds generalizing vs with
  | nil => cases h; rfl
  | cons d ds ih => cases h with | cons h r => simp [ih r]
theorem RpL.get {vs : List V} {ds : List D} (h : RpL E G vs ds) {i : Nat} {d : D} (e : ds[i]? = some d) : ∃ v, vs[i]? = some v ∧ Rp E G v d := by
  induction ds generalizing vs i with
  | nil => simp at e
  | cons d' ds ih =>
    cases h with
    | cons h r =>
      cases i with
      | zero => simp at e; subst e; exact ⟨_, rfl, h⟩
      | succ i => simp at e; obtain ⟨v, e1, e2⟩ := ih r e; exact ⟨v, by simpa using e1, e2⟩
theorem RpL.getV {vs : List V} {ds : List D} (h : RpL E G vs ds) {i : Nat} {v : V} (e : vs[i]? = some v) : ∃ d, ds[i]? = some d ∧ Rp E G v d := by
  induction ds generalizing vs i with
  | nil => cases h; simp at e
  | cons d' ds ih =>
    cases h with
    | cons h r =>
      cases i with
      | zero => simp at e; subst e; exact ⟨_, rfl, h⟩
      | succ i => simp at e; obtain ⟨v, e1, e2⟩ := ih r e; exact ⟨v, by simpa using e1, e2⟩
theorem RpL.append {vs ws : List V} {ds es : List D} (h : RpL E G vs ds) (k : RpL E G ws es) : RpL E G (vs ++ ws) (ds ++ es) := by
  induction ds generalizing vs with
  | nil => cases h; exact k
  | cons d ds ih => cases h with | cons h r => exact .cons h (ih r)
theorem RpL.take {vs : List V} {ds : List D} (h : RpL E G vs ds) (n : Nat) : RpL E G (vs.take n) (ds.take n) := by
  induction n generalizing vs ds with
  | zero => simp; exact .nil
  | succ n ih => cases h with
    | nil => simp; exact .nil
    | cons h r => simp; exact .cons h (ih r)
theorem RpL.drop {vs : List V} {ds : List D} (h : RpL E G vs ds) (n : Nat) : RpL E G (vs.drop n) (ds.drop n) := by
  induction n generalizing vs ds with
  | zero => simpa using h
  | succ n ih => cases h with
    | nil => simp; exact .nil
    | cons h r => simpa using ih r
theorem RpL.reverse {vs : List V} {ds : List D} (h : RpL E G vs ds) : RpL E G vs.reverse ds.reverse := by
  induction ds generalizing vs with
  | nil => cases h; exact .nil
  | cons d ds ih => cases h with | cons h r => rw [List.reverse_cons, List.reverse_cons]; exact (ih r).append (.cons h .nil)
theorem RpL.set {vs : List V} {ds : List D} (h : RpL E G vs ds) {v : V} {d : D} (r : Rp E G v d) (i : Nat) : RpL E G (vs.set i v) (ds.set i d) := by
  induction ds generalizing vs i with
  | nil => cases h; exact .nil
  | cons d' ds ih =>
    cases h with
    | cons h1 r1 => cases i with
      | zero => exact .cons r r1
      | succ i => exact .cons h1 (ih r1 i)
theorem RpL.int {vs : List V} {ns : List Int} (h : RpL E G vs (ns.map D.int)) : vs = ns.map V.int := by
  induction ns generalizing vs with
  | nil => cases h; rfl
  | cons n ns ih => cases h with | cons h r => cases h; simp [ih r]
theorem RpL.ofInt (ns : List Int) : RpL E G (ns.map V.int) (ns.map D.int) := by
  induction ns with
  | nil => exact .nil
  | cons n ns ih => exact .cons (.int n) ih

/-! ### owned trees -/
end
inductive O where
  | v (d : D) | lst (os : List O) | dic (ks : List D) (os : List O) | obj (C : Str) (fs : List Str) (os : List O)
  deriving Inhabited
mutual
def O.toD : O → D
  | .v d => d
  | .lst os => .lst (O.toDs os)
  | .dic ks os => .dic ks (O.toDs os)
  | .obj C fs os => .obj C fs (O.toDs os)
def O.toDs : List O → List D
  | [] => []
  | o :: os => O.toD o :: O.toDs os
end
@[simp] theorem O.toDs_map (os : List O) : O.toDs os = os.map O.toD := by
  induction os with
  | nil => rfl
  | cons o os ih => simp [O.toDs, ih]
mutual
inductive Own (E : Wd) (G H : Hp) : V → O → List Addr → Prop
  | v {v : V} {d : D} : Rp E G v d → Own E G H v (.v d) []
  | lst {a : Addr} {vs : List V} {os : List O} {fp : List Addr} : H a = some (.lst vs) → OwnL E G H vs os fp → Own E G H (.ref a) (.lst os) (a :: fp)
  | dic {a : Addr} {kvs : List (Key × V)} {ks : List D} {os : List O} {fp : List Addr} : H a = some (.dK kvs) → ks.map D.key = kvs.map (fun p => some p.1) → OwnL E G H (kvs.map (·.2)) os fp → Own E G H (.ref a) (.dic ks os) (a :: fp)
  | obj {a C dx : Addr} {nm : Str} {fvs : List (Str × V)} {fs : List Str} {os : List O} {fp : List Addr} : H a = some (.ins C dx fvs) → E.mg nm = some (.ref C) → fs = fvs.map (·.1) → OwnL E G H (fvs.map (·.2)) os fp → Own E G H (.ref a) (.obj nm fs os) (a :: fp)
inductive OwnL (E : Wd) (G H : Hp) : List V → List O → List Addr → Prop
  | nil : OwnL E G H [] [] []
  | cons {v : V} {vs : List V} {o : O} {os : List O} {fp fq : List Addr} : Own E G H v o fp → OwnL E G H vs os fq → OwnL E G H (v :: vs) (o :: os) (fp ++ fq)
end
section
variable {E : Wd} {G G' H H' : Hp}
/-- what is owned stays where its own objects stay -/
theorem Own.keep (s : Same G G') : ∀ {v : V} {o : O} {fp : List Addr}, Own E G H v o fp → (∀ p ∈ fp, ∀ u, H p = some u → H' p = some u) → Own E G' H' v o fp := by
  intro v o fp h
  refine Own.rec (motive_1 := fun v o fp _ => (∀ p ∈ fp, ∀ u, H p = some u → H' p = some u) → Own E G' H' v o fp) (motive_2 := fun vs os fp _ => (∀ p ∈ fp, ∀ u, H p = some u → H' p = some u) → OwnL E G' H' vs os fp) ?_ ?_ ?_ ?_ ?_ ?_ h
  · intro v d r k; exact .v (r.mono s)
  · intro a vs os fp h r ih k; exact .lst (k a List.mem_cons_self _ h) (ih fun p hp => k p (List.mem_cons_of_mem _ hp))
  · intro a kvs ks os fp h e r ih k; exact .dic (k a List.mem_cons_self _ h) e (ih fun p hp => k p (List.mem_cons_of_mem _ hp))
  · intro a C dx nm fvs fs os fp h e f r ih k; exact .obj (k a List.mem_cons_self _ h) e f (ih fun p hp => k p (List.mem_cons_of_mem _ hp))
  · intro k; exact .nil
  · intro v vs o os fp fq h r ih1 ih2 k; exact .cons (ih1 fun p hp => k p (List.mem_append_left _ hp)) (ih2 fun p hp => k p (List.mem_append_right _ hp))
theorem OwnL.keep (s : Same G G') : ∀ {vs : List V} {os : List O} {fp : List Addr}, OwnL E G H vs os fp → (∀ p ∈ fp, ∀ u, H p = some u → H' p = some u) → OwnL E G' H' vs os fp := by
  intro vs os fp h
  induction os generalizing vs fp with
  | nil => cases h; intro _; exact .nil
  | cons o os ih => cases h with | cons h r => intro k; exact .cons (h.keep s fun p hp => k p (List.mem_append_left _ hp)) (ih r fun p hp => k p (List.mem_append_right _ hp))
/-- an owned tree may be read as data -/
theorem Own.rp (s : Same G H) : ∀ {v : V} {o : O} {fp : List Addr}, Own E G H v o fp → (∀ p ∈ fp, ∀ u, H p = some u → H' p = some u) → Same G H' → Rp E H' v o.toD := by
  intro v o fp h
  refine Own.rec (motive_1 := fun v o fp _ => (∀ p ∈ fp, ∀ u, H p = some u → H' p = some u) → Same G H' → Rp E H' v o.toD) (motive_2 := fun vs os fp _ => (∀ p ∈ fp, ∀ u, H p = some u → H' p = some u) → Same G H' → RpL E H' vs (O.toDs os)) ?_ ?_ ?_ ?_ ?_ ?_ h
  · intro v d r k g; rw [O.toD]; exact r.mono g
  · intro a vs os fp h r ih k g; rw [O.toD]; exact .lst (.inl (.inl (k a List.mem_cons_self _ h))) (ih (fun p hp => k p (List.mem_cons_of_mem _ hp)) g)
  · intro a kvs ks os fp h e r ih k g; rw [O.toD]; exact .dic (.inl (k a List.mem_cons_self _ h)) e (ih (fun p hp => k p (List.mem_cons_of_mem _ hp)) g)
  · intro a C dx nm fvs fs os fp h e f r ih k g; rw [O.toD]; exact .obj (k a List.mem_cons_self _ h) e f (ih (fun p hp => k p (List.mem_cons_of_mem _ hp)) g)
  · intro k g; rw [O.toDs]; exact .nil
  · intro v vs o os fp fq h r ih1 ih2 k g; rw [O.toDs]; exact .cons (ih1 (fun p hp => k p (List.mem_append_left _ hp)) g) (ih2 (fun p hp => k p (List.mem_append_right _ hp)) g)

/-! ### the names' values -/
end
abbrev Env := List (Option O)
inductive Cells (E : Wd) (G H : Hp) : Env → L2.St → List Addr → Prop
  | nil : Cells E G H [] [] []
  | no {c : Env} {σ : L2.St} {x : Option V} {fp : List Addr} : Cells E G H c σ fp → Cells E G H (none :: c) (x :: σ) fp
  | yes {c : Env} {σ : L2.St} {v : V} {o : O} {fp fq : List Addr} : Own E G H v o fp → Cells E G H c σ fq → Cells E G H (some o :: c) (some v :: σ) (fp ++ fq)
/-- the entry: the heap there, what is known there; the slots that stay; what is lent -/
structure Bs where
  H0 : Hp
  G0 : Hp
  pn : List (Nat × V)
  br : Addr → Prop
/-- a tuple, or one that is locked -/
def isT : HO → Bool
  | .tup _ => true
  | .frz _ (.tup _) => true
  | _ => false
structure Fine (B : Bs) (G H : Hp) : Prop where
  base : ∀ a o, B.H0 a = some o → ¬ B.br a → H a = some o
  there : ∀ a, H a = none → B.H0 a = none
  x : ∀ a, B.H0 a ≠ none → B.G0 a = none → G a = none
  le : Same G H
  tup : ∀ a u, H a = some u → isT u = true → G a = some u
structure Abs (E : Wd) (B : Bs) (G H : Hp) (c : Env) (σ : L2.St) (fp : List Addr) : Prop where
  fine : Fine B G H
  cells : Cells E G H c σ fp
  nd : fp.Nodup
  fresh : ∀ p ∈ fp, G p = none ∧ (B.H0 p = none ∨ B.br p)
  pin : ∀ q ∈ B.pn, σ[q.1]? = some (some q.2)
section
variable {E : Wd} {B : Bs} {G G' G'' H H' H'' : Hp} {c : Env} {σ : L2.St} {fp : List Addr}
theorem Cells.keep (s : Same G G') : ∀ {c : Env} {σ : L2.St} {fp : List Addr}, Cells E G H c σ fp → (∀ p ∈ fp, ∀ u, H p = some u → H' p = some u) → Cells E G' H' c σ fp
  | _, _, _, .nil, _ => .nil
  | _, _, _, .no h, k => .no (Cells.keep s h k)
  | _, _, _, .yes h r, k => .yes (h.keep s fun p hp => k p (List.mem_append_left _ hp)) (Cells.keep s r fun p hp => k p (List.mem_append_right _ hp))
theorem Cells.get : ∀ {c : Env} {σ : L2.St} {fp : List Addr} {i : Nat} {o : O}, Cells E G H c σ fp → c[i]? = some (some o) → ∃ v fq, σ[i]? = some (some v) ∧ Own E G H v o fq ∧ ∀ p ∈ fq, p ∈ fp
  | _, _, _, i, o, .nil, e => by simp at e
  | _, _, _, 0, o, .no h, e => by simp at e
  | _, _, _, i + 1, o, .no h, e => by
    obtain ⟨v, fq, e1, e2, e3⟩ := Cells.get (i := i) h (by simpa using e)
    exact ⟨v, fq, by simpa using e1, e2, e3⟩
  | _, _, _, 0, o, .yes h r, e => by simp at e; subst e; exact ⟨_, _, rfl, h, fun p hp => List.mem_append_left _ hp⟩
  | _, _, _, i + 1, o, .yes h r, e => by
    obtain ⟨v, fq, e1, e2, e3⟩ := Cells.get (i := i) r (by simpa using e)
    exact ⟨v, fq, by simpa using e1, e2, fun p hp => List.mem_append_right _ (e3 p hp)⟩
theorem Own.there : ∀ {v : V} {o : O} {fp : List Addr}, Own E G H v o fp → ∀ p ∈ fp, H p ≠ none := by
  intro v o fp h
  refine Own.rec (motive_1 := fun v o fp _ => ∀ p ∈ fp, H p ≠ none) (motive_2 := fun vs os fp _ => ∀ p ∈ fp, H p ≠ none) ?_ ?_ ?_ ?_ ?_ ?_ h
  · intro v d r p hp; cases hp
  · intro a vs os fp h r ih p hp
    rcases List.mem_cons.mp hp with z | z
    · rw [z, h]; exact fun z => nomatch z
    · exact ih p z
  · intro a kvs ks os fp h e r ih p hp
    rcases List.mem_cons.mp hp with z | z
    · rw [z, h]; exact fun z => nomatch z
    · exact ih p z
  · intro a C dx nm fvs fs os fp h e f r ih p hp
    rcases List.mem_cons.mp hp with z | z
    · rw [z, h]; exact fun z => nomatch z
    · exact ih p z
  · intro p hp; cases hp
  · intro v vs o os fp fq h r ih1 ih2 p hp
    rcases List.mem_append.mp hp with z | z
    · exact ih1 p z
    · exact ih2 p z
theorem Cells.there : ∀ {c : Env} {σ : L2.St} {fp : List Addr}, Cells E G H c σ fp → ∀ p ∈ fp, H p ≠ none
  | _, _, _, .nil, p, hp => nomatch hp
  | _, _, _, .no h, p, hp => h.there p hp
  | _, _, _, .yes h r, p, hp => (List.mem_append.mp hp).elim (fun z => h.there p z) fun z => r.there p z
theorem Cells.length : ∀ {c : Env} {σ : L2.St} {fp : List Addr}, Cells E G H c σ fp → c.length = σ.length
  | _, _, _, .nil => rfl
  | _, _, _, .no h => by simp [h.length]
  | _, _, _, .yes _ h => by simp [h.length]
/-- a name is stored: what it had is forgotten -/
theorem Cells.set : ∀ {c : Env} {σ : L2.St} {fp : List Addr} {v : V} {o : O} {fq : List Addr} (i : Nat), Cells E G H c σ fp → Own E G H v o fq → fp.Nodup → fq.Nodup → (∀ p ∈ fq, p ∉ fp) → ∃ fr, Cells E G H (c.set i (some o)) (σ.set i (some v)) fr ∧ fr.Nodup ∧ ∀ p ∈ fr, p ∈ fp ∨ p ∈ fq
  | _, _, _, v, o, fq, i, .nil, h, n, m, d => ⟨[], .nil, List.nodup_nil, fun p hp => nomatch hp⟩
  | _, _, _, v, o, fq, 0, .no r, h, n, m, d => ⟨_, .yes h r, List.nodup_append.mpr ⟨m, n, fun a ha b hb e => d a ha (e ▸ hb)⟩, fun p hp => (List.mem_append.mp hp).symm⟩
  | _, _, _, v, o, fq, i + 1, .no r, h, n, m, d => by
    obtain ⟨fr, h1, h2, h3⟩ := Cells.set i r h n m d
    exact ⟨fr, .no h1, h2, h3⟩
  | _, _, _, v, o, fq, 0, .yes (fp := f1) (fq := f2) h' r, h, n, m, d => ⟨_, .yes h r, List.nodup_append.mpr ⟨m, (List.nodup_append.mp n).2.1, fun a ha b hb e => d a ha (List.mem_append_right _ (e ▸ hb))⟩, fun p hp => by
    rcases List.mem_append.mp hp with z | z
    · exact .inr z
    · exact .inl (List.mem_append_right _ z)⟩
  | _, _, _, v, o, fq, i + 1, .yes (fp := f1) (fq := f2) h' r, h, n, m, d => by
    obtain ⟨n1, n2, n3⟩ := List.nodup_append.mp n
    obtain ⟨fr, h1, h2, h3⟩ := Cells.set i r h n2 m fun p hp z => d p hp (List.mem_append_right _ z)
    refine ⟨_, .yes h' h1, List.nodup_append.mpr ⟨n1, h2, fun a ha b hb e => ?_⟩, fun p hp => ?_⟩
    · rcases h3 b hb with z | z
      · exact n3 a ha b z e
      · exact d b z (List.mem_append_left _ (e ▸ ha))
    · rcases List.mem_append.mp hp with z | z
      · exact .inl (List.mem_append_left _ z)
      · rcases h3 p z with z | z
        · exact .inl (List.mem_append_right _ z)
        · exact .inr z
theorem Fine.grow (f : Fine B G H) (s : Same H H') (t : ∀ a u, H' a = some u → isT u = true → G a = some u) : Fine B G H' := ⟨fun a o e n => s a o (f.base a o e n), fun a e => f.there a (s.free e), f.x, f.le.trans s, t⟩
/-- a new object that is known from now on -/
theorem Fine.new {p : Addr} {u : HO} (f : Fine B G H) (hp : H p = none) : Fine B (upd G p u) (upd H p u) := by
  refine ⟨fun a o e n => ?_, fun a e => ?_, fun a h1 h2 => ?_, fun a o e => ?_, fun a o e k => ?_⟩
  · rw [upd_ne (ne_of_none (f.base a o e n) hp)]; exact f.base a o e n
  · by_cases ha : a = p
    · subst ha; exact f.there a hp
    · rw [upd_ne ha] at e; exact f.there a e
  · have ha : a ≠ p := fun z => h1 (by rw [z]; exact f.there p hp)
    rw [upd_ne ha]; exact f.x a h1 h2
  · by_cases ha : a = p
    · subst ha; rw [upd_same] at e ⊢; exact e
    · rw [upd_ne ha] at e ⊢; exact f.le a o e
  · by_cases ha : a = p
    · subst ha; rw [upd_same] at e ⊢; exact e
    · rw [upd_ne ha] at e ⊢; exact f.tup a o e k
theorem same_upd {p : Addr} {u : HO} (hp : H p = none) : Same H (upd H p u) := fun b o e => by
  rw [upd_ne (ne_of_none e hp)]; exact e
theorem Fine.fresh (f : Fine B G H) {p : Addr} (hp : H p = none) : G p = none := f.le.free hp
theorem Abs.grow (A : Abs E B G H c σ fp) (s : Same H H') (t : ∀ a u, H' a = some u → isT u = true → G a = some u) : Abs E B G H' c σ fp :=
  ⟨A.fine.grow s t, A.cells.keep (Same.refl _) fun p _ u e => s p u e, A.nd, A.fresh, A.pin⟩
/-- a new object that is known from now on -/
theorem Abs.new {p : Addr} {u : HO} (A : Abs E B G H c σ fp) (hp : H p = none) : Abs E B (upd G p u) (upd H p u) c σ fp := by
  refine ⟨A.fine.new hp, A.cells.keep (same_upd (A.fine.fresh hp)) (fun q _ w e => same_upd hp q w e), A.nd, fun q hq => ?_, A.pin⟩
  have hne : q ≠ p := fun z => A.cells.there q hq (by rw [z]; exact hp)
  exact ⟨by rw [upd_ne hne]; exact (A.fresh q hq).1, (A.fresh q hq).2⟩
end
end VS

/-! VS: expressions. -/
namespace VS
open PySem PySem.Spec PyProof.Rows L2

abbrev WX := Value → Option Addr → L2.St → Hp → Prop
def vw (b : Bool) (G H : Hp) : Hp := if b then G else H
def XRep (E : Wd) (G : Hp) (cl : Value) (dx : Option Addr) : D → Prop
  | .obj nm fs ds => E.mg nm = some cl ∧ (fs = [] ∨ ∃ d xs, dx = some d ∧ G d = some (.xd xs) ∧ fs = xs.map (·.1) ∧ RpL E G (xs.map (·.2)) ds)
  | _ => False
def Res {α : Type} (E : Wd) (W : WX) (B : Bs) (c : Env) (σ : L2.St) (fp : List Addr) (G H : Hp) (r : R α) (P : α → Prop) : Prop :=
  match r with
  | .ok a => P a
  | .ex e => ∀ cl dx G' H', Same G G' → Same H H' → Abs E B G' H' c σ fp → XRep E G' cl dx e → W cl dx σ H'
  | .stuck => False
def Post (E : Wd) (B : Bs) (c : Env) (σ : L2.St) (fp : List Addr) (G H : Hp) (b : Bool) (Q : VK) (d : D) : Prop :=
  ∀ v G' H', Same G G' → Same H H' → Abs E B G' H' c σ fp → Rp E (vw b G' H') v d → Q v H'
def PostL (E : Wd) (B : Bs) (c : Env) (σ : L2.St) (fp : List Addr) (G H : Hp) (b : Bool) (Q : List V → Hp → Prop) (ds : List D) : Prop :=
  ∀ vs G' H', Same G G' → Same H H' → Abs E B G' H' c σ fp → RpL E (vw b G' H') vs ds → Q vs H'
def PostT (E : Wd) (B : Bs) (c : Env) (σ : L2.St) (fp : List Addr) (G H : Hp) (Q : Bool → Hp → Prop) (t : Bool) : Prop :=
  ∀ G' H', Same G G' → Same H H' → Abs E B G' H' c σ fp → Q t H'
def TX (E : Wd) (W : WX) (b : Bool) (g : Env → R D) : TE := fun σ H Q => ∃ B G c fp, Abs E B G H c σ fp ∧ Res E W B c σ fp G H (g c) (Post E B c σ fp G H b Q)
def TXA (E : Wd) (W : WX) (b : Bool) (g : Env → R (List D)) : TA := fun σ H Q => ∃ B G c fp, Abs E B G H c σ fp ∧ Res E W B c σ fp G H (g c) (PostL E B c σ fp G H b Q)
def TXT (E : Wd) (W : WX) (g : Env → R Bool) : TT := fun σ H Q => ∃ B G c fp, Abs E B G H c σ fp ∧ Res E W B c σ fp G H (g c) (PostT E B c σ fp G H Q)
abbrev Cx.wd (X : Cx) : Wd := ⟨X.K, X.mg⟩
/-- an expression that is worth g; b: it may be kept -/
def PX (X : Cx) (W : WX) (b : Bool) (e : Expr) (g : Env → R D) : Prop := PE X e (TX ⟨X.K, X.mg⟩ W b g)
def PXA (X : Cx) (W : WX) (b : Bool) (es : List Expr) (g : Env → R (List D)) : Prop := PA X es (TXA ⟨X.K, X.mg⟩ W b g)
def PXT (X : Cx) (W : WX) (e : Expr) (g : Env → R Bool) : Prop := PT X e (TXT ⟨X.K, X.mg⟩ W g)

section
variable {E : Wd} {W : WX} {B : Bs} {c : Env} {σ : L2.St} {fp : List Addr} {G G' G'' H H' H'' : Hp} {b : Bool} {v : V} {d : D}
theorem vw_rp (s : Same G H) (h : Rp E (vw b G H) v d) : Rp E H v d := by
  cases b with
  | true => exact h.mono s
  | false => exact h
theorem vw_mono (s : Same G G') (t : Same H H') (h : Rp E (vw b G H) v d) : Rp E (vw b G' H') v d := by
  cases b with
  | true => exact h.mono s
  | false => exact h.mono t
theorem vw_rpL {vs : List V} {ds : List D} (s : Same G H) (h : RpL E (vw b G H) vs ds) : RpL E H vs ds := by
  cases b with
  | true => exact h.mono s
  | false => exact h
theorem vw_monoL {vs : List V} {ds : List D} (s : Same G G') (t : Same H H') (h : RpL E (vw b G H) vs ds) : RpL E (vw b G' H') vs ds := by
  cases b with
  | true => exact h.mono s
  | false => exact h.mono t
theorem vw_of (h : Rp E G v d) (s : Same G H) : Rp E (vw b G H) v d := by
  cases b with
  | true => exact h
  | false => exact h.mono s
theorem vw_ofL {vs : List V} {ds : List D} (h : RpL E G vs ds) (s : Same G H) : RpL E (vw b G H) vs ds := by
  cases b with
  | true => exact h
  | false => exact h.mono s
theorem Res.grow {α : Type} {r : R α} {P P' : α → Prop} (h : Res E W B c σ fp G H r P) (s : Same G G') (t : Same H H') (hp : ∀ a, r = .ok a → P a → P' a) : Res E W B c σ fp G' H' r P' := by
  cases r with
  | ok a => exact hp a rfl h
  | ex e => exact fun cl dx G2 H2 s2 t2 A x => h cl dx G2 H2 (s.trans s2) (t.trans t2) A x
  | stuck => exact h
theorem Post.grow {Q : VK} (h : Post E B c σ fp G H b Q d) (s : Same G G') (t : Same H H') : Post E B c σ fp G' H' b Q d := fun v G2 H2 s2 t2 A r => h v G2 H2 (s.trans s2) (t.trans t2) A r
theorem PostL.grow {Q : List V → Hp → Prop} {ds : List D} (h : PostL E B c σ fp G H b Q ds) (s : Same G G') (t : Same H H') : PostL E B c σ fp G' H' b Q ds := fun v G2 H2 s2 t2 A r => h v G2 H2 (s.trans s2) (t.trans t2) A r
theorem PostT.grow {Q : Bool → Hp → Prop} {x : Bool} (h : PostT E B c σ fp G H Q x) (s : Same G G') (t : Same H H') : PostT E B c σ fp G' H' Q x := fun G2 H2 s2 t2 A => h G2 H2 (s.trans s2) (t.trans t2) A
/-- the value at once, nothing changed -/
theorem Post.here {Q : VK} (h : Post E B c σ fp G H b Q d) (A : Abs E B G H c σ fp) (r : Rp E (vw b G H) v d) : Q v H := h v G H (Same.refl _) (Same.refl _) A r
/-- a new object, known from now on -/
theorem Post.new {Q : VK} (h : Post E B c σ fp G H b Q d) (A : Abs E B G H c σ fp) {p : Addr} {u : HO} (hp : H p = none) (r : Same G (upd G p u) → Rp E (upd G p u) (.ref p) d) : Q (.ref p) (upd H p u) := by
  have s := same_upd (u := u) (A.fine.fresh hp)
  have A' := A.new (u := u) hp
  exact h (.ref p) _ _ s (same_upd hp) A' (vw_of (r s) A'.fine.le)

/-- one part, then the rest -/
theorem tx_seq {α : Type} {ga : Env → R D} {f : D → R α} {P : α → Prop} {Q' : VK} (A : Abs E B G H c σ fp) (h : Res E W B c σ fp G H (ga c >>= f) P)
    (k : ∀ d, ga c = .ok d → ∀ v G1 H1, Same G G1 → Same H H1 → Abs E B G1 H1 c σ fp → Rp E (vw b G1 H1) v d → Res E W B c σ fp G1 H1 (f d) P → Q' v H1) : TX E W b ga σ H Q' := by
  refine ⟨B, G, c, fp, A, ?_⟩
  cases e : ga c with
  | ok d =>
    rw [e] at h
    exact fun v G1 H1 s t A1 r => k d e v G1 H1 s t A1 r (Res.grow (r := f d) h s t fun _ _ z => z)
  | ex x => rw [e] at h; exact h
  | stuck => rw [e] at h; exact h
theorem txa_seq {α : Type} {ga : Env → R (List D)} {f : List D → R α} {P : α → Prop} {Q' : List V → Hp → Prop} (A : Abs E B G H c σ fp) (h : Res E W B c σ fp G H (ga c >>= f) P)
    (k : ∀ ds, ga c = .ok ds → ∀ vs G1 H1, Same G G1 → Same H H1 → Abs E B G1 H1 c σ fp → RpL E (vw b G1 H1) vs ds → Res E W B c σ fp G1 H1 (f ds) P → Q' vs H1) : TXA E W b ga σ H Q' := by
  refine ⟨B, G, c, fp, A, ?_⟩
  cases e : ga c with
  | ok d =>
    rw [e] at h
    exact fun v G1 H1 s t A1 r => k d e v G1 H1 s t A1 r (Res.grow (r := f d) h s t fun _ _ z => z)
  | ex x => rw [e] at h; exact h
  | stuck => rw [e] at h; exact h
theorem txt_seq {α : Type} {ga : Env → R Bool} {f : Bool → R α} {P : α → Prop} {Q' : Bool → Hp → Prop} (A : Abs E B G H c σ fp) (h : Res E W B c σ fp G H (ga c >>= f) P)
    (k : ∀ t, ga c = .ok t → ∀ G1 H1, Same G G1 → Same H H1 → Abs E B G1 H1 c σ fp → Res E W B c σ fp G1 H1 (f t) P → Q' t H1) : TXT E W ga σ H Q' := by
  refine ⟨B, G, c, fp, A, ?_⟩
  cases e : ga c with
  | ok d =>
    rw [e] at h
    exact fun G1 H1 s t A1 => k d e G1 H1 s t A1 (Res.grow (r := f d) h s t fun _ _ z => z)
  | ex x => rw [e] at h; exact h
  | stuck => rw [e] at h; exact h
end

/-! ### weakening -/
section
variable {X : Cx} {W : WX} {b : Bool} {e : Expr} {g : Env → R D}
theorem pe_mono {t t' : TE} (h : PE X e t) (k : ∀ σ H Q, t' σ H Q → t σ H Q) : PE X e t' := ⟨fun pins s σ H Q I q => h.run pins s σ H Q I (k σ H Q q)⟩
theorem pt_mono {t t' : TT} (h : PT X e t) (k : ∀ σ H Q, t' σ H Q → t σ H Q) : PT X e t' := ⟨fun pins s σ H Q I q => h.run pins s σ H Q I (k σ H Q q)⟩
theorem pa_mono {es : List Expr} {t t' : TA} (h : PA X es t) (k : ∀ σ H Q, t' σ H Q → t σ H Q) : PA X es t' := ⟨fun pos pins s σ H Q I q => h.run pos pins s σ H Q I (k σ H Q q)⟩
theorem PX.loan (h : PX X W true e g) : PX X W false e g := pe_mono h fun σ H Q ⟨B, G, c, fp, A, q⟩ => ⟨B, G, c, fp, A, q.grow (Same.refl _) (Same.refl _) fun d _ k v G1 H1 s t A1 r => k v G1 H1 s t A1 (r.mono A1.fine.le)⟩
end
mutual
/-- no list, no dict, no object within -/
def D.flat : D → Bool
  | .tup ds => D.flats ds
  | .lst _ | .dic _ _ | .obj _ _ _ => false
  | _ => true
def D.flats : List D → Bool
  | [] => true
  | d :: ds => D.flat d && D.flats ds
end
@[simp] theorem flat_non : D.flat .non = true := rfl
@[simp] theorem flat_bl (b : Bool) : D.flat (.bl b) = true := rfl
@[simp] theorem flat_int (i : Int) : D.flat (.int i) = true := rfl
@[simp] theorem flat_str (l : List Nat) : D.flat (.str l) = true := rfl
@[simp] theorem flat_tup (ds : List D) : D.flat (.tup ds) = D.flats ds := by rw [D.flat]
@[simp] theorem flat_lst (ds : List D) : D.flat (.lst ds) = false := by rw [D.flat]
@[simp] theorem flats_nil : D.flats [] = true := by rw [D.flats]
@[simp] theorem flats_cons (d : D) (ds : List D) : D.flats (d :: ds) = (D.flat d && D.flats ds) := by rw [D.flats]
theorem flats_all (ds : List D) : D.flats ds = ds.all D.flat := by
  induction ds with
  | nil => simp
  | cons d ds ih => simp [ih]
section
variable {E : Wd} {B : Bs} {c : Env} {σ : L2.St} {fp : List Addr} {G H : Hp}
/-- what has no list, dict or object within is known -/
theorem Rp.down (f : Fine B G H) : ∀ {v : V} {d : D}, Rp E H v d → d.flat = true → Rp E G v d := by
  intro v d h
  refine Rp.rec (motive_1 := fun v d _ => d.flat = true → Rp E G v d) (motive_2 := fun vs ds _ => D.flats ds = true → RpL E G vs ds) ?_ ?_ ?_ ?_ ?_ ?_ ?_ ?_ ?_ ?_ h
  · intro _; exact .non
  · intro b _; exact .bl b
  · intro i _; exact .int i
  · intro l _; exact .str l
  · intro a vs ds hs r ih k
    rw [flat_tup] at k
    refine .tup ?_ (ih k)
    rcases hs with (hs | ⟨o, hs⟩) | hs
    · exact .inl (.inl (f.tup a _ hs rfl))
    · exact .inl (.inr ⟨o, f.tup a _ hs rfl⟩)
    · exact .inr hs
  · intro a vs ds hs r ih k; simp at k
  · intro a kvs ks ds hs e r ih k; simp [D.flat] at k
  · intro a C dx nm fvs fs ds h1 h2 h3 r ih k; simp [D.flat] at k
  · intro _; exact .nil
  · intro v vs d ds h r i1 i2 k
    simp at k
    exact .cons (i1 k.1) (i2 k.2)
end
section
variable {X : Cx} {W : WX} {b : Bool} {e : Expr} {g : Env → R D}
def eFlat (g : Env → R D) : Env → R D := fun c => g c >>= fun d => if d.flat then .ok d else .stuck
theorem PX.flat (h : PX X W b e g) : PX X W true e (eFlat g) := pe_mono h fun σ H Q ⟨B, G, c, fp, A, q⟩ => by
  refine ⟨B, G, c, fp, A, ?_⟩
  unfold eFlat at q
  cases e : g c with
  | stuck => rw [e] at q; exact q
  | ex x => rw [e] at q; exact q
  | ok d =>
    rw [e] at q
    by_cases hf : d.flat = true
    · have q' : Res _ W B c σ fp G H (if d.flat = true then R.ok d else R.stuck) (Post _ B c σ fp G H true Q) := q
      rw [if_pos hf] at q'
      intro v G1 H1 s t A1 r
      exact q' v G1 H1 s t A1 ((vw_rp A1.fine.le r).down A1.fine hf)
    · have q' : Res _ W B c σ fp G H (if d.flat = true then R.ok d else R.stuck) (Post _ B c σ fp G H true Q) := q
      rw [if_neg hf] at q'
      exact q'.elim
end
end VS

/-! VS: expressions, the rules. -/
namespace VS
open PySem PySem.Spec PyProof.Rows L2

def lift {α : Type} : Option α → R α
  | some a => .ok a
  | none => .stuck
@[simp] theorem lift_some {α : Type} (a : α) : lift (some a) = R.ok a := rfl
@[simp] theorem lift_none {α : Type} : lift (none : Option α) = R.stuck := rfl
theorem Res.lift {α : Type} {E : Wd} {W : WX} {B : Bs} {c : Env} {σ : L2.St} {fp : List Addr} {G H : Hp} {o : Option α} {P : α → Prop} (h : Res E W B c σ fp G H (lift o) P) : ∃ a, o = some a ∧ P a := by
  cases o with
  | some a => exact ⟨a, rfl, h⟩
  | none => exact h.elim

/-! ### names, constants -/
def eV (i : Nat) : Env → R D := fun c => match c[i]? with
  | some (some (.v d)) => .ok d
  | _ => .stuck
def eL (i : Nat) : Env → R D := fun c => match c[i]? with
  | some (some o) => .ok o.toD
  | _ => .stuck
def eC (d : D) : Env → R D := fun _ => .ok d
section
variable {X : Cx} {W : WX} {b b' b1 b2 : Bool} {e a : Expr} {pos : Pos}
theorem px_v (i : Nat) {x : Str} (hN : X.N[i]? = some x := by rfl) (hv : Vis X.env.scope x := by first | exact Or.inl rfl | exact Or.inr (Or.inl rfl) | exact Or.inr (Or.inr rfl)) (hd : (x == ("__debug__" : Str)) = false := by decide)
    (hcd : (x == ("__classdict__" : Str)) = false := by decide) : PX X W true (.Name x pos) (eV i) := pe_mono (pe_var hN hv hd hcd) fun σ H Q ⟨B, G, c, fp, A, q⟩ => by
  unfold eV at q
  split at q
  · rename_i d e
    obtain ⟨v, fq, e1, e2, e3⟩ := A.cells.get e
    cases e2 with
    | v r => exact ⟨v, e1, q.here A r⟩
  · exact q.elim
theorem px_l (i : Nat) {x : Str} (hN : X.N[i]? = some x := by rfl) (hv : Vis X.env.scope x := by first | exact Or.inl rfl | exact Or.inr (Or.inl rfl) | exact Or.inr (Or.inr rfl)) (hd : (x == ("__debug__" : Str)) = false := by decide)
    (hcd : (x == ("__classdict__" : Str)) = false := by decide) : PX X W false (.Name x pos) (eL i) := pe_mono (pe_var hN hv hd hcd) fun σ H Q ⟨B, G, c, fp, A, q⟩ => by
  unfold eL at q
  split at q
  · rename_i o e
    obtain ⟨v, fq, e1, e2, e3⟩ := A.cells.get e
    exact ⟨v, e1, q.here A (e2.rp A.fine.le (fun _ _ _ z => z) A.fine.le)⟩
  · exact q.elim
theorem px_c {t : TE} {v : V} {d : D} (h : PE X e t) (k : ∀ σ H Q, Q v H → t σ H Q) (r : ∀ G, Rp ⟨X.K, X.mg⟩ G v d) : PX X W true e (eC d) := pe_mono h fun σ H Q ⟨B, G, c, fp, A, q⟩ => k _ _ _ (Post.here q A (r _))
theorem px_int {i : Int} {j : Nat} : PX X W true (.Constant (.int i) j pos) (eC (.int i)) := px_c pe_int (fun _ _ _ q => q) fun _ => .int i
theorem px_bl {t : Bool} {j : Nat} : PX X W true (.Constant (.bool t) j pos) (eC (.bl t)) := px_c pe_bl (fun _ _ _ q => q) fun _ => .bl t
theorem px_non {j : Nat} : PX X W true (.Constant .none j pos) (eC .non) := px_c pe_non (fun _ _ _ q => q) fun _ => .non
theorem px_str {x : Str} {j : Nat} (l : List Nat) (h : x = S l := by decide +kernel) : PX X W true (.Constant (.str x) j pos) (eC (.str l)) := by
  subst h
  exact px_c pe_str (fun _ _ _ q => q) fun _ => .str l
theorem px_glob {x : Str} {v : V} {u : Value} {d : D} (r : ∀ G, Rp ⟨X.K, X.mg⟩ G v d) (hm : X.mg x = some u) (rv : RelV v u) (hg : Gl X x := by rfl) (hd : (x == ("__debug__" : Str)) = false := by decide) : PX X W true (.Name x pos) (eC d) :=
  px_c (pe_glob hg hm rv hd) (fun _ _ _ q => q) r

/-! ### parts one behind the other -/
def eNil : Env → R (List D) := fun _ => .ok []
def eCons (g : Env → R D) (gs : Env → R (List D)) : Env → R (List D) := fun c => g c >>= fun d => gs c >>= fun ds => .ok (d :: ds)
theorem pxa_nil : PXA X W b [] eNil := pa_mono pa_nil fun σ H Q ⟨B, G, c, fp, A, q⟩ => q [] G H (Same.refl _) (Same.refl _) A .nil
theorem pxa_cons {es : List Expr} {g : Env → R D} {gs : Env → R (List D)} (h : PX X W b e g) (hr : PXA X W b es gs) (hs : starEach (e :: es) X.env = (false, eval e X.env) :: starEach es X.env := by rfl) : PXA X W b (e :: es) (eCons g gs) :=
  pa_mono (pa_cons h hr hs) fun σ H Q ⟨B, G, c, fp, A, q⟩ => tx_seq A q fun d e v G1 H1 s1 t1 A1 r1 q1 => txa_seq A1 q1 fun ds e2 vs G2 H2 s2 t2 A2 r2 q2 =>
    q2 (v :: vs) G2 H2 (s1.trans s2) (t1.trans t2) A2 (.cons (vw_mono s2 t2 r1) r2)
/-- what a call of a built-in is worth, by values -/
def CallOk (E : Wd) (r : List V → Hp → VK → Prop) (b b' : Bool) (f : List D → Option D) : Prop :=
  ∀ {B : Bs} {G H : Hp} {c : Env} {σ : L2.St} {fp : List Addr} {vs : List V} {ds : List D} {d : D} {Q : VK}, Abs E B G H c σ fp → RpL E (vw b G H) vs ds → f ds = some d → Post E B c σ fp G H b' Q d → r vs H Q
def Op2Ok (E : Wd) (r : R2) (b1 b2 b' : Bool) (f : D → D → Option D) : Prop :=
  ∀ {B : Bs} {G H : Hp} {c : Env} {σ : L2.St} {fp : List Addr} {x y : V} {dx dy d : D} {Q : VK}, Abs E B G H c σ fp → Rp E (vw b1 G H) x dx → Rp E (vw b2 G H) y dy → f dx dy = some d → Post E B c σ fp G H b' Q d → r x y H Q
def eFn (f : List D → Option D) (gs : Env → R (List D)) : Env → R D := fun c => gs c >>= fun ds => lift (f ds)
def eOp2 (f : D → D → Option D) (ga gb : Env → R D) : Env → R D := fun c => ga c >>= fun x => gb c >>= fun y => lift (f x y)
theorem tx_op2 {r : R2} {f : D → D → Option D} (hr : Op2Ok ⟨X.K, X.mg⟩ r b1 b2 b' f) {ga gb : Env → R D} : ∀ σ H Q, TX ⟨X.K, X.mg⟩ W b' (eOp2 f ga gb) σ H Q → tOp r (TX ⟨X.K, X.mg⟩ W b1 ga) (TX ⟨X.K, X.mg⟩ W b2 gb) σ H Q :=
  fun σ H Q ⟨B, G, c, fp, A, q⟩ => tx_seq A q fun d e v G1 H1 s1 t1 A1 r1 q1 => tx_seq A1 q1 fun d2 e2 v2 G2 H2 s2 t2 A2 r2 q2 => by
    obtain ⟨d3, e3, p3⟩ := Res.lift q2
    exact hr A2 (vw_mono s2 t2 r1) r2 e3 (p3.grow (s1.trans s2) (t1.trans t2))
theorem px_op {op : Operator} {r : R2} {f : D → D → Option D} (ho : OpR X (binaryOp op) r) (hr : Op2Ok ⟨X.K, X.mg⟩ r b1 b2 b' f) {eb : Expr} {ga gb : Env → R D} (ha : PX X W b1 a ga) (hb : PX X W b2 eb gb) : PX X W b' (.BinOp a op eb pos) (eOp2 f ga gb) :=
  pe_mono (pe_op ho ha hb) (tx_op2 hr)
theorem px_cmp {op : CmpOp} {r : R2} {f : D → D → Option D} (ho : OpR X (compareOp op) r) (hr : Op2Ok ⟨X.K, X.mg⟩ r b1 b2 b' f) {eb : Expr} {ga gb : Env → R D} (ha : PX X W b1 a ga) (hb : PX X W b2 eb gb) (hm : behindInMarks op eb = false) : PX X W b' (.Compare a [op] [eb] pos) (eOp2 f ga gb) :=
  pe_mono (pe_cmpR ho ha hb hm) (tx_op2 hr)
def asB : D → Option Bool
  | .bl t => some t
  | _ => none
def eB (g : Env → R D) : Env → R Bool := fun c => g c >>= fun d => lift (asB d)
theorem asB_rp {E : Wd} {G : Hp} {v : V} {d : D} {t : Bool} (h : Rp E G v d) (e : asB d = some t) : v = .bl t := by
  cases d <;> simp [asB] at e
  subst e
  cases h
  rfl
theorem tx_test {g : Env → R D} : ∀ σ H Q, TXT ⟨X.K, X.mg⟩ W (eB g) σ H Q → tTest (TX ⟨X.K, X.mg⟩ W b g) σ H Q :=
  fun σ H Q ⟨B, G, c, fp, A, q⟩ => tx_seq A q fun d e v G1 H1 s1 t1 A1 r1 q1 => by
    obtain ⟨t, e3, p3⟩ := Res.lift q1
    exact ⟨t, asB_rp r1 e3, p3 G1 H1 s1 t1 A1⟩
theorem pxt_cmp {op : CmpOp} {r : R2} {f : D → D → Option D} (ho : OpR X (compareOp op) r) (hr : Op2Ok ⟨X.K, X.mg⟩ r b1 b2 true f) {eb : Expr} {ga gb : Env → R D} (ha : PX X W b1 a ga) (hb : PX X W b2 eb gb) (hm : behindInMarks op eb = false) : PXT X W (.Compare a [op] [eb] pos) (eB (eOp2 f ga gb)) :=
  pt_mono (pt_cmpR ho ha hb hm) fun σ H Q q => by
    obtain ⟨x, y, z⟩ := (⟨tx_test (b := true) σ H Q q, trivial, trivial⟩ : _ ∧ True ∧ True)
    have x' : TX ⟨X.K, X.mg⟩ W true (eOp2 f ga gb) σ H (fun x H' => ∃ k, x = .bl k ∧ Q k H') := x
    exact tx_op2 hr σ H _ x'
theorem pxt_val {g : Env → R D} (h : PX X W b e g) (he : ∀ whole, isTrue e X.env whole = (do let v ← whole; standAt e.pos; holding [v] (truthy v)) := by intro _; rfl) : PXT X W e (eB g) :=
  pt_mono (pt_val h he) fun σ H Q q => tx_test σ H Q q
/-- truth of other values -/
def truD : D → Option Bool
  | .non => some false
  | .bl t => some t
  | .int i => some (i != 0)
  | .str l => if l.length ≤ 16777216 then some (!l.isEmpty) else none
  | .tup ds => some (!ds.isEmpty)
  | .lst ds => some (!ds.isEmpty)
  | _ => none
def eTru (g : Env → R D) : Env → R Bool := fun c => g c >>= fun d => lift (truD d)
theorem RpL.isEmpty {E : Wd} {G : Hp} {vs : List V} {ds : List D} (h : RpL E G vs ds) : vs.isEmpty = ds.isEmpty := by
  cases h <;> rfl
theorem pxt_truth {g : Env → R D} (h : PX X W b e g) (he : ∀ whole, isTrue e X.env whole = (do let v ← whole; standAt e.pos; holding [v] (truthy v)) := by intro _; rfl) : PXT X W e (eTru g) :=
  pt_mono (pt_truth h he) fun σ H Q ⟨B, G, c, fp, A, q⟩ => tx_seq A q fun d e v G1 H1 s1 t1 A1 r1 q1 => by
    obtain ⟨t, e3, p3⟩ := Res.lift q1
    have r2 := vw_rp A1.fine.le r1
    refine ⟨t, ?_, p3 G1 H1 s1 t1 A1⟩
    cases r2 with
    | non => cases e3; rfl
    | bl b => cases e3; rfl
    | int i => cases e3; rfl
    | str l =>
      simp only [truD] at e3
      split at e3
      · rename_i hl
        cases e3
        refine ⟨by show l.toArray.size ≤ _; rw [sizeLine_eq]; simpa using hl, ?_⟩
        show (!l.isEmpty) = ((l.toArray.size : Int) != 0)
        cases l <;> simp
        omega
      · cases e3
    | tup hs r => cases e3; exact .inr (.inl ⟨_, hs, by rw [r.isEmpty]⟩)
    | lst hs r => cases e3; exact .inl ⟨_, hs, by rw [r.isEmpty]⟩
    | dic _ _ _ => cases e3
    | obj _ _ _ _ => cases e3

/-! ### and, or, not, if else -/
def tAnd' (g k : Env → R Bool) : Env → R Bool := fun c => g c >>= fun t => if t then k c else .ok false
def tOr' (g k : Env → R Bool) : Env → R Bool := fun c => g c >>= fun t => if t then .ok true else k c
def tNot' (g : Env → R Bool) : Env → R Bool := fun c => g c >>= fun t => .ok (!t)
def PXW (X : Cx) (W : WX) (e : Expr) (g : Env → R Bool) : Prop := PW X e (TXT ⟨X.K, X.mg⟩ W g)
theorem pw_mono {t t' : TT} (h : PW X e t) (k : ∀ σ H Q, t' σ H Q → t σ H Q) : PW X e t' := ⟨fun wh pins s σ H Q I q => h.run wh pins s σ H Q I (k σ H Q q)⟩
theorem PXW.pt {g : Env → R Bool} (h : PXW X W e g) : PXT X W e g := PW.pt h
variable {g k : Env → R Bool} {rest : List Expr}
theorem pxw_and1 (h : PXT X W a g) : PXW X W (.BoolOp .And [a] pos) g := pw_and1 h
theorem pxw_or1 (h : PXT X W a g) : PXW X W (.BoolOp .Or [a] pos) g := pw_or1 h
theorem pxw_and {eb : Expr} (h : PXT X W a g) (h2 : PXW X W (.BoolOp .And (eb :: rest) pos) k) : PXW X W (.BoolOp .And (a :: eb :: rest) pos) (tAnd' g k) :=
  pw_mono (pw_and h h2) fun σ H Q ⟨B, G, c, fp, A, q⟩ => txt_seq A q fun t e G1 H1 s1 t1 A1 q1 => by
    cases t with
    | true => exact ⟨B, G1, c, fp, A1, Res.grow (r := k c) q1 (Same.refl _) (Same.refl _) fun x _ z => z.grow s1 t1⟩
    | false => exact q1 G1 H1 s1 t1 A1
theorem pxw_or {eb : Expr} (h : PXT X W a g) (h2 : PXW X W (.BoolOp .Or (eb :: rest) pos) k) : PXW X W (.BoolOp .Or (a :: eb :: rest) pos) (tOr' g k) :=
  pw_mono (pw_or h h2) fun σ H Q ⟨B, G, c, fp, A, q⟩ => txt_seq A q fun t e G1 H1 s1 t1 A1 q1 => by
    cases t with
    | false => exact ⟨B, G1, c, fp, A1, Res.grow (r := k c) q1 (Same.refl _) (Same.refl _) fun x _ z => z.grow s1 t1⟩
    | true => exact q1 G1 H1 s1 t1 A1
theorem pxt_not (h : PXT X W a g) : PXT X W (.UnaryOp .Not a pos) (tNot' g) :=
  pt_mono (pt_not h) fun σ H Q ⟨B, G, c, fp, A, q⟩ => txt_seq A q fun t e G1 H1 s1 t1 A1 q1 => q1 G1 H1 s1 t1 A1
/-- as values -/
def eAnd (ga gb : Env → R D) : Env → R D := fun c => ga c >>= fun d => lift (asB d) >>= fun t => if t then gb c else .ok (.bl false)
def eOr (ga gb : Env → R D) : Env → R D := fun c => ga c >>= fun d => lift (asB d) >>= fun t => if t then .ok (.bl true) else gb c
def eNot (ga : Env → R D) : Env → R D := fun c => ga c >>= fun d => lift (asB d) >>= fun t => .ok (.bl !t)
theorem px_one {op : BoolOp} {ga : Env → R D} (h : PX X W b a ga) : PX X W b (.BoolOp op [a] pos) ga := pe_one h
theorem px_and {eb : Expr} {ga gb : Env → R D} (h : PX X W b1 a ga) (h2 : PX X W true (.BoolOp .And (eb :: rest) pos) gb) : PX X W true (.BoolOp .And (a :: eb :: rest) pos) (eAnd ga gb) :=
  pe_mono (pe_and h h2) fun σ H Q ⟨B, G, c, fp, A, q⟩ => tx_seq A q fun d e v G1 H1 s1 t1 A1 r1 q1 => by
    cases hd : asB d with
    | none => rw [hd] at q1; exact q1.elim
    | some t =>
      rw [hd] at q1
      refine ⟨t, asB_rp r1 hd, ?_⟩
      cases t with
      | true => exact ⟨B, G1, c, fp, A1, Res.grow (r := gb c) q1 (Same.refl _) (Same.refl _) fun x _ z => z.grow s1 t1⟩
      | false => exact q1 _ G1 H1 s1 t1 A1 (.bl false)
theorem px_or {eb : Expr} {ga gb : Env → R D} (h : PX X W b1 a ga) (h2 : PX X W true (.BoolOp .Or (eb :: rest) pos) gb) : PX X W true (.BoolOp .Or (a :: eb :: rest) pos) (eOr ga gb) :=
  pe_mono (pe_or h h2) fun σ H Q ⟨B, G, c, fp, A, q⟩ => tx_seq A q fun d e v G1 H1 s1 t1 A1 r1 q1 => by
    cases hd : asB d with
    | none => rw [hd] at q1; exact q1.elim
    | some t =>
      rw [hd] at q1
      refine ⟨t, asB_rp r1 hd, ?_⟩
      cases t with
      | false => exact ⟨B, G1, c, fp, A1, Res.grow (r := gb c) q1 (Same.refl _) (Same.refl _) fun x _ z => z.grow s1 t1⟩
      | true => exact q1 _ G1 H1 s1 t1 A1 (.bl true)
theorem px_not {ga : Env → R D} (h : PX X W b1 a ga) : PX X W true (.UnaryOp .Not a pos) (eNot ga) :=
  pe_mono (pe_not h) fun σ H Q ⟨B, G, c, fp, A, q⟩ => tx_seq A q fun d e v G1 H1 s1 t1 A1 r1 q1 => by
    cases hd : asB d with
    | none => rw [hd] at q1; exact q1.elim
    | some t =>
      rw [hd] at q1
      exact ⟨t, asB_rp r1 hd, q1 _ G1 H1 s1 t1 A1 (.bl _)⟩
def eIf (g : Env → R Bool) (ga gb : Env → R D) : Env → R D := fun c => g c >>= fun t => if t then ga c else gb c
theorem px_if {ec eb : Expr} {ga gb : Env → R D} (hc : PXT X W ec g) (ha : PX X W b a ga) (hb : PX X W b eb gb) : PX X W b (.IfExp ec a eb pos) (eIf g ga gb) :=
  pe_mono (pe_ifExp hc ha hb) fun σ H Q ⟨B, G, c, fp, A, q⟩ => txt_seq A q fun t e G1 H1 s1 t1 A1 q1 => by
    cases t with
    | true => exact ⟨B, G1, c, fp, A1, Res.grow (r := ga c) q1 (Same.refl _) (Same.refl _) fun x _ z => z.grow s1 t1⟩
    | false => exact ⟨B, G1, c, fp, A1, Res.grow (r := gb c) q1 (Same.refl _) (Same.refl _) fun x _ z => z.grow s1 t1⟩

/-! ### calls of built-ins -/
theorem tx_fn {r : List V → Hp → VK → Prop} {f : List D → Option D} (hr : CallOk ⟨X.K, X.mg⟩ r b b' f) {gs : Env → R (List D)} : ∀ σ H Q, TX ⟨X.K, X.mg⟩ W b' (eFn f gs) σ H Q → tCB r (TXA ⟨X.K, X.mg⟩ W b gs) σ H Q :=
  fun σ H Q ⟨B, G, c, fp, A, q⟩ => txa_seq A q fun ds e vs G1 H1 s1 t1 A1 r1 q1 => by
    obtain ⟨d3, e3, p3⟩ := Res.lift q1
    exact hr A1 r1 e3 (p3.grow s1 t1)
theorem px_fn {id : String} {x : Str} {r : List V → Hp → VK → Prop} {f : List D → Option D} {e : Expr} {es : List Expr} {gs : Env → R (List D)} {p : Pos} (hc : CallR X (.builtin id) r) (hr : CallOk ⟨X.K, X.mg⟩ r b b' f) (hm : X.mg x = none) (ha : PXA X W b (e :: es) gs) (hg : Gl X x := by rfl) (hv : bootBuiltins x = some (.builtin id) := by decide +kernel)
    (hn : x ≠ "__name__" := by decide) (hdb : (x == ("__debug__" : Str)) = false := by decide) (he : starEach (e :: es) X.env = (false, eval e X.env) :: starEach es X.env := by rfl) (hpl : (backTo pos (starEach es X.env)).any (·.1) = false := by rfl) :
    PX X W b' (.Call (.Name x p) (e :: es) [] pos) (eFn f gs) := pe_mono (pe_callB hc hg hm hv ha hn hdb he hpl) (tx_fn hr)
theorem px_ty {T : String} {x : Str} {r : List V → Hp → VK → Prop} {f : List D → Option D} {e : Expr} {es : List Expr} {gs : Env → R (List D)} {p : Pos} (hc : CallR X (.type T) r) (hr : CallOk ⟨X.K, X.mg⟩ r b b' f) (hm : X.mg x = none) (ha : PXA X W b (e :: es) gs) (hg : Gl X x := by rfl) (hv : bootBuiltins x = some (.type T) := by decide +kernel)
    (hn : x ≠ "__name__" := by decide) (hdb : (x == ("__debug__" : Str)) = false := by decide) (he : starEach (e :: es) X.env = (false, eval e X.env) :: starEach es X.env := by rfl) (hpl : (backTo pos (starEach es X.env)).any (·.1) = false := by rfl) :
    PX X W b' (.Call (.Name x p) (e :: es) [] pos) (eFn f gs) := pe_mono (pe_callTy hc hg hm hv ha hn hdb he hpl) (tx_fn hr)
/-! ### displays -/
def fTup (ds : List D) : Option D := if ds.length ≤ 16777216 then some (.tup ds) else none
def fLst (ds : List D) : Option D := if ds.length ≤ 16777216 then some (.lst ds) else none
theorem sz_ok {n : Nat} (h : n ≤ 16777216) : n ≤ sizeLine := by rw [sizeLine_eq]; exact h
theorem px_tup {es : List Expr} {x1 : _} {gs : Env → R (List D)} (h : PXA X W true es gs) : PX X W true (.Tuple es x1 pos) (eFn fTup gs) :=
  pe_mono (pe_tup h) fun σ H Q ⟨B, G, c, fp, A, q⟩ => txa_seq A q fun ds e vs G1 H1 s1 t1 A1 r1 q1 => by
    obtain ⟨d3, e3, p3⟩ := Res.lift q1
    unfold fTup at e3
    split at e3
    · cases e3
      rename_i hl
      refine ⟨sz_ok (by rw [r1.length]; exact hl), fun p hp => (p3.grow s1 t1).new A1 hp fun s => .tup (.inl (.inl upd_same)) (r1.mono s)⟩
    · cases e3
theorem px_lst {es : List Expr} {gs : Env → R (List D)} (h : PXA X W true es gs) : PX X W true (.List es pos) (eFn fLst gs) :=
  pe_mono (pe_lst h) fun σ H Q ⟨B, G, c, fp, A, q⟩ => txa_seq A q fun ds e vs G1 H1 s1 t1 A1 r1 q1 => by
    obtain ⟨d3, e3, p3⟩ := Res.lift q1
    unfold fLst at e3
    split at e3
    · cases e3
      rename_i hl
      refine ⟨sz_ok (by rw [r1.length]; exact hl), fun p hp => (p3.grow s1 t1).new A1 hp fun s => .lst (.inl (.inl upd_same)) (r1.mono s)⟩
    · cases e3
end
end VS

/-! VS: operators. -/
namespace VS
open PySem PySem.Spec PyProof.Rows L2

/-! ### items that may be kept -/
def okEl (b : Bool) (ds : List D) : Bool := b || D.flats ds
def okE (b : Bool) (d : D) : Bool := b || D.flat d
@[simp] theorem okEl_t (ds : List D) : okEl true ds = true := rfl
@[simp] theorem okE_t (d : D) : okE true d = true := rfl
@[simp] theorem okEl_f (ds : List D) : okEl false ds = D.flats ds := rfl
@[simp] theorem okE_f (d : D) : okE false d = D.flat d := rfl
section
variable {E : Wd} {B : Bs} {c : Env} {σ : L2.St} {fp : List Addr} {G H : Hp} {b : Bool}
theorem Rp.known (f : Fine B G H) {v : V} {d : D} (r : Rp E (vw b G H) v d) (k : okE b d = true) : Rp E G v d := by
  cases b with
  | true => exact r
  | false => exact Rp.down f r k
theorem RpL.down (f : Fine B G H) : ∀ {vs : List V} {ds : List D}, RpL E H vs ds → D.flats ds = true → RpL E G vs ds
  | _, [], r, _ => by cases r; exact .nil
  | _, d :: ds, r, k => by
    cases r with
    | cons h r =>
      simp at k
      exact .cons (Rp.down f h k.1) (RpL.down f r k.2)
theorem RpL.known (f : Fine B G H) {vs : List V} {ds : List D} (r : RpL E (vw b G H) vs ds) (k : okEl b ds = true) : RpL E G vs ds := by
  cases b with
  | true => exact r
  | false => exact RpL.down f r k
end
@[simp] theorem vw_t (G H : Hp) : vw true G H = G := rfl
@[simp] theorem vw_f (G H : Hp) : vw false G H = H := rfl
theorem same_vw {G H : Hp} (b : Bool) (s : Same G H) : Same (vw b G H) H := by
  cases b with
  | true => exact s
  | false => exact Same.refl _
/-- a list as it may be read in the heap -/
theorem Rp.lstH {E : Wd} {G H : Hp} {b : Bool} {v : V} {ds : List D} (r : Rp E (vw b G H) v (.lst ds)) (s : Same G H) : ∃ a vs, v = .ref a ∧ SqL E.K H a vs ∧ RpL E (vw b G H) vs ds := by
  cases r with
  | lst h r => exact ⟨_, _, rfl, Same.sqL (same_vw b s) h, r⟩
theorem Rp.tupH {E : Wd} {G H : Hp} {b : Bool} {v : V} {ds : List D} (r : Rp E (vw b G H) v (.tup ds)) (s : Same G H) : ∃ a vs, v = .ref a ∧ SqT E.K H a vs ∧ RpL E (vw b G H) vs ds := by
  cases r with
  | tup h r => exact ⟨_, _, rfl, Same.sqT (same_vw b s) h, r⟩
theorem Rp.intH {E : Wd} {G : Hp} {v : V} {i : Int} (r : Rp E G v (.int i)) : v = .int i := by cases r; rfl
theorem Rp.strH {E : Wd} {G : Hp} {v : V} {l : List Nat} (r : Rp E G v (.str l)) : v = .str (S l) := by cases r; rfl
theorem Rp.blH {E : Wd} {G : Hp} {v : V} {t : Bool} (r : Rp E G v (.bl t)) : v = .bl t := by cases r; rfl
@[simp] theorem S_len (l : List Nat) : (S l).length = l.length := by show l.toArray.size = _; simp
@[simp] theorem S_list (l : List Nat) : (S l).cps.toList = l := rfl
theorem S_app (a b : List Nat) : S a ++ S b = S (a ++ b) := by
  show (⟨a.toArray ++ b.toArray⟩ : Str) = ⟨(a ++ b).toArray⟩
  simp
theorem S_inj {a b : List Nat} : S a = S b ↔ a = b := ⟨fun h => by
  have e : a.toArray = b.toArray := congrArg Str.cps h
  simpa using e, fun h => by rw [h]⟩

/-! ### + -/
def opAdd (b1 b2 : Bool) : D → D → Option D
  | .int i, .int j => some (.int (i + j))
  | .str a, .str b => if a.length + b.length ≤ 16777216 then some (.str (a ++ b)) else none
  | .lst a, .lst b => if a.length + b.length ≤ 16777216 ∧ okEl b1 a = true ∧ okEl b2 b = true then some (.lst (a ++ b)) else none
  | .tup a, .tup b => if a.length + b.length ≤ 16777216 ∧ okEl b1 a = true ∧ okEl b2 b = true then some (.tup (a ++ b)) else none
  | _, _ => none
def rCatR (K : PySem.W.Frag) : R2 := fun x y H Q => ∃ l b xs zs, x = .ref l ∧ y = .ref b ∧ SqL K H l xs ∧ SqL K H b zs ∧ xs.length + zs.length ≤ sizeLine ∧ ∀ p, H p = none → Q (.ref p) (upd H p (.lst (xs ++ zs)))
section
variable {X : Cx} {W : WX} {b b' b1 b2 : Bool}
theorem lst_of {P : Program} {w : World} {H : Hp} {h : Heap} {a : Addr} {xs : List V} (r : Rd H a (.lst xs)) (x : HOk P w H h) : xs.length ≤ sizeLine ∧ ∃ (its : List Value) (n : Nat), Vals xs its ∧ h.get? a = some { cls := .type "list", data := .seq its.toArray n } := r.ok x
theorem op_catR : OpR X (binaryOp .Add) (rCatR X.K) := by
  intro pins s σ H x y v u Q I rx ry h
  obtain ⟨l, b, xs, zs, rfl, rfl, hH, hB, hz, q⟩ := h
  cases rx
  cases ry
  obtain ⟨its, r1, p1, z1⟩ := I.list hH
  obtain ⟨its2, r2, p2, z2⟩ := I.list hB
  have l1 := r1.length
  have l2 := r2.length
  obtain ⟨⟨cls, dd, data, sl⟩, ho, hc, n, hd⟩ := id p1.isList
  obtain ⟨⟨cls2, dd2, data2, sl2⟩, ho2, hc2, n2, hd2⟩ := id p2.isList
  simp only at hc hd hc2 hd2
  subst hc hd hc2 hd2
  have ea : its.toArray ++ its2.toArray = (its ++ its2).toArray := by simp
  refine concat_meets ⟨_, ho, rfl⟩ ⟨_, ho2, rfl⟩ noFill_list_add seq_list_add PySem.F.slot_list_add PySem.F.entry_list_add (PySem.F.args_list_add_2 _ _) (list_addW l b its.toArray its2.toArray n n2 dd dd2 sl sl2 (by rw [List.size_toArray, List.size_toArray]; omega)) ⟨ho, ho2, ?_⟩
  rw [ea]
  exact ⟨.ref _, _, I.lnew (t' := s.toks) (r1.append r2) (by rw [List.length_append]; omega), rfl, q _ I.fresh⟩
def rAddD (K : PySem.W.Frag) : R2 := fun x y H Q => (rI0 fun i j => V.int (i + j)) x y H Q ∨ (∃ i j, x = .str i ∧ y = .str j ∧ i.length + j.length ≤ sizeLine ∧ Q (.str (i ++ j)) H) ∨ rCatR K x y H Q ∨ rCatA K x y H Q
theorem op_addD : OpR X (binaryOp .Add) (rAddD X.K) := op_add.or (op_add_str.or (op_catR.or op_catA))
theorem ok_add : Op2Ok ⟨X.K, X.mg⟩ (rAddD X.K) b1 b2 true (opAdd b1 b2) := by
  intro B G H c σ fp x y dx dy d Q A rx ry e p
  unfold opAdd at e
  split at e
  · cases e
    exact .inl ⟨_, _, rx.intH, ry.intH, p.here A (.int _)⟩
  · split at e
    · cases e
      rename_i hl
      refine .inr (.inl ⟨_, _, rx.strH, ry.strH, by rw [S_len, S_len, sizeLine_eq]; exact hl, ?_⟩)
      rw [S_app]
      exact p.here A (.str _)
    · cases e
  · split at e
    · cases e
      rename_i hl
      obtain ⟨hl, k1, k2⟩ := hl
      obtain ⟨a1, vs, rfl, h1, r1⟩ := rx.lstH A.fine.le
      obtain ⟨a2, ws, rfl, h2, r2⟩ := ry.lstH A.fine.le
      have g1 := RpL.known A.fine r1 k1
      have g2 := RpL.known A.fine r2 k2
      refine .inr (.inr (.inl ⟨_, _, _, _, rfl, rfl, h1, h2, by rw [g1.length, g2.length, sizeLine_eq]; exact hl, fun q hq => p.new A hq fun s => .lst (.inl (.inl upd_same)) ((g1.append g2).mono s)⟩))
    · cases e
  · split at e
    · cases e
      rename_i hl
      obtain ⟨hl, k1, k2⟩ := hl
      obtain ⟨a1, vs, rfl, h1, r1⟩ := rx.tupH A.fine.le
      obtain ⟨a2, ws, rfl, h2, r2⟩ := ry.tupH A.fine.le
      have g1 := RpL.known A.fine r1 k1
      have g2 := RpL.known A.fine r2 k2
      have d1 : SqT X.K G a1 vs := by
        rcases h1 with (z | ⟨o, z⟩) | z
        · exact .inl (.inl (A.fine.tup _ _ z rfl))
        · exact .inl (.inr ⟨o, A.fine.tup _ _ z rfl⟩)
        · exact .inr z
      have d2 : SqT X.K G a2 ws := by
        rcases h2 with (z | ⟨o, z⟩) | z
        · exact .inl (.inl (A.fine.tup _ _ z rfl))
        · exact .inl (.inr ⟨o, A.fine.tup _ _ z rfl⟩)
        · exact .inr z
      refine .inr (.inr (.inr ⟨_, _, _, _, rfl, rfl, h1, h2, by rw [g1.length, g2.length, sizeLine_eq]; exact hl, fun z => ?_, fun z1 z2 => ?_, fun _ _ q hq => p.new A hq fun s => .tup (.inl (.inl upd_same)) ((g1.append g2).mono s)⟩))
      · subst z
        cases g1
        exact p.here A (.tup d2 (by simpa using g2))
      · subst z2
        cases g2
        exact p.here A (.tup d1 (by simpa using g1))
    · cases e
  · cases e

/-! ### the others, of ints (and texts) -/
def opSub : D → D → Option D
  | .int i, .int j => some (.int (i - j))
  | _, _ => none
theorem ok_sub : Op2Ok ⟨X.K, X.mg⟩ (rI0 fun i j => V.int (i - j)) b1 b2 true opSub := by
  intro B G H c σ fp x y dx dy d Q A rx ry e p
  unfold opSub at e
  split at e
  · cases e
    exact ⟨_, _, rx.intH, ry.intH, p.here A (.int _)⟩
  · cases e
def opMul : D → D → Option D
  | .int i, .int j => if (-(2 ^ 64) < i ∧ i < 2 ^ 64) ∨ (-(2 ^ 64) < j ∧ j < 2 ^ 64) then some (.int (i * j)) else none
  | .str l, .int j => if -(2 ^ 63) ≤ j ∧ j < 2 ^ 63 ∧ l.length * j.toNat ≤ 16777216 then some (.str (List.replicate j.toNat l).flatten) else none
  | _, _ => none
def rMulS : R2 := fun x y H Q => ∃ l j, x = .str (S l) ∧ y = .int j ∧ (-(2 ^ 63) ≤ j ∧ j < 2 ^ 63 ∧ l.length * j.toNat ≤ 16777216) ∧ Q (.str (S (List.replicate j.toNat l).flatten)) H
theorem rep_flat (l : List Nat) : ∀ (n : Nat) (acc : List Nat), (List.replicate n l.toArray).foldl (· ++ ·) acc.toArray = (acc ++ (List.replicate n l).flatten).toArray
  | 0, acc => by simp
  | n + 1, acc => by
    rw [List.replicate_succ, List.foldl_cons]
    have e : acc.toArray ++ l.toArray = (acc ++ l).toArray := by simp
    rw [e, rep_flat l n]
    simp [List.replicate_succ]
theorem op_mulS : OpR X (binaryOp .Mult) rMulS := by
  intro pins s σ H x y v u Q I rx ry h
  obtain ⟨l, j, rfl, rfl, ⟨h1, h2, h3⟩, q⟩ := h
  obtain ⟨t, rfl⟩ := rx
  obtain ⟨t', rfl⟩ := ry
  refine PySem.P.mul_str (by simp; omega) (fun n1 n2 => ?_) (fun n1 n2 => ?_) ?_
  · intro z
    have hpos : 0 < j := by omega
    have k : ((S l).length : Int) * j ≤ 16777216 := by
      rw [S_len]
      have e : ((l.length * j.toNat : Nat) : Int) = (l.length : Int) * j := by
        rw [Int.natCast_mul, Int.toNat_of_nonneg (by omega)]
      omega
    have w : ((S l).length : Int) ≤ (2 ^ 63 - 1) / j := by
      refine (Int.le_ediv_iff_mul_le hpos).mpr ?_
      omega
    omega
  · show decide _ = false
    rw [S_len, sizeLine_eq]
    simp
    omega
  · by_cases n1 : j < 1
    · rw [if_pos n1]
      have e : j.toNat = 0 := by omega
      rw [e] at q
      refine ⟨by decide, ⟨.str Str.empty, H, I.tok _, ⟨_, rfl⟩, ?_⟩⟩
      simpa [S, Str.empty] using q
    · rw [if_neg n1]
      split
      · rename_i hz
        refine ⟨.str (S l), H, I, ⟨_, rfl⟩, ?_⟩
        simp at hz
        rcases hz with hz | hz
        · subst hz
          simpa using q
        · subst hz
          simpa using q
      · have e := rep_flat l j.toNat []
        simp only [List.nil_append] at e
        have e2 : (⟨(List.replicate j.toNat (S l).cps).foldl (· ++ ·) #[]⟩ : Str) = S (List.replicate j.toNat l).flatten := by
          show (⟨_⟩ : Str) = ⟨_⟩
          rw [← e]
          rfl
        rw [e2]
        refine ⟨?_, ⟨.str (S (List.replicate j.toNat l).flatten), H, I.tok _, ⟨_, rfl⟩, q⟩⟩
        rw [S_len, sizeLine_eq]
        simp
        rw [Nat.mul_comm]; exact h3
theorem ok_mul : Op2Ok ⟨X.K, X.mg⟩ (fun x y H Q => (rI CMul fun i j => V.int (i * j)) x y H Q ∨ rMulS x y H Q) b1 b2 true opMul := by
  intro B G H c σ fp x y dx dy d Q A rx ry e p
  unfold opMul at e
  split at e
  · split at e
    · cases e
      rename_i hc
      exact .inl ⟨_, _, rx.intH, ry.intH, hc, p.here A (.int _)⟩
    · cases e
  · split at e
    · cases e
      rename_i hc
      exact .inr ⟨_, _, rx.strH, ry.intH, hc, p.here A (.str _)⟩
    · cases e
  · cases e
def opMod : D → D → Option D
  | .int i, .int j => if 0 < j then some (.int (i % j)) else none
  | _, _ => none
theorem ok_mod : Op2Ok ⟨X.K, X.mg⟩ (rI (fun _ j => 0 < j) fun i j => V.int (i % j)) b1 b2 true opMod := by
  intro B G H c σ fp x y dx dy d Q A rx ry e p
  unfold opMod at e
  split at e
  · split at e
    · cases e
      rename_i hc
      exact ⟨_, _, rx.intH, ry.intH, hc, p.here A (.int _)⟩
    · cases e
  · cases e
def opDiv : D → D → Option D
  | .int i, .int j => if 0 < j ∧ j < 1073741824 then some (.int (i / j)) else none
  | _, _ => none
theorem ok_div : Op2Ok ⟨X.K, X.mg⟩ (rI CDiv fun i j => V.int (i / j)) b1 b2 true opDiv := by
  intro B G H c σ fp x y dx dy d Q A rx ry e p
  unfold opDiv at e
  split at e
  · split at e
    · cases e
      rename_i hc
      exact ⟨_, _, rx.intH, ry.intH, hc, p.here A (.int _)⟩
    · cases e
  · cases e
def opPow : D → D → Option D
  | .int i, .int j => if 0 ≤ j ∧ j ≤ 1000000 ∧ i.natAbs < 2 ^ 64 then some (.int (i ^ j.toNat)) else none
  | _, _ => none
theorem ok_pow : Op2Ok ⟨X.K, X.mg⟩ (rI CPow fun i j => V.int (i ^ j.toNat)) b1 b2 true opPow := by
  intro B G H c σ fp x y dx dy d Q A rx ry e p
  unfold opPow at e
  split at e
  · split at e
    · cases e
      rename_i hc
      exact ⟨_, _, rx.intH, ry.intH, hc, p.here A (.int _)⟩
    · cases e
  · cases e
def opShl : D → D → Option D
  | .int i, .int j => if 0 ≤ j ∧ j ≤ 1000000 ∧ i.natAbs < 2 ^ 64 then some (.int (i * 2 ^ j.toNat)) else none
  | _, _ => none
theorem ok_shl : Op2Ok ⟨X.K, X.mg⟩ (rI CPow fun i j => V.int (i * 2 ^ j.toNat)) b1 b2 true opShl := by
  intro B G H c σ fp x y dx dy d Q A rx ry e p
  unfold opShl at e
  split at e
  · split at e
    · cases e
      rename_i hc
      exact ⟨_, _, rx.intH, ry.intH, hc, p.here A (.int _)⟩
    · cases e
  · cases e
def opShr : D → D → Option D
  | .int i, .int j => if 0 ≤ j then some (.int (i / 2 ^ j.toNat)) else none
  | _, _ => none
theorem ok_shr : Op2Ok ⟨X.K, X.mg⟩ (rI (fun _ j => 0 ≤ j) fun i j => V.int (i / 2 ^ j.toNat)) b1 b2 true opShr := by
  intro B G H c σ fp x y dx dy d Q A rx ry e p
  unfold opShr at e
  split at e
  · split at e
    · cases e
      rename_i hc
      exact ⟨_, _, rx.intH, ry.intH, hc, p.here A (.int _)⟩
    · cases e
  · cases e
def opBit (f : Int → Int → Int) : D → D → Option D
  | .int i, .int j => some (.int (f i j))
  | _, _ => none
theorem ok_bit {f : Int → Int → Int} : Op2Ok ⟨X.K, X.mg⟩ (rI0 fun i j => V.int (f i j)) b1 b2 true (opBit f) := by
  intro B G H c σ fp x y dx dy d Q A rx ry e p
  unfold opBit at e
  split at e
  · cases e
    exact ⟨_, _, rx.intH, ry.intH, p.here A (.int _)⟩
  · cases e
/-- < and its kin, of ints -/
def opRel (f : Int → Int → Bool) : D → D → Option D
  | .int i, .int j => some (.bl (f i j))
  | _, _ => none
theorem ok_rel {f : Int → Int → Bool} : Op2Ok ⟨X.K, X.mg⟩ (rI0 fun i j => V.bl (f i j)) b1 b2 true (opRel f) := by
  intro B G H c σ fp x y dx dy d Q A rx ry e p
  unfold opRel at e
  split at e
  · cases e
    exact ⟨_, _, rx.intH, ry.intH, p.here A (.bl _)⟩
  · cases e
end
end VS

/-! VS: equality, membership, items, slices. -/
namespace VS
open PySem PySem.Spec PyProof.Rows L2

mutual
def D.py : D → PyData
  | .non => .none
  | .bl b => .bool b
  | .int i => .int i
  | .str l => .str (S l)
  | .tup ds => .tuple (D.pys ds)
  | .lst ds => .list (D.pys ds)
  | .dic _ _ => .none
  | .obj _ _ _ => .none
def D.pys : List D → List PyData
  | [] => []
  | d :: ds => D.py d :: D.pys ds
end
mutual
/-- data that == may meet: no dict, no object; at most n deep -/
def D.pln : Nat → D → Bool
  | _, .non => true
  | _, .bl _ => true
  | _, .int _ => true
  | _, .str l => l.all (· < 0x110000)
  | 0, .tup _ => false
  | 0, .lst _ => false
  | n + 1, .tup ds => D.plns n ds
  | n + 1, .lst ds => D.plns n ds
  | _, .dic _ _ => false
  | _, .obj _ _ _ => false
def D.plns : Nat → List D → Bool
  | _, [] => true
  | n, d :: ds => D.pln n d && D.plns n ds
end
mutual
/-- == -/
def D.eqv : D → D → Bool
  | .non, .non => true
  | .bl a, .bl b => a == b
  | .bl a, .int j => (if a then 1 else 0) == j
  | .int i, .bl b => i == (if b then 1 else 0)
  | .int i, .int j => i == j
  | .str x, .str y => x == y
  | .tup xs, .tup ys => D.eqvs xs ys
  | .lst xs, .lst ys => D.eqvs xs ys
  | _, _ => false
def D.eqvs : List D → List D → Bool
  | [], [] => true
  | x :: xs, y :: ys => D.eqv x y && D.eqvs xs ys
  | _, _ => false
end
mutual
theorem D.lay : ∀ (n : Nat) (d : D), D.pln n d = true → d.py.canLay0 = true ∧ d.py.depth ≤ n
  | n, .non, _ => by simp [D.py, PyData.canLay0, PyData.depth]
  | n, .bl _, _ => by simp [D.py, PyData.canLay0, PyData.depth]
  | n, .int _, _ => by simp [D.py, PyData.canLay0, PyData.depth]
  | n, .str l, h => by
    simp only [D.py, PyData.canLay0, PyData.depth]
    refine ⟨?_, Nat.zero_le _⟩
    rw [D.pln] at h
    show (l.toArray).all _ = true
    rw [← Array.all_toList]
    exact h
  | 0, .tup _, h => by simp [D.pln] at h
  | 0, .lst _, h => by simp [D.pln] at h
  | n + 1, .tup ds, h => by
    rw [D.pln] at h
    obtain ⟨h1, h2⟩ := D.lays n ds h
    simp only [D.py, PyData.canLay0, PyData.depth]
    exact ⟨h1, by omega⟩
  | n + 1, .lst ds, h => by
    rw [D.pln] at h
    obtain ⟨h1, h2⟩ := D.lays n ds h
    simp only [D.py, PyData.canLay0, PyData.depth]
    exact ⟨h1, by omega⟩
  | n, .dic _ _, h => by simp [D.pln] at h
  | n, .obj _ _ _, h => by simp [D.pln] at h
theorem D.lays : ∀ (n : Nat) (ds : List D), D.plns n ds = true → PyData.canLayAll0 (D.pys ds) = true ∧ PyData.depthAll (D.pys ds) ≤ n
  | n, [], _ => by simp [D.pys, PyData.canLayAll0, PyData.depthAll]
  | n, d :: ds, h => by
    rw [D.plns] at h
    simp at h
    obtain ⟨h1, h2⟩ := D.lay n d h.1
    obtain ⟨h3, h4⟩ := D.lays n ds h.2
    simp only [D.pys, PyData.canLayAll0, PyData.depthAll]
    exact ⟨by simp [h1, h3], by omega⟩
end
theorem D.shaped {n : Nat} {d : D} (hn : n ≤ 64) (h : D.pln n d = true) : SeqAt.shaped d.py = true := by
  obtain ⟨h1, h2⟩ := D.lay n d h
  unfold SeqAt.shaped
  rw [h1]
  simp
  omega
mutual
theorem D.eqv_py : ∀ (n m : Nat) (d e : D), D.pln n d = true → D.pln m e = true → PyData.eqv d.py e.py = D.eqv d e
  | n, m, .tup xs, .tup ys, h, k => by
    cases n with
    | zero => simp [D.pln] at h
    | succ n => cases m with
      | zero => simp [D.pln] at k
      | succ m =>
        rw [D.pln] at h k
        simp only [D.py, PyData.eqv, D.eqv]
        exact D.eqvs_py n m xs ys h k
  | n, m, .lst xs, .lst ys, h, k => by
    cases n with
    | zero => simp [D.pln] at h
    | succ n => cases m with
      | zero => simp [D.pln] at k
      | succ m =>
        rw [D.pln] at h k
        simp only [D.py, PyData.eqv, D.eqv]
        exact D.eqvs_py n m xs ys h k
  | n, m, .non, e, h, k => by cases e <;> simp_all [D.py, PyData.eqv, D.eqv, D.pln]
  | n, m, .bl _, e, h, k => by cases e <;> simp_all [D.py, PyData.eqv, D.eqv, D.pln]
  | n, m, .int _, e, h, k => by cases e <;> simp_all [D.py, PyData.eqv, D.eqv, D.pln]
  | n, m, .str a, .str b, h, k => by
    simp only [D.py, PyData.eqv, D.eqv]
    by_cases e : a = b
    · subst e; simp
    · have e2 : ¬ S a = S b := fun z => e (S_inj.mp z)
      rw [beq_eq_false_iff_ne.mpr e, beq_eq_false_iff_ne.mpr e2]
  | n, m, .str _, .non, h, k => by simp [D.py, PyData.eqv, D.eqv]
  | n, m, .str _, .bl _, h, k => by simp [D.py, PyData.eqv, D.eqv]
  | n, m, .str _, .int _, h, k => by simp [D.py, PyData.eqv, D.eqv]
  | n, m, .str _, .tup _, h, k => by simp [D.py, PyData.eqv, D.eqv]
  | n, m, .str _, .lst _, h, k => by simp [D.py, PyData.eqv, D.eqv]
  | n, m, _, .dic _ _, h, k => by simp [D.pln] at k
  | n, m, _, .obj _ _ _, h, k => by simp [D.pln] at k
  | n, m, .dic _ _, _, h, k => by simp [D.pln] at h
  | n, m, .obj _ _ _, _, h, k => by simp [D.pln] at h
  | n, m, .tup _, .non, h, k => by simp [D.py, PyData.eqv, D.eqv]
  | n, m, .tup _, .bl _, h, k => by simp [D.py, PyData.eqv, D.eqv]
  | n, m, .tup _, .int _, h, k => by simp [D.py, PyData.eqv, D.eqv]
  | n, m, .tup _, .str _, h, k => by simp [D.py, PyData.eqv, D.eqv]
  | n, m, .tup _, .lst _, h, k => by simp [D.py, PyData.eqv, D.eqv]
  | n, m, .lst _, .non, h, k => by simp [D.py, PyData.eqv, D.eqv]
  | n, m, .lst _, .bl _, h, k => by simp [D.py, PyData.eqv, D.eqv]
  | n, m, .lst _, .int _, h, k => by simp [D.py, PyData.eqv, D.eqv]
  | n, m, .lst _, .str _, h, k => by simp [D.py, PyData.eqv, D.eqv]
  | n, m, .lst _, .tup _, h, k => by simp [D.py, PyData.eqv, D.eqv]
theorem D.eqvs_py : ∀ (n m : Nat) (xs ys : List D), D.plns n xs = true → D.plns m ys = true → PyData.eqvAll (D.pys xs) (D.pys ys) = D.eqvs xs ys
  | n, m, [], [], _, _ => by simp [D.pys, PyData.eqvAll, D.eqvs]
  | n, m, [], y :: ys, _, _ => by simp [D.pys, PyData.eqvAll, D.eqvs]
  | n, m, x :: xs, [], _, _ => by simp [D.pys, PyData.eqvAll, D.eqvs]
  | n, m, x :: xs, y :: ys, h, k => by
    rw [D.plns] at h k
    simp at h k
    simp only [D.pys, PyData.eqvAll, D.eqvs]
    rw [D.eqv_py n m x y h.1 k.1, D.eqvs_py n m xs ys h.2 k.2]
end
@[simp] theorem D.pys_map (ds : List D) : D.pys ds = ds.map D.py := by
  induction ds with
  | nil => rfl
  | cons d ds ih => rw [D.pys, ih]; rfl
theorem plns_all (n : Nat) (ds : List D) : D.plns n ds = ds.all (D.pln n) := by
  induction ds with
  | nil => rfl
  | cons d ds ih => rw [D.plns, ih]; rfl

section
variable {E : Wd} {G : Hp}
mutual
theorem Rp.dp : ∀ (n : Nat) (d : D) (v : V), Rp E G v d → D.pln n d = true → Dp E.K G v d.py
  | n, .non, _, h, _ => by cases h; exact .non
  | n, .bl b, _, h, _ => by cases h; exact .bl b
  | n, .int i, _, h, _ => by cases h; exact .int i
  | n, .str l, _, h, _ => by cases h; exact .str _
  | 0, .tup ds, _, h, k => by simp [D.pln] at k
  | 0, .lst ds, _, h, k => by simp [D.pln] at k
  | n + 1, .tup ds, _, h, k => by
    cases h with
    | tup h r => rw [D.py]; exact .tup h (RpL.dp n ds _ r (by rw [D.pln] at k; exact k))
  | n + 1, .lst ds, _, h, k => by
    cases h with
    | lst h r => rw [D.py]; exact .lst h (RpL.dp n ds _ r (by rw [D.pln] at k; exact k))
  | n, .dic _ _, _, h, k => by simp [D.pln] at k
  | n, .obj _ _ _, _, h, k => by simp [D.pln] at k
theorem RpL.dp : ∀ (n : Nat) (ds : List D) (vs : List V), RpL E G vs ds → D.plns n ds = true → DpAll E.K G vs (D.pys ds)
  | n, [], _, h, _ => by cases h; exact .nil
  | n, d :: ds, _, h, k => by
    cases h with
    | cons h r =>
      rw [D.plns] at k
      simp at k
      rw [D.pys]
      exact .cons (Rp.dp n d _ h k.1) (RpL.dp n ds _ r k.2)
end
end
section
variable {X : Cx} {W : WX} {b b' b1 b2 : Bool}
def opEq : D → D → Option D := fun d e => if D.pln 64 d && D.pln 64 e then some (.bl (D.eqv d e)) else none
def opNe : D → D → Option D := fun d e => if D.pln 64 d && D.pln 64 e then some (.bl (!D.eqv d e)) else none
theorem ok_eq : Op2Ok ⟨X.K, X.mg⟩ (rEqD X.K) b1 b2 true opEq := by
  intro B G H c σ fp x y dx dy d Q A rx ry e p
  unfold opEq at e
  split at e
  · cases e
    rename_i hc
    simp at hc
    exact ⟨_, _, Rp.dp 64 _ _ (vw_rp A.fine.le rx) hc.1, Rp.dp 64 _ _ (vw_rp A.fine.le ry) hc.2, D.shaped (Nat.le_refl _) hc.1, D.shaped (Nat.le_refl _) hc.2, by rw [D.eqv_py 64 64 _ _ hc.1 hc.2]; exact p.here A (.bl _)⟩
  · cases e
theorem ok_ne : Op2Ok ⟨X.K, X.mg⟩ (rNeD X.K) b1 b2 true opNe := by
  intro B G H c σ fp x y dx dy d Q A rx ry e p
  unfold opNe at e
  split at e
  · cases e
    rename_i hc
    simp at hc
    exact ⟨_, _, Rp.dp 64 _ _ (vw_rp A.fine.le rx) hc.1, Rp.dp 64 _ _ (vw_rp A.fine.le ry) hc.2, D.shaped (Nat.le_refl _) hc.1, D.shaped (Nat.le_refl _) hc.2, by rw [D.eqv_py 64 64 _ _ hc.1 hc.2]; exact p.here A (.bl _)⟩
  · cases e
/-! ### is None -/
def D.isNon : D → Bool
  | .non => true
  | _ => false
def opIs : D → D → Option D
  | d, .non => some (.bl d.isNon)
  | _, _ => none
def opIsnt : D → D → Option D
  | d, .non => some (.bl (!d.isNon))
  | _, _ => none
theorem rp_non {E : Wd} {G : Hp} {v : V} {d : D} (r : Rp E G v d) : decide (v = .non) = d.isNon := by cases r <;> simp [D.isNon]
theorem ok_is : Op2Ok ⟨X.K, X.mg⟩ (fun x y H Q => y = .non ∧ Q (.bl (decide (x = .non))) H) b1 b2 true opIs := by
  intro B G H c σ fp x y dx dy d Q A rx ry e p
  unfold opIs at e
  split at e
  · cases e
    refine ⟨by cases ry; rfl, ?_⟩
    rw [rp_non rx]
    exact p.here A (.bl _)
  · cases e
theorem ok_isnt : Op2Ok ⟨X.K, X.mg⟩ (fun x y H Q => y = .non ∧ Q (.bl (!decide (x = .non))) H) b1 b2 true opIsnt := by
  intro B G H c σ fp x y dx dy d Q A rx ry e p
  unfold opIsnt at e
  split at e
  · cases e
    refine ⟨by cases ry; rfl, ?_⟩
    rw [rp_non rx]
    exact p.here A (.bl _)
  · cases e
/-! ### in -/
def inD : D → D → Option Bool
  | .str x, .str l => some (!(Builtin.Str.occurrences (S l) (S x) 0 l.length 1).isEmpty)
  | d, .lst ds => if D.pln 64 d && D.pln 64 (.lst ds) then some (ds.any fun z => D.eqv z d) else none
  | d, .tup ds => if D.pln 64 d && D.pln 64 (.tup ds) then some (ds.any fun z => D.eqv z d) else none
  | d, .dic ks _ => match d.key with
    | some k => some (ks.any fun z => z.key == some k)
    | none => none
  | _, _ => none
def opIn : D → D → Option D := fun d e => (inD d e).map D.bl
def opNotIn : D → D → Option D := fun d e => (inD d e).map fun t => D.bl !t
def rInA (K : PySem.W.Frag) (neg : Bool) : R2 := fun x y H Q => ∃ d ds, Dp K H x d ∧ (Dp K H y (.list ds) ∨ Dp K H y (.tuple ds)) ∧ SeqAt.shaped d = true ∧ SeqAt.shaped (.list ds) = true ∧ Q (.bl (if neg then !(ds.any fun z => PyData.eqv z d) else ds.any fun z => PyData.eqv z d)) H
theorem op_inA (hu : X.A.units + 65 < cLine) : OpR X (compareOp .In) (rInA X.K false) := by
  intro pins s σ H x y v u Q I rx ry h
  obtain ⟨d, ds, hd, he, sd, se, q⟩ := h
  obtain ⟨as, r1⟩ := Dp.reads I d x v hd rx
  rcases he with he | he
  · obtain ⟨bs, r2⟩ := Dp.reads I (.list ds) y u he ry
    exact SeqAt.in_list_reads r2 r1 (SeqAt.canLay_of_shaped se) (SeqAt.canLay_of_shaped sd) (room_in_shaped sd hu) ⟨.bl _, H, I, rfl, q⟩
  · obtain ⟨bs, r2⟩ := Dp.reads I (.tuple ds) y u he ry
    exact SeqAt.in_tuple_reads r2 r1 (SeqAt.canLay_of_shaped se) (SeqAt.canLay_of_shaped sd) (room_in_shaped sd hu) ⟨.bl _, H, I, rfl, q⟩
theorem op_notInA (hu : X.A.units + 65 < cLine) : OpR X (compareOp .NotIn) (rInA X.K true) := by
  intro pins s σ H x y v u Q I rx ry h
  obtain ⟨d, ds, hd, he, sd, se, q⟩ := h
  obtain ⟨as, r1⟩ := Dp.reads I d x v hd rx
  rcases he with he | he
  · obtain ⟨bs, r2⟩ := Dp.reads I (.list ds) y u he ry
    exact SeqAt.notIn_list_reads r2 r1 (SeqAt.canLay_of_shaped se) (SeqAt.canLay_of_shaped sd) (room_in_shaped sd hu) ⟨.bl _, H, I, rfl, q⟩
  · obtain ⟨bs, r2⟩ := Dp.reads I (.tuple ds) y u he ry
    exact SeqAt.notIn_tuple_reads r2 r1 (SeqAt.canLay_of_shaped se) (SeqAt.canLay_of_shaped sd) (room_in_shaped sd hu) ⟨.bl _, H, I, rfl, q⟩
def rStrIn (neg : Bool) : R2 := fun x y H Q => ∃ i j, x = .str i ∧ y = .str j ∧ Q (.bl (if neg then !(!(Builtin.Str.occurrences j i 0 j.length 1).isEmpty) else !(Builtin.Str.occurrences j i 0 j.length 1).isEmpty)) H
def rInX (K : PySem.W.Frag) (neg : Bool) : R2 := fun x y H Q => rStrIn neg x y H Q ∨ rInA K neg x y H Q
theorem op_inX (hu : X.A.units + 65 < cLine) : OpR X (compareOp .In) (rInX X.K false) := OpR.or op_in_str (op_inA hu)
theorem op_notInX (hu : X.A.units + 65 < cLine) : OpR X (compareOp .NotIn) (rInX X.K true) := OpR.or op_notin_str (op_notInA hu)
/-- membership but in a dict -/
def inS : D → D → Option Bool
  | .str x, .str l => some (!(Builtin.Str.occurrences (S l) (S x) 0 l.length 1).isEmpty)
  | d, .lst ds => if D.pln 64 d && D.pln 64 (.lst ds) then some (ds.any fun z => D.eqv z d) else none
  | d, .tup ds => if D.pln 64 d && D.pln 64 (.tup ds) then some (ds.any fun z => D.eqv z d) else none
  | _, _ => none
theorem any_py {n : Nat} {d : D} {ds : List D} (h : D.pln 64 d = true) (k : D.plns n ds = true) : ((D.pys ds).any fun z => PyData.eqv z d.py) = ds.any fun z => D.eqv z d := by
  rw [plns_all] at k
  rw [D.pys_map, List.any_map]
  induction ds with
  | nil => rfl
  | cons x ds ih =>
    simp at k
    rw [List.any_cons, List.any_cons, ih (by simpa using k.2)]
    show (PyData.eqv x.py d.py || _) = _
    rw [D.eqv_py n 64 x d k.1 h]
theorem ok_inX {neg : Bool} : Op2Ok ⟨X.K, X.mg⟩ (rInX X.K neg) b1 b2 true (fun d e => (inS d e).map fun t => D.bl (if neg then !t else t)) := by
  intro B G H c σ fp x y dx dy d Q A rx ry e p
  have rx' := vw_rp A.fine.le rx
  have ry' := vw_rp A.fine.le ry
  obtain ⟨t, ht, rfl⟩ := Option.map_eq_some_iff.mp e
  clear e
  unfold inS at ht
  split at ht
  · cases ht
    refine .inl ⟨_, _, rx'.strH, ry'.strH, ?_⟩
    rw [S_len]
    exact p.here A (.bl _)
  · split at ht
    · cases ht
      rename_i es hc
      simp only [Bool.and_eq_true] at hc
      obtain ⟨h1, h2⟩ := hc
      have h3 : D.plns 63 es = true := by rw [D.pln] at h2; exact h2
      have hd := Rp.dp 64 _ _ ry' h2
      rw [D.py] at hd
      have hs := D.shaped (Nat.le_refl _) h2
      rw [D.py] at hs
      refine .inr ⟨_, _, Rp.dp 64 _ _ rx' h1, .inl hd, D.shaped (Nat.le_refl _) h1, hs, ?_⟩
      rw [any_py h1 h3]
      exact p.here A (.bl _)
    · cases ht
  · split at ht
    · cases ht
      rename_i es hc
      simp only [Bool.and_eq_true] at hc
      obtain ⟨h1, h2⟩ := hc
      have h3 : D.plns 63 es = true := by rw [D.pln] at h2; exact h2
      have hd := Rp.dp 64 _ _ ry' h2
      rw [D.py] at hd
      have hs : SeqAt.shaped (PyData.list (D.pys es)) = true := by
        have z := D.shaped (Nat.le_refl 64) h2
        rw [D.py] at z
        unfold SeqAt.shaped at z ⊢
        simp only [PyData.canLay0, PyData.depth] at z ⊢
        exact z
      refine .inr ⟨_, _, Rp.dp 64 _ _ rx' h1, .inr hd, D.shaped (Nat.le_refl _) h1, hs, ?_⟩
      rw [any_py h1 h3]
      exact p.here A (.bl _)
    · cases ht
  · cases ht
def opInS : D → D → Option D := fun d e => (inS d e).map fun t => D.bl t
def opNotInS : D → D → Option D := fun d e => (inS d e).map fun t => D.bl (!t)
theorem ok_inS : Op2Ok ⟨X.K, X.mg⟩ (rInX X.K false) b1 b2 true opInS := ok_inX (neg := false)
theorem ok_notInS : Op2Ok ⟨X.K, X.mg⟩ (rInX X.K true) b1 b2 true opNotInS := ok_inX (neg := true)

/-! ### items -/
def opIx (b : Bool) : D → D → Option D
  | .lst ds, .int i => (atI ds i).bind fun d => if okE b d then some d else none
  | .tup ds, .int i => (atI ds i).bind fun d => if okE b d then some d else none
  | .str l, .int i => if l.length ≤ 16777216 then (atI l i).map fun x => .str [x] else none
  | _, _ => none
theorem RpL.at {E : Wd} {G : Hp} {vs : List V} {ds : List D} (h : RpL E G vs ds) {i : Int} {d : D} (e : atI ds i = some d) : ∃ v, atI vs i = some v ∧ Rp E G v d := by
  unfold atI at e ⊢
  rw [h.length]
  cases k : ixN ds.length i with
  | none => rw [k] at e; cases e
  | some j =>
    rw [k] at e
    exact h.get e
theorem ok_ix : Op2Ok ⟨X.K, X.mg⟩ (rIx X.K) b b2 true (opIx b) := by
  intro B G H c σ fp x y dx dy d Q A rx ry e p
  unfold opIx at e
  split at e
  · rename_i ds i
    cases hk : atI ds i with
    | none => rw [hk] at e; cases e
    | some d' =>
      rw [hk] at e
      have e : (if okE b d' then some d' else none) = some d := e
      split at e
      · cases e
        rename_i hok
        obtain ⟨a, vs, rfl, h1, r1⟩ := rx.lstH A.fine.le
        obtain ⟨v, hv, rv⟩ := r1.at hk
        exact .inl ⟨_, _, _, _, rfl, ry.intH, h1, hv, p.here A (rv.known A.fine hok)⟩
      · cases e
  · rename_i ds i
    cases hk : atI ds i with
    | none => rw [hk] at e; cases e
    | some d' =>
      rw [hk] at e
      have e : (if okE b d' then some d' else none) = some d := e
      split at e
      · cases e
        rename_i hok
        obtain ⟨a, vs, rfl, h1, r1⟩ := rx.tupH A.fine.le
        obtain ⟨v, hv, rv⟩ := r1.at hk
        exact .inr (.inl ⟨_, _, _, _, rfl, ry.intH, h1, hv, p.here A (rv.known A.fine hok)⟩)
      · cases e
  · rename_i l i
    split at e
    · rename_i hl
      cases hk : atI l i with
      | none => rw [hk] at e; cases e
      | some z =>
        rw [hk] at e
        cases e
        refine .inr (.inr ⟨_, _, z, rx.strH, ry.intH, by rw [S_len, sizeLine_eq]; exact hl, hk, ?_⟩)
        exact p.here A (.str [z])
    · cases e
  · cases e
theorem px_ix {a eb : Expr} {pos : Pos} {ga gb : Env → R D} (ha : PX X W b a ga) (hb : PX X W b2 eb gb) (hs : PlainIx eb := by exact fun _ _ => rfl) : PX X W true (.Subscript a eb pos) (eOp2 (opIx b) ga gb) :=
  pe_mono (pe_ix ix_seq ha hb hs) (tx_op2 ok_ix)

/-! ### slices -/
def eO (g : Env → R D) : Env → R (Option Int) := fun c => g c >>= fun d => match d with
  | .int i => .ok (some i)
  | _ => .stuck
def eNoO : Env → R (Option Int) := fun _ => .ok none
def PostO (E : Wd) (B : Bs) (c : Env) (σ : L2.St) (fp : List Addr) (G H : Hp) (Q : Option Int → Hp → Prop) (t : Option Int) : Prop :=
  ∀ G' H', Same G G' → Same H H' → Abs E B G' H' c σ fp → Q t H'
def TXO (E : Wd) (W : WX) (g : Env → R (Option Int)) : TO := fun σ H Q => ∃ B G c fp, Abs E B G H c σ fp ∧ Res E W B c σ fp G H (g c) (PostO E B c σ fp G H Q)
def PXO (X : Cx) (W : WX) (e : Option Expr) (g : Env → R (Option Int)) : Prop := PO X e (TXO ⟨X.K, X.mg⟩ W g)
theorem po_mono {e : Option Expr} {t t' : TO} (h : PO X e t) (k : ∀ σ H Q, t' σ H Q → t σ H Q) : PO X e t' := ⟨fun pins s σ H Q I q => h.run pins s σ H Q I (k σ H Q q)⟩
theorem pxo_no : PXO X W none eNoO := po_mono po_none fun σ H Q ⟨B, G, c, fp, A, q⟩ => q G H (Same.refl _) (Same.refl _) A
theorem pxo_some {e : Expr} {g : Env → R D} (h : PX X W b e g) : PXO X W (some e) (eO g) := po_mono (po_some h) fun σ H Q ⟨B, G, c, fp, A, q⟩ => tx_seq A q fun d e v G1 H1 s1 t1 A1 r1 q1 => by
  cases d with
  | int i => exact ⟨i, r1.intH, q1 G1 H1 s1 t1 A1⟩
  | _ => exact q1.elim
theorem txo_seq {α : Type} {E : Wd} {W : WX} {B : Bs} {c : Env} {σ : L2.St} {fp : List Addr} {G H : Hp} {ga : Env → R (Option Int)} {f : Option Int → R α} {P : α → Prop} {Q' : Option Int → Hp → Prop} (A : Abs E B G H c σ fp) (h : Res E W B c σ fp G H (ga c >>= f) P)
    (k : ∀ t, ga c = .ok t → ∀ G1 H1, Same G G1 → Same H H1 → Abs E B G1 H1 c σ fp → Res E W B c σ fp G1 H1 (f t) P → Q' t H1) : TXO E W ga σ H Q' := by
  refine ⟨B, G, c, fp, A, ?_⟩
  cases e : ga c with
  | ok d =>
    rw [e] at h
    exact fun G1 H1 s t A1 => k d e G1 H1 s t A1 (Res.grow (r := f d) h s t fun _ _ z => z)
  | ex x => rw [e] at h; exact h
  | stuck => rw [e] at h; exact h
/-- the part of a list between two places -/
def cutD {α : Type} (xs : List α) (lo hi : Option Int) : List α := (xs.drop (HT.sIx xs.length 0 lo)).take (HT.sIx xs.length xs.length hi - HT.sIx xs.length 0 lo)
def opSl (b : Bool) (d : D) (lo hi : Option Int) : Option D :=
  match d with
  | .lst ds => if okEl b (cutD ds lo hi) then some (.lst (cutD ds lo hi)) else none
  | .tup ds => if okEl b (cutD ds lo hi) then some (.tup (cutD ds lo hi)) else none
  | .str l => if l.length ≤ 16777216 then some (.str (cutD l lo hi)) else none
  | _ => none
def eSl (b : Bool) (g : Env → R D) (gl gh : Env → R (Option Int)) : Env → R D := fun c => g c >>= fun d => gl c >>= fun lo => gh c >>= fun hi => lift (opSl b d lo hi)
def rSlX' (K : PySem.W.Frag) : V → Option Int → Option Int → Hp → VK → Prop := fun x lo hi H Q => rSlL K x lo hi H Q ∨ rSlA K x lo hi H Q ∨ rSlS x lo hi H Q
theorem sl_X : SlR X (rSlX' X.K) := sl_list.or (sl_tupA.or sl_str)
theorem RpL.cut {E : Wd} {G : Hp} {vs : List V} {ds : List D} (h : RpL E G vs ds) (lo hi : Option Int) : RpL E G (cutV vs lo hi) (cutD ds lo hi) := by
  unfold cutV cutD
  rw [h.length]
  exact (h.drop _).take _
theorem cut_whole {α : Type} {xs : List α} {lo hi : Option Int} (h : HT.sIx xs.length 0 lo = 0 ∧ HT.sIx xs.length xs.length hi = xs.length) : cutD xs lo hi = xs := by
  unfold cutD
  rw [h.1, h.2]
  simp
theorem ok_sl {B : Bs} {G H : Hp} {c : Env} {σ : L2.St} {fp : List Addr} {x : V} {d d' : D} {lo hi : Option Int} {Q : VK} (A : Abs ⟨X.K, X.mg⟩ B G H c σ fp) (rx : Rp ⟨X.K, X.mg⟩ (vw b G H) x d) (e : opSl b d lo hi = some d') (p : Post ⟨X.K, X.mg⟩ B c σ fp G H true Q d') : rSlX' X.K x lo hi H Q := by
  unfold opSl at e
  split at e
  · split at e
    · cases e
      rename_i hok
      obtain ⟨a, vs, rfl, h1, r1⟩ := rx.lstH A.fine.le
      exact .inl ⟨_, _, rfl, h1, fun q hq => p.new A hq fun s => .lst (.inl (.inl upd_same)) (((r1.cut lo hi).known A.fine hok).mono s)⟩
    · cases e
  · split at e
    · cases e
      rename_i ds hok
      obtain ⟨a, vs, rfl, h1, r1⟩ := rx.tupH A.fine.le
      have r2 := (r1.cut lo hi).known A.fine hok
      refine .inr (.inl ⟨_, _, rfl, h1, fun hw => ?_, fun hw q hq => p.new A hq fun s => .tup (.inl (.inl upd_same)) (r2.mono s)⟩)
      have e1 : cutV vs lo hi = vs := cut_whole hw
      rw [r1.length] at hw
      have e2 : cutD ds lo hi = ds := cut_whole hw
      rw [e1, e2] at r2
      rw [e2] at p
      refine p.here A (.tup ?_ r2)
      rcases h1 with (z | ⟨o, z⟩) | z
      · exact .inl (.inl (A.fine.tup _ _ z rfl))
      · exact .inl (.inr ⟨o, A.fine.tup _ _ z rfl⟩)
      · exact .inr z
    · cases e
  · split at e
    · cases e
      rename_i l hl
      refine .inr (.inr ⟨S l, rx.strH, by rw [S_len, sizeLine_eq]; exact hl, ?_⟩)
      have e2 : cutS (S l) lo hi = S (cutD l lo hi) := by
        unfold cutS cutD S
        simp [Str.length]
      rw [e2]
      exact p.here A (.str _)
    · cases e
  · cases e
theorem px_sl {a : Expr} {lo hi : Option Expr} {pos p2 : Pos} {g : Env → R D} {gl gh : Env → R (Option Int)} (ha : PX X W b a g) (hl : PXO X W lo gl) (hh : PXO X W hi gh) : PX X W true (.Subscript a (.Slice lo hi none p2) pos) (eSl b g gl gh) :=
  pe_mono (pe_slice sl_X ha hl hh) fun σ H Q ⟨B, G, c, fp, A, q⟩ => tx_seq A q fun d e v G1 H1 s1 t1 A1 r1 q1 => txo_seq A1 q1 fun lo e2 G2 H2 s2 t2 A2 q2 => txo_seq A2 q2 fun hi e3 G3 H3 s3 t3 A3 q3 => by
    obtain ⟨d3, e3, p3⟩ := Res.lift q3
    exact ok_sl A3 (vw_mono (s2.trans s3) (t2.trans t3) r1) e3 (p3.grow (s1.trans (s2.trans s3)) (t1.trans (t2.trans t3)))
end
end VS

/-! VS: built-in functions and methods. -/
namespace VS
open PySem PySem.Spec PyProof.Rows L2

section
variable {X : Cx} {W : WX} {b b' b1 b2 : Bool}
theorem RpL.one {E : Wd} {G : Hp} {vs : List V} {d : D} (h : RpL E G vs [d]) : ∃ v, vs = [v] ∧ Rp E G v d := by
  cases h with
  | cons h r => cases r; exact ⟨_, rfl, h⟩
theorem RpL.two {E : Wd} {G : Hp} {vs : List V} {d e : D} (h : RpL E G vs [d, e]) : ∃ v w, vs = [v, w] ∧ Rp E G v d ∧ Rp E G w e := by
  cases h with
  | cons h r => cases r with
    | cons k r => cases r; exact ⟨_, _, rfl, h, k⟩
theorem vw_rd {G H : Hp} {a : Addr} {u : HO} (s : Same G H) (h : Rd (vw b G H) a u) : Rd H a u := Same.rd (same_vw b s) h
theorem Rp.dicH {E : Wd} {G H : Hp} {v : V} {ks ds : List D} (r : Rp E (vw b G H) v (.dic ks ds)) (s : Same G H) : ∃ a kvs, v = .ref a ∧ Rd H a (.dK kvs) ∧ ks.map D.key = kvs.map (fun p => some p.1) ∧ RpL E (vw b G H) (kvs.map (·.2)) ds := by
  cases r with
  | dic h e r => exact ⟨_, _, rfl, Same.rd (same_vw b s) h, e, r⟩

/-! ### len -/
def fLen : List D → Option D
  | [.str l] => if l.length ≤ 16777216 then some (.int l.length) else none
  | [.lst ds] => some (.int ds.length)
  | [.tup ds] => some (.int ds.length)
  | [.dic ks _] => some (.int ks.length)
  | _ => none
def rLenA (K : PySem.W.Frag) : List V → Hp → VK → Prop := fun xs H Q => (∃ x n, xs = [x] ∧ LenV K x H n ∧ Q (.int n) H) ∨ ∃ a kvs, xs = [V.ref a] ∧ Rd H a (.dK kvs) ∧ Q (.int kvs.length) H
theorem call_lenA : CallR X (.builtin "len") (rLenA X.K) := call_len.or fun pins s σ H xs us Q I r h => by
  obtain ⟨a, kvs, rfl, ha, q⟩ := h
  obtain ⟨u, rfl, ru⟩ := vals1 r
  cases ru
  exact d_len I ha fun t s' I' => ⟨.int kvs.length, H, I', ⟨t, rfl⟩, q⟩
theorem ok_len : CallOk ⟨X.K, X.mg⟩ (rLenA X.K) b true fLen := by
  intro B G H c σ fp vs ds d Q A r e p
  unfold fLen at e
  split at e
  · split at e
    · cases e
      rename_i l hl
      obtain ⟨v, rfl, rv⟩ := r.one
      cases rv.strH
      exact .inl ⟨_, l.length, rfl, ⟨by rw [S_len, sizeLine_eq]; exact hl, by rw [S_len]⟩, p.here A (.int _)⟩
    · cases e
  · cases e
    rename_i ds
    obtain ⟨v, rfl, rv⟩ := r.one
    obtain ⟨a, vs, rfl, h1, r1⟩ := rv.lstH A.fine.le
    exact .inl ⟨_, ds.length, rfl, .inl ⟨vs, h1, r1.length.symm⟩, p.here A (.int _)⟩
  · cases e
    rename_i ds
    obtain ⟨v, rfl, rv⟩ := r.one
    obtain ⟨a, vs, rfl, h1, r1⟩ := rv.tupH A.fine.le
    exact .inl ⟨_, ds.length, rfl, .inr ⟨vs, h1, r1.length.symm⟩, p.here A (.int _)⟩
  · cases e
    rename_i ks ds
    obtain ⟨v, rfl, rv⟩ := r.one
    obtain ⟨a, kvs, rfl, h1, e1, r1⟩ := rv.dicH A.fine.le
    have hl : kvs.length = ks.length := by
      have := congrArg List.length e1
      simpa using this.symm
    refine .inr ⟨_, _, rfl, h1, ?_⟩
    rw [hl]
    exact p.here A (.int _)
  · cases e

/-! ### abs, int, max, min, list, tuple, sum, any, all -/
def fAbs : List D → Option D
  | [.int i] => some (.int (if i < 0 then -i else i))
  | _ => none
theorem ok_abs : CallOk ⟨X.K, X.mg⟩ (fun xs H Q => ∃ i, xs = [V.int i] ∧ Q (.int (if i < 0 then -i else i)) H) b true fAbs := by
  intro B G H c σ fp vs ds d Q A r e p
  unfold fAbs at e
  split at e
  · cases e
    obtain ⟨v, rfl, rv⟩ := r.one
    cases rv.intH
    exact ⟨_, rfl, p.here A (.int _)⟩
  · cases e
def fInt : List D → Option D
  | [.int i] => some (.int i)
  | [.bl t] => some (.int (if t then 1 else 0))
  | _ => none
theorem ok_int : CallOk ⟨X.K, X.mg⟩ (fun xs H Q => (∃ i, xs = [V.int i] ∧ Q (.int i) H) ∨ ∃ k, xs = [V.bl k] ∧ Q (.int (if k then 1 else 0)) H) b true fInt := by
  intro B G H c σ fp vs ds d Q A r e p
  unfold fInt at e
  split at e
  · cases e
    obtain ⟨v, rfl, rv⟩ := r.one
    cases rv.intH
    exact .inl ⟨_, rfl, p.here A (.int _)⟩
  · cases e
    obtain ⟨v, rfl, rv⟩ := r.one
    cases rv.blH
    exact .inr ⟨_, rfl, p.here A (.int _)⟩
  · cases e
def fMax2 : List D → Option D
  | [.int i, .int j] => some (.int (if j > i then j else i))
  | _ => none
theorem ok_max2 : CallOk ⟨X.K, X.mg⟩ (fun xs H Q => ∃ i j, xs = [V.int i, V.int j] ∧ Q (.int (if j > i then j else i)) H) b true fMax2 := by
  intro B G H c σ fp vs ds d Q A r e p
  unfold fMax2 at e
  split at e
  · cases e
    obtain ⟨v, w, rfl, rv, rw'⟩ := r.two
    cases rv.intH
    cases rw'.intH
    exact ⟨_, _, rfl, p.here A (.int _)⟩
  · cases e
def fMin2 : List D → Option D
  | [.int i, .int j] => some (.int (if j < i then j else i))
  | _ => none
theorem ok_min2 : CallOk ⟨X.K, X.mg⟩ (fun xs H Q => ∃ i j, xs = [V.int i, V.int j] ∧ Q (.int (if j < i then j else i)) H) b true fMin2 := by
  intro B G H c σ fp vs ds d Q A r e p
  unfold fMin2 at e
  split at e
  · cases e
    obtain ⟨v, w, rfl, rv, rw'⟩ := r.two
    cases rv.intH
    cases rw'.intH
    exact ⟨_, _, rfl, p.here A (.int _)⟩
  · cases e
def fList (b : Bool) : List D → Option D
  | [.lst ds] => if okEl b ds then some (.lst ds) else none
  | [.tup ds] => if okEl b ds then some (.lst ds) else none
  | [.dic ks _] => if ks.length ≤ 16777216 then some (.lst ks) else none
  | _ => none
def rListA (K : PySem.W.Frag) : List V → Hp → VK → Prop := fun xs H Q => (∃ p ys, xs = [V.ref p] ∧ (SqL K H p ys ∨ SqT K H p ys) ∧ ∀ l, H l = none → Q (.ref l) (upd H l (.lst ys))) ∨
  ∃ (a : Addr) (kvs : List (Key × V)), xs = [.ref a] ∧ Rd H a (.dK kvs) ∧ ∀ p, H p = none → Q (.ref p) (upd H p (.lst (kvs.map fun kv => kV kv.1)))
theorem call_listA (hc : X.calm = true) : CallR X (.type "list") (rListA X.K) := call_list_of.or (call_listD hc)
theorem key_rp {E : Wd} {G : Hp} {d : D} {k : Key} (h : d.key = some k) : Rp E G (kV k) d := by
  cases d <;> simp [D.key] at h
  · subst h; exact .int _
  · subst h; exact .str _
theorem keys_rp {E : Wd} {G : Hp} : ∀ {ks : List D} {kvs : List (Key × V)}, ks.map D.key = kvs.map (fun p => some p.1) → RpL E G (kvs.map fun kv => kV kv.1) ks
  | [], [], _ => .nil
  | [], _ :: _, h => by simp at h
  | _ :: _, [], h => by simp at h
  | k :: ks, kv :: kvs, h => by
    simp at h
    exact .cons (key_rp h.1) (keys_rp (by simpa using h.2))
theorem ok_list : CallOk ⟨X.K, X.mg⟩ (rListA X.K) b true (fList b) := by
  intro B G H c σ fp vs ds d Q A r e p
  unfold fList at e
  split at e
  · split at e
    · cases e
      rename_i hk
      obtain ⟨v, rfl, rv⟩ := r.one
      obtain ⟨a, vs, rfl, h1, r1⟩ := rv.lstH A.fine.le
      exact .inl ⟨_, _, rfl, .inl h1, fun q hq => p.new A hq fun s => .lst (.inl (.inl upd_same)) ((r1.known A.fine hk).mono s)⟩
    · cases e
  · split at e
    · cases e
      rename_i hk
      obtain ⟨v, rfl, rv⟩ := r.one
      obtain ⟨a, vs, rfl, h1, r1⟩ := rv.tupH A.fine.le
      exact .inl ⟨_, _, rfl, .inr h1, fun q hq => p.new A hq fun s => .lst (.inl (.inl upd_same)) ((r1.known A.fine hk).mono s)⟩
    · cases e
  · split at e
    · cases e
      rename_i ks ds hl
      obtain ⟨v, rfl, rv⟩ := r.one
      obtain ⟨a, kvs, rfl, h1, e1, r1⟩ := rv.dicH A.fine.le
      exact .inr ⟨_, _, rfl, h1, fun q hq => p.new A hq fun s => .lst (.inl (.inl upd_same)) (keys_rp e1)⟩
    · cases e
  · cases e
def fTuple (b : Bool) : List D → Option D
  | [.lst ds] => if okEl b ds then some (.tup ds) else none
  | [.tup ds] => if okEl b ds then some (.tup ds) else none
  | _ => none
theorem known_tup {B : Bs} {G H : Hp} {K : PySem.W.Frag} (f : Fine B G H) {a : Addr} {xs : List V} (h : SqT K H a xs) : SqT K G a xs := by
  rcases h with (z | ⟨o, z⟩) | z
  · exact .inl (.inl (f.tup _ _ z rfl))
  · exact .inl (.inr ⟨o, f.tup _ _ z rfl⟩)
  · exact .inr z
theorem ok_tuple : CallOk ⟨X.K, X.mg⟩ (fun xs H Q => ∃ p ys, xs = [V.ref p] ∧ ((SqL X.K H p ys ∧ ∀ l, H l = none → Q (.ref l) (upd H l (.tup ys))) ∨ (SqT X.K H p ys ∧ Q (.ref p) H))) b true (fTuple b) := by
  intro B G H c σ fp vs ds d Q A r e p
  unfold fTuple at e
  split at e
  · split at e
    · cases e
      rename_i hk
      obtain ⟨v, rfl, rv⟩ := r.one
      obtain ⟨a, vs, rfl, h1, r1⟩ := rv.lstH A.fine.le
      exact ⟨_, _, rfl, .inl ⟨h1, fun q hq => p.new A hq fun s => .tup (.inl (.inl upd_same)) ((r1.known A.fine hk).mono s)⟩⟩
    · cases e
  · split at e
    · cases e
      rename_i hk
      obtain ⟨v, rfl, rv⟩ := r.one
      obtain ⟨a, vs, rfl, h1, r1⟩ := rv.tupH A.fine.le
      exact ⟨_, _, rfl, .inr ⟨h1, p.here A (.tup (known_tup A.fine h1) (r1.known A.fine hk))⟩⟩
    · cases e
  · cases e
def asInt : D → Option Int
  | .int i => some i
  | _ => none
def asInts (ds : List D) : Option (List Int) := ds.mapM asInt
theorem asInts_cons (d : D) (ds : List D) : asInts (d :: ds) = (asInt d).bind fun i => (asInts ds).map fun is => i :: is := by
  unfold asInts
  rw [List.mapM_cons]
  cases asInt d <;> simp
  cases List.mapM asInt ds <;> rfl
@[simp] theorem asInts_map (ns : List Int) : asInts (ns.map D.int) = some ns := by
  induction ns with
  | nil => rfl
  | cons n ns ih => rw [List.map_cons, asInts_cons, ih]; rfl
theorem asInts_rp {E : Wd} {G : Hp} : ∀ {ds : List D} {vs : List V} {ns : List Int}, RpL E G vs ds → asInts ds = some ns → vs = ns.map V.int
  | [], _, _, r, e => by cases r; cases e; rfl
  | d :: ds, _, ns, r, e => by
    cases r with
    | cons h r =>
      rw [asInts_cons] at e
      cases d <;> simp [asInt] at e
      obtain ⟨a, e1, rfl⟩ := e
      rw [asInts_rp r e1, h.intH]
      rfl
def fSum : List D → Option D
  | [.lst ds] => (asInts ds).map fun ns => .int ns.sum
  | _ => none
theorem ok_sum : CallOk ⟨X.K, X.mg⟩ (rSum X.K) b true fSum := by
  intro B G H c σ fp vs ds d Q A r e p
  unfold fSum at e
  split at e
  · obtain ⟨ns, e1, rfl⟩ := Option.map_eq_some_iff.mp e
    obtain ⟨v, rfl, rv⟩ := r.one
    obtain ⟨a, vs, rfl, h1, r1⟩ := rv.lstH A.fine.le
    rw [asInts_rp r1 e1] at h1
    exact ⟨_, ns, rfl, h1, p.here A (.int _)⟩
  · cases e
def asBs (ds : List D) : Option (List Bool) := ds.mapM asB
theorem asBs_cons (d : D) (ds : List D) : asBs (d :: ds) = (asB d).bind fun i => (asBs ds).map fun is => i :: is := by
  unfold asBs
  rw [List.mapM_cons]
  cases asB d <;> simp
  cases List.mapM asB ds <;> rfl
@[simp] theorem asBs_map (ns : List Bool) : asBs (ns.map D.bl) = some ns := by
  induction ns with
  | nil => rfl
  | cons n ns ih => rw [List.map_cons, asBs_cons, ih]; rfl
theorem asBs_rp {E : Wd} {G : Hp} : ∀ {ds : List D} {vs : List V} {ns : List Bool}, RpL E G vs ds → asBs ds = some ns → vs = ns.map V.bl
  | [], _, _, r, e => by cases r; cases e; rfl
  | d :: ds, _, ns, r, e => by
    cases r with
    | cons h r =>
      rw [asBs_cons] at e
      cases d <;> simp [asB] at e
      obtain ⟨a, e1, rfl⟩ := e
      rw [asBs_rp r e1, h.blH]
      rfl
def fAny : List D → Option D
  | [.lst ds] => (asBs ds).map fun ns => .bl (ns.any id)
  | _ => none
theorem ok_any : CallOk ⟨X.K, X.mg⟩ (rAny X.K) b true fAny := by
  intro B G H c σ fp vs ds d Q A r e p
  unfold fAny at e
  split at e
  · obtain ⟨ns, e1, rfl⟩ := Option.map_eq_some_iff.mp e
    obtain ⟨v, rfl, rv⟩ := r.one
    obtain ⟨a, vs, rfl, h1, r1⟩ := rv.lstH A.fine.le
    rw [asBs_rp r1 e1] at h1
    exact ⟨_, ns, rfl, h1, p.here A (.bl _)⟩
  · cases e
def fAll : List D → Option D
  | [.lst ds] => (asBs ds).map fun ns => .bl (ns.all id)
  | _ => none
theorem ok_all : CallOk ⟨X.K, X.mg⟩ (rAll X.K) b true fAll := by
  intro B G H c σ fp vs ds d Q A r e p
  unfold fAll at e
  split at e
  · obtain ⟨ns, e1, rfl⟩ := Option.map_eq_some_iff.mp e
    obtain ⟨v, rfl, rv⟩ := r.one
    obtain ⟨a, vs, rfl, h1, r1⟩ := rv.lstH A.fine.le
    rw [asBs_rp r1 e1] at h1
    exact ⟨_, ns, rfl, h1, p.here A (.bl _)⟩
  · cases e

/-! ### isinstance of a built-in type -/
inductive Ty where | bool | int | str | list | tuple | dict
def Ty.name : Ty → String
  | .bool => "bool" | .int => "int" | .str => "str" | .list => "list" | .tuple => "tuple" | .dict => "dict"
def isI : Ty → D → Option Bool
  | T, .non => some false
  | .bool, .bl _ => some true
  | .int, .bl _ => some true
  | _, .bl _ => some false
  | .int, .int _ => some true
  | _, .int _ => some false
  | .str, .str _ => some true
  | _, .str _ => some false
  | .list, .lst _ => some true
  | _, .lst _ => some false
  | .tuple, .tup _ => some true
  | _, .tup _ => some false
  | .dict, .dic _ _ => some true
  | _, .dic _ _ => some false
  | _, .obj _ _ _ => none
def eIs (T : Ty) (g : Env → R D) : Env → R D := fun c => g c >>= fun d => lift ((isI T d).map D.bl)
theorem is_kit : ∀ (T : Ty), kitB "NoneType" T.name = some false ∧ kitB "bool" T.name = some (match T with | .bool => true | .int => true | _ => false) ∧ kitB "int" T.name = some (match T with | .int => true | _ => false) ∧
    kitB "str" T.name = some (match T with | .str => true | _ => false) ∧ kitB "list" T.name = some (match T with | .list => true | _ => false) ∧ kitB "tuple" T.name = some (match T with | .tuple => true | _ => false) ∧ kitB "dict" T.name = some (match T with | .dict => true | _ => false) := by
  intro T
  cases T <;> decide +kernel
theorem is_ty {K : PySem.W.Frag} {mg : Str → Option Value} {H : Hp} {T : Ty} {v : V} {d : D} {t : Bool} (r : Rp ⟨K, mg⟩ H v d) (e : isI T d = some t) : ∃ u, TyX K H v u ∧ PySem.W.kitOne K u (.type T.name) = some t := by
  obtain ⟨k1, k2, k3, k4, k5, k6, k7⟩ := is_kit T
  cases r with
  | non => exact ⟨_, .base .non, kit_ty (by rw [k1]; cases T <;> simpa [isI] using e)⟩
  | bl x => exact ⟨_, .base (.bl x), kit_ty (by rw [k2]; cases T <;> simpa [isI] using e)⟩
  | int i => exact ⟨_, .base (.int i), kit_ty (by rw [k3]; cases T <;> simpa [isI] using e)⟩
  | str l => exact ⟨_, .base (.str _), kit_ty (by rw [k4]; cases T <;> simpa [isI] using e)⟩
  | lst h r =>
    refine ⟨.type "list", ?_, kit_ty (by rw [k5]; cases T <;> simpa [isI] using e)⟩
    rcases h with (h | ⟨o, h⟩) | ⟨o, its, n, h1, h2, _⟩
    · exact .base (.lst h)
    · exact .base (.frz h)
    · exact .kList h1 h2
  | tup h r =>
    refine ⟨.type "tuple", ?_, kit_ty (by rw [k6]; cases T <;> simpa [isI] using e)⟩
    rcases h with (h | ⟨o, h⟩) | ⟨o, its, n, h1, h2, _⟩
    · exact .base (.tup h)
    · exact .fTuple h
    · exact .kTuple h1 h2
  | dic h _ _ =>
    refine ⟨.type "dict", ?_, kit_ty (by rw [k7]; cases T <;> simpa [isI] using e)⟩
    rcases h with h | ⟨o, h⟩
    · exact .base (.dK h)
    · exact .fDict h
  | obj _ _ _ _ => cases T <;> simp [isI] at e
theorem px_is {a : Expr} {g : Env → R D} {x : Str} {p p2 pos : Pos} (T : Ty) (h : PX X W b a g) (hm : X.mg "isinstance" = none) (hx : X.mg x = none) (hT : bootBuiltins x = some (.type T.name) := by decide +kernel) (hgx : Gl X x := by rfl) (hg : Gl X "isinstance" := by rfl)
    (hn : x ≠ "__name__" := by decide) (hdb : (x == ("__debug__" : Str)) = false := by decide) (he : starEach [a, .Name x p2] X.env = (false, eval a X.env) :: starEach [.Name x p2] X.env := by rfl) (hpl : (backTo pos (starEach [.Name x p2] X.env)).any (·.1) = false := by rfl)
    (hs2 : starEach [.Name x p2] X.env = (false, eval (.Name x p2) X.env) :: starEach [] X.env := by rfl) :
    PX X W true (.Call (.Name "isinstance" p) [a, .Name x p2] [] pos) (eIs T g) :=
  pe_mono (pe_callB call_isi hg hm (by decide +kernel) (pa_cons h (pa_cons (pe_bltn (v := .ty T.name) hgx hx hT rfl hn hdb) pa_nil hs2) he) (by decide) (by decide) he hpl) fun σ H Q ⟨B, G, c, fp, A, q⟩ => tx_seq A q fun d e v G1 H1 s1 t1 A1 r1 q1 => by
    obtain ⟨d3, e3, p3⟩ := Res.lift q1
    obtain ⟨t, ht, rfl⟩ := Option.map_eq_some_iff.mp e3
    obtain ⟨u, h1, h2⟩ := is_ty (vw_rp A1.fine.le r1) ht
    exact ⟨_, _, u, _, t, rfl, .ty _, h1, h2, p3 _ G1 H1 s1 t1 A1 (.bl _)⟩

/-! ### methods of texts -/
def asS : D → Option (List Nat)
  | .str l => some l
  | _ => none
def eMS (f : List Nat → List D → Option D) (g : Env → R D) (gs : Env → R (List D)) : Env → R D := fun c => g c >>= fun d => lift (asS d) >>= fun l => gs c >>= fun ds => lift (f l ds)
def MethOk (E : Wd) (r : V → List V → Hp → VK → Prop) (b b' : Bool) (f : List Nat → List D → Option D) : Prop :=
  ∀ {B : Bs} {G H : Hp} {c : Env} {σ : L2.St} {fp : List Addr} {l : List Nat} {vs : List V} {ds : List D} {d : D} {Q : VK}, Abs E B G H c σ fp → RpL E (vw b G H) vs ds → f l ds = some d → Post E B c σ fp G H b' Q d → r (.str (S l)) vs H Q
theorem asS_rp {E : Wd} {G : Hp} {v : V} {d : D} {l : List Nat} (h : Rp E G v d) (e : asS d = some l) : v = .str (S l) := by
  cases d <;> simp [asS] at e
  subst e
  exact h.strH
theorem px_ms {id : String} {name : Str} {r : V → List V → Hp → VK → Prop} {f : List Nat → List D → Option D} {o e : Expr} {es : List Expr} {g : Env → R D} {gs : Env → R (List D)} {apos cpos : Pos} (slot : Slot "str" name id) (hty : typeOf (.builtin id) = pure (.type "method_descriptor")) (hm : MtR X id r) (hr : MethOk ⟨X.K, X.mg⟩ r b b' f)
    (ho : PX X W b1 o g) (ha : PXA X W b (e :: es) gs)
    (hbase : attributeBase o name X.env (eval o X.env) = eval o X.env := by rfl)
    (hfew : ((backTo cpos (starEach (e :: es) X.env)).all (fun x => !x.1) && (backToKw cpos (keywordEach [] X.env)).all (fun x => x.1.isSome)
      && decide ((e :: es).length + ([] : List Keyword).length + (if ([] : List Keyword).isEmpty then 0 else 1) < 30)) = true := by rfl)
    (hline : (apos.endLine == cpos.line) = true := by rfl) (hs : starEach (e :: es) X.env = (false, eval e X.env) :: starEach es X.env := by rfl) (hplain : (backTo cpos (starEach es X.env)).any (·.1) = false := by rfl) :
    PX X W b' (.Call (.Attribute o name apos) (e :: es) [] cpos) (eMS f g gs) :=
  pe_mono (pe_bm PySem.F.plainAttrs_str slot hty hm ho ha hbase hfew hline hs hplain) fun σ H Q ⟨B, G, c, fp, A, q⟩ => tx_seq A q fun d e v G1 H1 s1 t1 A1 r1 q1 => by
    cases hd : asS d with
    | none => rw [hd] at q1; exact q1.elim
    | some l =>
      rw [hd] at q1
      cases asS_rp r1 hd
      refine ⟨rfl, txa_seq A1 q1 fun ds e2 vs G2 H2 s2 t2 A2 r2 q2 => ?_⟩
      obtain ⟨d3, e3, p3⟩ := Res.lift q2
      exact hr A2 r2 e3 (p3.grow (s1.trans s2) (t1.trans t2))
def asSs (ds : List D) : Option (List (List Nat)) := ds.mapM asS
theorem asSs_cons (d : D) (ds : List D) : asSs (d :: ds) = (asS d).bind fun i => (asSs ds).map fun is => i :: is := by
  unfold asSs
  rw [List.mapM_cons]
  cases asS d <;> simp
  cases List.mapM asS ds <;> rfl
@[simp] theorem asSs_map (ns : List (List Nat)) : asSs (ns.map D.str) = some ns := by
  induction ns with
  | nil => rfl
  | cons n ns ih => rw [List.map_cons, asSs_cons, ih]; rfl
theorem asSs_rp {E : Wd} {G : Hp} : ∀ {ds : List D} {vs : List V} {ns : List (List Nat)}, RpL E G vs ds → asSs ds = some ns → vs = (ns.map S).map V.str
  | [], _, _, r, e => by cases r; cases e; rfl
  | d :: ds, _, ns, r, e => by
    cases r with
    | cons h r =>
      rw [asSs_cons] at e
      cases d <;> simp [asS] at e
      obtain ⟨a, e1, rfl⟩ := e
      rw [asSs_rp r e1, h.strH]
      rfl
/-- sep.join(list of texts) -/
def fJoin (l : List Nat) : List D → Option D
  | [.lst ds] => (asSs ds).bind fun xs => if (xs.map List.length).sum + xs.length * l.length ≤ 16777216 then some (.str (TL.joinL l xs)) else none
  | [.tup ds] => (asSs ds).bind fun xs => if (xs.map List.length).sum + xs.length * l.length ≤ 16777216 then some (.str (TL.joinL l xs)) else none
  | _ => none
theorem join_S (l : List Nat) (xs : List (List Nat)) : Txt.join (S l) (xs.map S) = S (TL.joinL l xs) := by
  have h := TL.tl_join (S l) (xs.map S)
  rw [TL.join_eq]
  have e : (xs.map S).map TL.tl = xs := by
    rw [List.map_map]
    have : TL.tl ∘ S = id := by funext x; rfl
    rw [this, List.map_id]
  rw [e] at h
  have h2 : (Str.join (S l) (xs.map S)).cps.toList = TL.joinL l xs := h
  show _ = (⟨(TL.joinL l xs).toArray⟩ : Str)
  rw [← h2]
theorem ok_join : MethOk ⟨X.K, X.mg⟩ (fun x xs H Q => ∃ a p, ∃ ys : List Str, x = .str a ∧ xs = [.ref p] ∧ (SqL X.K H p (ys.map V.str) ∨ SqT X.K H p (ys.map V.str)) ∧ (ys.map (·.length)).sum + ys.length * a.length ≤ 16777216 ∧ Q (.str (Txt.join a ys)) H) b true fJoin := by
  intro B G H c σ fp l vs ds d Q A r e p
  have hlen : ∀ xs : List (List Nat), ((xs.map S).map (·.length)).sum + (xs.map S).length * (S l).length = (xs.map List.length).sum + xs.length * l.length := fun xs => by
    have : ((fun y : Str => y.length) ∘ S) = List.length := by funext x; simp
    rw [List.map_map, this]; simp
  unfold fJoin at e
  split at e
  · obtain ⟨xs, e1, e2⟩ := Option.bind_eq_some_iff.mp e
    split at e2
    · cases e2
      rename_i hl
      obtain ⟨v, rfl, rv⟩ := r.one
      obtain ⟨a, vs, rfl, h1, r1⟩ := rv.lstH A.fine.le
      rw [asSs_rp r1 e1] at h1
      refine ⟨S l, a, xs.map S, rfl, rfl, .inl h1, by rw [hlen]; exact hl, ?_⟩
      rw [join_S]
      exact p.here A (.str _)
    · cases e2
  · obtain ⟨xs, e1, e2⟩ := Option.bind_eq_some_iff.mp e
    split at e2
    · cases e2
      rename_i hl
      obtain ⟨v, rfl, rv⟩ := r.one
      obtain ⟨a, vs, rfl, h1, r1⟩ := rv.tupH A.fine.le
      rw [asSs_rp r1 e1] at h1
      refine ⟨S l, a, xs.map S, rfl, rfl, .inr h1, by rw [hlen]; exact hl, ?_⟩
      rw [join_S]
      exact p.here A (.str _)
    · cases e2
  · cases e
/-- s.index(t), t within -/
def fSIndex (l : List Nat) : List D → Option D
  | [.str k] => match Builtin.Str.occurrences (S l) (S k) 0 l.length 1 with
    | i :: _ => some (.int i)
    | [] => none
  | _ => none
theorem ok_sindex : MethOk ⟨X.K, X.mg⟩ (fun x xs H Q => ∃ a b i rest, x = .str a ∧ xs = [.str b] ∧ Builtin.Str.occurrences a b 0 a.length 1 = i :: rest ∧ Q (.int (i : Nat)) H) b true fSIndex := by
  intro B G H c σ fp l vs ds d Q A r e p
  unfold fSIndex at e
  split at e
  · rename_i k
    split at e
    · rename_i i rest ho
      cases e
      obtain ⟨v, rfl, rv⟩ := r.one
      cases rv.strH
      exact ⟨S l, S k, i, rest, rfl, rfl, by rw [S_len]; exact ho, p.here A (.int _)⟩
    · cases e
  · cases e
end
end VS

/-! VS: statements. -/
namespace VS
open PySem PySem.Spec PyProof.Rows L2

inductive Fl where | nx | bk | ct | rt (d : D)
inductive Rs where | ok (f : Fl) (c : Env) | ex (e : D) (c : Env) | stuck
def PinOk (pn : List Nat) (B : Bs) : Prop := (∀ q ∈ B.pn, q.1 ∈ pn) ∧ (pn = [] → ∀ a, ¬ B.br a)
def ResS (E : Wd) (W : WX) (B : Bs) (G H : Hp) (r : Rs) (Dn : Ends) : Prop :=
  match r with
  | .ok .nx c' => ∀ σ' G' H' fp', Same G G' → Abs E B G' H' c' σ' fp' → Dn.nx σ' H'
  | .ok .bk c' => ∀ σ' G' H' fp', Same G G' → Abs E B G' H' c' σ' fp' → Dn.bk σ' H'
  | .ok .ct c' => ∀ σ' G' H' fp', Same G G' → Abs E B G' H' c' σ' fp' → Dn.ct σ' H'
  | .ok (.rt d) c' => ∀ v σ' G' H' fp', Same G G' → Abs E B G' H' c' σ' fp' → Rp E G' v d → Dn.rt v H'
  | .ex e c' => ∀ cl dx σ' G' H' fp', Same G G' → Abs E B G' H' c' σ' fp' → XRep E G' cl dx e → W cl dx σ' H'
  | .stuck => False
def TSt (E : Wd) (W : WX) (pn : List Nat) (g : Env → Rs) : TS := fun Dn σ H => ∃ B G c fp, Abs E B G H c σ fp ∧ PinOk pn B ∧ ResS E W B G H (g c) Dn
def PXS (X : Cx) (W : WX) (pn : List Nat) (st : Stmt) (g : Env → Rs) : Prop := PS X st (TSt ⟨X.K, X.mg⟩ W pn g)
def PXSs (X : Cx) (W : WX) (pn : List Nat) (st : List Stmt) (g : Env → Rs) : Prop := PSs X st (TSt ⟨X.K, X.mg⟩ W pn g)
theorem ps_mono {X : Cx} {st : Stmt} {t t' : TS} (h : PS X st t) (k : ∀ Dn σ H, t' Dn σ H → t Dn σ H) : PS X st t' := ⟨fun pins s σ H Dn I q => h.run pins s σ H Dn I (k Dn σ H q)⟩
theorem pss_mono {X : Cx} {st : List Stmt} {t t' : TS} (h : PSs X st t) (k : ∀ Dn σ H, t' Dn σ H → t Dn σ H) : PSs X st t' := ⟨fun pins s σ H Dn I q => h.run pins s σ H Dn I (k Dn σ H q)⟩
theorem ResS.grow {E : Wd} {W : WX} {B : Bs} {G H G' H' : Hp} {r : Rs} {Dn : Ends} (h : ResS E W B G H r Dn) (s : Same G G') : ResS E W B G' H' r Dn := by
  cases r with
  | ok f c =>
    cases f with
    | nx => exact fun σ' G2 H2 fp2 t A => h σ' G2 H2 fp2 (s.trans t) A
    | bk => exact fun σ' G2 H2 fp2 t A => h σ' G2 H2 fp2 (s.trans t) A
    | ct => exact fun σ' G2 H2 fp2 t A => h σ' G2 H2 fp2 (s.trans t) A
    | rt d => exact fun v σ' G2 H2 fp2 t A r => h v σ' G2 H2 fp2 (s.trans t) A r
  | ex e c => exact fun cl dx σ' G2 H2 fp2 t A r => h cl dx σ' G2 H2 fp2 (s.trans t) A r
  | stuck => exact h
/-- a part of a statement that is an expression -/
def R.st {α : Type} (r : R α) (c : Env) (f : α → Rs) : Rs :=
  match r with
  | .ok a => f a
  | .ex e => .ex e c
  | .stuck => .stuck
@[simp] theorem st_ok {α : Type} (a : α) (c : Env) (f : α → Rs) : R.st (.ok a) c f = f a := rfl
@[simp] theorem st_stuck {α : Type} (c : Env) (f : α → Rs) : R.st (.stuck : R α) c f = .stuck := rfl
@[simp] theorem st_ex {α : Type} (e : D) (c : Env) (f : α → Rs) : R.st (.ex e : R α) c f = .ex e c := rfl
section
variable {E : Wd} {W : WX} {B : Bs} {c : Env} {σ : L2.St} {fp : List Addr} {G H : Hp} {b : Bool} {Dn : Ends}
theorem tx_st {ga : Env → R D} {f : D → Rs} {Q' : VK} (A : Abs E B G H c σ fp) (h : ResS E W B G H (R.st (ga c) c f) Dn)
    (k : ∀ d, ga c = .ok d → ∀ v G1 H1, Same G G1 → Same H H1 → Abs E B G1 H1 c σ fp → Rp E (vw b G1 H1) v d → ResS E W B G1 H1 (f d) Dn → Q' v H1) : TX E W b ga σ H Q' := by
  refine ⟨B, G, c, fp, A, ?_⟩
  cases e : ga c with
  | ok d =>
    rw [e] at h
    exact fun v G1 H1 s t A1 r => k d e v G1 H1 s t A1 r (ResS.grow (r := f d) h s)
  | ex x => rw [e] at h; exact fun cl dx G1 H1 s t A1 r => h cl dx σ G1 H1 fp s A1 r
  | stuck => rw [e] at h; exact h
theorem txa_st {ga : Env → R (List D)} {f : List D → Rs} {Q' : List V → Hp → Prop} (A : Abs E B G H c σ fp) (h : ResS E W B G H (R.st (ga c) c f) Dn)
    (k : ∀ ds, ga c = .ok ds → ∀ vs G1 H1, Same G G1 → Same H H1 → Abs E B G1 H1 c σ fp → RpL E (vw b G1 H1) vs ds → ResS E W B G1 H1 (f ds) Dn → Q' vs H1) : TXA E W b ga σ H Q' := by
  refine ⟨B, G, c, fp, A, ?_⟩
  cases e : ga c with
  | ok d =>
    rw [e] at h
    exact fun v G1 H1 s t A1 r => k d e v G1 H1 s t A1 r (ResS.grow (r := f d) h s)
  | ex x => rw [e] at h; exact fun cl dx G1 H1 s t A1 r => h cl dx σ G1 H1 fp s A1 r
  | stuck => rw [e] at h; exact h
theorem txt_st {ga : Env → R Bool} {f : Bool → Rs} {Q' : Bool → Hp → Prop} (A : Abs E B G H c σ fp) (h : ResS E W B G H (R.st (ga c) c f) Dn)
    (k : ∀ t, ga c = .ok t → ∀ G1 H1, Same G G1 → Same H H1 → Abs E B G1 H1 c σ fp → ResS E W B G1 H1 (f t) Dn → Q' t H1) : TXT E W ga σ H Q' := by
  refine ⟨B, G, c, fp, A, ?_⟩
  cases e : ga c with
  | ok d =>
    rw [e] at h
    exact fun G1 H1 s t A1 => k d e G1 H1 s t A1 (ResS.grow (r := f d) h s)
  | ex x => rw [e] at h; exact fun cl dx G1 H1 s t A1 r => h cl dx σ G1 H1 fp s A1 r
  | stuck => rw [e] at h; exact h
/-- a name is stored -/
theorem Abs.set {v : V} {o : O} {fq : List Addr} {i : Nat} (A : Abs E B G H c σ fp) (h : Own E G H v o fq) (n : fq.Nodup) (d : ∀ p ∈ fq, p ∉ fp) (f : ∀ p ∈ fq, G p = none ∧ (B.H0 p = none ∨ B.br p)) (hp : ∀ q ∈ B.pn, q.1 ≠ i) :
    ∃ fr, Abs E B G H (c.set i (some o)) (σ.set i (some v)) fr := by
  obtain ⟨fr, h1, h2, h3⟩ := A.cells.set i h A.nd n d
  refine ⟨fr, A.fine, h1, h2, fun p hp => (h3 p hp).elim (A.fresh p) (f p), fun q hq => ?_⟩
  rw [List.getElem?_set_ne (Ne.symm (hp q hq))]
  exact A.pin q hq
theorem Abs.setV {v : V} {d : D} {i : Nat} (A : Abs E B G H c σ fp) (h : Rp E G v d) (hp : ∀ q ∈ B.pn, q.1 ≠ i) : ∃ fr, Abs E B G H (c.set i (some (.v d))) (σ.set i (some v)) fr :=
  A.set (.v h) List.nodup_nil (fun p hp => nomatch hp) (fun p hp => nomatch hp) hp
end
theorem PinOk.ne {pn : List Nat} {B : Bs} {i : Nat} (h : PinOk pn B) (hi : i ∉ pn) : ∀ q ∈ B.pn, q.1 ≠ i := fun q hq e => hi (e ▸ h.1 q hq)

/-! ### blocks -/
def sNil : Env → Rs := fun c => .ok .nx c
def sSeq (g k : Env → Rs) : Env → Rs := fun c => match g c with
  | .ok .nx c' => k c'
  | r => r
section
variable {X : Cx} {W : WX} {pn : List Nat} {b : Bool} {st : Stmt} {sts : List Stmt} {g k : Env → Rs} {pos : Pos} {e : Expr}
theorem pxs_nil : PXSs X W pn [] sNil := pss_mono pss_nil fun Dn σ H ⟨B, G, c, fp, A, P, q⟩ => q σ G H fp (Same.refl _) A
theorem tst_seq : ∀ Dn σ H, TSt ⟨X.K, X.mg⟩ W pn (sSeq g k) Dn σ H → tSeq (TSt ⟨X.K, X.mg⟩ W pn g) (TSt ⟨X.K, X.mg⟩ W pn k) Dn σ H := fun Dn σ H ⟨B, G, c, fp, A, P, q⟩ => by
  refine ⟨B, G, c, fp, A, P, ?_⟩
  unfold sSeq at q
  cases e : g c with
  | ok f c' =>
    rw [e] at q
    cases f with
    | nx => exact fun σ' G' H' fp' s A' => ⟨B, G', c', fp', A', P, ResS.grow (r := k c') q s⟩
    | bk => exact q
    | ct => exact q
    | rt d => exact q
  | ex x c' => rw [e] at q; exact q
  | stuck => rw [e] at q; exact q
theorem pxs_cons (h : PXS X W pn st g) (h2 : PXSs X W pn sts k) : PXSs X W pn (st :: sts) (sSeq g k) := pss_mono (pss_cons h h2) tst_seq
theorem pxs_one (h : PXS X W pn st g) : PXSs X W pn [st] g := pss_one h
theorem ps_pass' : PXS X W pn (.Pass pos) sNil := ps_mono ps_pass fun Dn σ H ⟨B, G, c, fp, A, P, q⟩ => q σ G H fp (Same.refl _) A
def sBreak : Env → Rs := fun c => .ok .bk c
def sCont : Env → Rs := fun c => .ok .ct c
theorem pxs_break : PXS X W pn (.Break pos) sBreak := ps_mono ps_break fun Dn σ H ⟨B, G, c, fp, A, P, q⟩ => q σ G H fp (Same.refl _) A
theorem pxs_continue : PXS X W pn (.Continue pos) sCont := ps_mono ps_continue fun Dn σ H ⟨B, G, c, fp, A, P, q⟩ => q σ G H fp (Same.refl _) A
/-- a way that is never taken -/
def sNo : Env → Rs := fun _ => .stuck
theorem pxs_no : PXS X W pn st sNo := ps_mono ps_never fun Dn σ H ⟨B, G, c, fp, A, P, q⟩ => q
/-! ### x = e -/
def sSet (i : Nat) (g : Env → R D) : Env → Rs := fun c => (g c).st c fun d => .ok .nx (c.set i (some (.v d)))
theorem pxs_set {x : Str} {p : Pos} (i : Nat) {g : Env → R D} (h : PX X W true e g) (nd : X.N.Nodup) (hN : X.N[i]? = some x := by rfl) (hl : Loc X.env.scope x := by first | exact Or.inl rfl | exact Or.inr rfl) (hi : i ∉ pn := by decide)
    (hs : swapsWith e (some (.Name x p)) pos.line X.env = pure false := by rfl) (hf : X.fn x = true ∨ X.env.scope.names.lookup x = some .local := by first | exact .inl rfl | exact .inr rfl) : PXS X W pn (.Assign [.Name x p] e pos) (sSet i g) :=
  ps_mono (ps_asg h (pg_name (i := i) nd hN hl) hs) fun Dn σ H ⟨B, G, c, fp, A, P, q⟩ => tx_st A q fun d e v G1 H1 s1 t1 A1 r1 q1 => by
    obtain ⟨fr, A2⟩ := A1.setV (i := i) r1 (P.ne hi)
    exact q1 _ G1 H1 fr (Same.refl _) A2
/-! ### return, an expression alone -/
def sRet (g : Env → R D) : Env → Rs := fun c => (g c).st c fun d => .ok (.rt d) c
theorem pxs_ret {g : Env → R D} (h : PX X W true e g) : PXS X W pn (.Return (some e) pos) (sRet g) :=
  ps_mono (ps_ret h) fun Dn σ H ⟨B, G, c, fp, A, P, q⟩ => tx_st A q fun d e v G1 H1 s1 t1 A1 r1 q1 => q1 v σ G1 H1 fp (Same.refl _) A1 r1
def sRetN : Env → Rs := fun c => .ok (.rt .non) c
theorem pxs_retN : PXS X W pn (.Return none pos) sRetN := ps_mono ps_retN fun Dn σ H ⟨B, G, c, fp, A, P, q⟩ => q .non σ G H fp (Same.refl _) A .non
def sExpr (g : Env → R D) : Env → Rs := fun c => (g c).st c fun _ => .ok .nx c
theorem pxs_expr {g : Env → R D} (h : PX X W b e g) (hs : swapsWith e none pos.line X.env = pure false := by rfl) : PXS X W pn (.Expr e pos) (sExpr g) :=
  ps_mono (ps_expr h hs) fun Dn σ H ⟨B, G, c, fp, A, P, q⟩ => tx_st A q fun d e v G1 H1 s1 t1 A1 r1 q1 => q1 σ G1 H1 fp (Same.refl _) A1
/-! ### if -/
def sIf (t : Env → R Bool) (g k : Env → Rs) : Env → Rs := fun c => (t c).st c fun b => if b then g c else k c
theorem pxs_if {ec : Expr} {sa sb : List Stmt} {t : Env → R Bool} (h : PXT X W ec t) (ha : PXSs X W pn sa g) (hb : PXSs X W pn sb k) : PXS X W pn (.If ec sa sb pos) (sIf t g k) :=
  ps_mono (ps_if h ha hb) fun Dn σ H ⟨B, G, c, fp, A, P, q⟩ => txt_st A q fun t e G1 H1 s1 t1 A1 q1 => by
    cases t with
    | true => exact ⟨B, G1, c, fp, A1, P, q1⟩
    | false => exact ⟨B, G1, c, fp, A1, P, q1⟩
/-! ### while -/
def whileL (t : Env → R Bool) (g : Env → Rs) : Nat → Env → Rs
  | 0, _ => .stuck
  | n + 1, c => (t c).st c fun b => if b then (match g c with
    | .ok .nx c' => whileL t g n c'
    | .ok .ct c' => whileL t g n c'
    | .ok .bk c' => .ok .nx c'
    | r => r) else .ok .nx c
theorem pxs_while {ec : Expr} {body : List Stmt} {t : Env → R Bool} (n : Nat) (hp : PassesOwn (model X.prog X.w) X.A X.env X.xe) (h : PXT X W ec t) (hb : PXSs X W pn body g) : PXS X W pn (.While ec body [] pos) (whileL t g n) :=
  ps_mono (ps_while hp h hb) fun Dn σ H ⟨B, G, c, fp, A, P, q⟩ => by
    refine ⟨fun m σ H => ∃ G c fp, Abs ⟨X.K, X.mg⟩ B G H c σ fp ∧ ResS ⟨X.K, X.mg⟩ W B G H (whileL t g m c) Dn, ⟨n, G, c, fp, A, q⟩, ?_⟩
    rintro m σ H ⟨G, c, fp, A, q⟩
    cases m with
    | zero => exact q.elim
    | succ m =>
      refine txt_st A q fun b e G1 H1 s1 t1 A1 q1 => ?_
      cases b with
      | false => exact q1 σ G1 H1 fp (Same.refl _) A1
      | true =>
        refine ⟨fun σ' H' => ∃ G c fp, Abs ⟨X.K, X.mg⟩ B G H' c σ' fp ∧ ResS ⟨X.K, X.mg⟩ W B G H' (whileL t g m c) Dn, fun σ' H' h' => ⟨m, Nat.lt_succ_self _, h'⟩, ?_⟩
        refine ⟨B, G1, c, fp, A1, P, ?_⟩
        have q2 : ResS ⟨X.K, X.mg⟩ W B G1 H1 (match g c with
          | .ok .nx c' => whileL t g m c'
          | .ok .ct c' => whileL t g m c'
          | .ok .bk c' => .ok .nx c'
          | r => r) Dn := q1
        cases eg : g c with
        | ok f c' =>
          rw [eg] at q2
          cases f with
          | nx => exact fun σ' G' H' fp' s A' => ⟨G', c', fp', A', ResS.grow (r := whileL t g m c') q2 s⟩
          | ct => exact fun σ' G' H' fp' s A' => ⟨G', c', fp', A', ResS.grow (r := whileL t g m c') q2 s⟩
          | bk => exact q2
          | rt d => exact q2
        | ex x c' => rw [eg] at q2; exact q2
        | stuck => rw [eg] at q2; exact q2
/-! ### for -/
def forL (i : Nat) (g : Env → Rs) : List D → Env → Rs
  | [], c => .ok .nx c
  | d :: ds, c => match g (c.set i (some (.v d))) with
    | .ok .nx c' => forL i g ds c'
    | .ok .ct c' => forL i g ds c'
    | .ok .bk c' => .ok .nx c'
    | r => r
theorem for_turn {i : Nat} {E : Wd} {B : Bs} {G H : Hp} {c : Env} {σ : L2.St} {fp : List Addr} {Dn : Ends} {d : D} {ds : List D} {v : V} {N : L2.St → Hp → Prop} (A : Abs E B G H c σ fp) (P : PinOk pn B) (hi : i ∉ pn) (rv : Rp E G v d) (q : ResS E W B G H (forL i g (d :: ds) c) Dn)
    (hN : ∀ σ' G' H' c' fp', Same G G' → Abs E B G' H' c' σ' fp' → ResS E W B G' H' (forL i g ds c') Dn → N σ' H') : TSt E W pn g { Dn with nx := N, ct := N, bk := Dn.nx } (σ.set i (some v)) H := by
  obtain ⟨fr, A2⟩ := A.setV (i := i) rv (P.ne hi)
  refine ⟨B, G, _, fr, A2, P, ?_⟩
  have q2 : ResS E W B G H (match g (c.set i (some (.v d))) with
    | .ok .nx c' => forL i g ds c'
    | .ok .ct c' => forL i g ds c'
    | .ok .bk c' => .ok .nx c'
    | r => r) Dn := q
  cases eg : g (c.set i (some (.v d))) with
  | ok f c' =>
    rw [eg] at q2
    cases f with
    | nx => exact fun σ' G' H' fp' s A' => hN σ' G' H' c' fp' s A' (ResS.grow (r := forL i g ds c') q2 s)
    | ct => exact fun σ' G' H' fp' s A' => hN σ' G' H' c' fp' s A' (ResS.grow (r := forL i g ds c') q2 s)
    | bk => exact q2
    | rt d => exact q2
  | ex x c' => rw [eg] at q2; exact q2
  | stuck => rw [eg] at q2; exact q2
def asL : D → Option (List D)
  | .lst ds => some ds
  | _ => none
def asT : D → Option (List D)
  | .tup ds => some ds
  | _ => none
def sForL (i : Nat) (ga : Env → R D) (g : Env → Rs) : Env → Rs := fun c => (ga c).st c fun d => match asL d with
  | some ds => forL i g ds c
  | none => .stuck
def sForT (i : Nat) (ga : Env → R D) (g : Env → Rs) : Env → Rs := fun c => (ga c).st c fun d => match asT d with
  | some ds => forL i g ds c
  | none => .stuck
theorem drop_cons {α : Type} {xs : List α} {i : Nat} {x : α} (h : xs[i]? = some x) : xs.drop i = x :: xs.drop (i + 1) := by
  obtain ⟨hl, e⟩ := List.getElem?_eq_some_iff.mp h
  rw [List.drop_eq_getElem_cons hl, e]
theorem pxs_forL {x : Str} {p : Pos} {body : List Stmt} (i : Nat) {ga : Env → R D} (hp : PassesOwn (model X.prog X.w) X.A X.env X.xe) (hc : X.calm = true) (ha : PX X W true e ga) (hb : PXSs X W pn body g) (nd : X.N.Nodup) (hN : X.N[i]? = some x := by rfl) (hl : Loc X.env.scope x := by first | exact Or.inl rfl | exact Or.inr rfl) (hi : i ∉ pn := by decide)
    (hf : X.fn x = true ∨ X.env.scope.names.lookup x = some .local := by first | exact .inl rfl | exact .inr rfl) (hs : ∀ y, foldedSetIterable e X.env y = pure y := by intro _; rfl) : PXS X W pn (.For (.Name x p) e body [] pos) (sForL i ga g) :=
  ps_mono (ps_for hp hc (pi_list ha) (pg_name (i := i) nd hN hl) hb hs) fun Dn σ H ⟨B, G, c, fp, A, P, q⟩ => tx_st A q fun d e v G1 H1 s1 t1 A1 r1 q1 => by
    cases d with
    | lst ds =>
      have q1 : ResS ⟨X.K, X.mg⟩ W B G1 H1 (forL i g ds c) Dn := q1
      have r1 : Rp ⟨X.K, X.mg⟩ G1 v (.lst ds) := r1
      cases r1 with
      | @lst a vs _ h1 h2 =>
        refine ⟨a, rfl, ⟨vs, Same.sqL A1.fine.le h1⟩, ?_⟩
        refine for_list (xs := vs) (fun j σ H => ∃ G' c' fp', Same G1 G' ∧ Abs ⟨X.K, X.mg⟩ B G' H c' σ fp' ∧ ResS ⟨X.K, X.mg⟩ W B G' H (forL i g (ds.drop j) c') Dn) ⟨G1, c, fp, Same.refl _, A1, q1⟩ ?_ ?_ ?_
        · rintro j σ' H' _ ⟨G', c', fp', s', A', _⟩
          exact Same.sqL (s'.trans A'.fine.le) h1
        · rintro j w σ' H' hw ⟨G', c', fp', s', A', q'⟩
          obtain ⟨d, hd, rd⟩ := h2.getV hw
          rw [drop_cons hd] at q'
          exact for_turn A' P hi (rd.mono s') q' fun σ2 G2 H2 c2 fp2 s2 A2 q2 => ⟨G2, c2, fp2, s'.trans s2, A2, q2⟩
        · rintro σ' H' ⟨G', c', fp', s', A', q'⟩
          rw [h2.length, List.drop_length] at q'
          exact q' σ' G' H' fp' (Same.refl _) A'
    | _ => exact q1.elim
theorem pxs_forT {x : Str} {p : Pos} {body : List Stmt} (i : Nat) {ga : Env → R D} (hp : PassesOwn (model X.prog X.w) X.A X.env X.xe) (hc : X.calm = true) (ha : PX X W true e ga) (hb : PXSs X W pn body g) (nd : X.N.Nodup) (hN : X.N[i]? = some x := by rfl) (hl : Loc X.env.scope x := by first | exact Or.inl rfl | exact Or.inr rfl) (hi : i ∉ pn := by decide)
    (hf : X.fn x = true ∨ X.env.scope.names.lookup x = some .local := by first | exact .inl rfl | exact .inr rfl) (hs : ∀ y, foldedSetIterable e X.env y = pure y := by intro _; rfl) : PXS X W pn (.For (.Name x p) e body [] pos) (sForT i ga g) :=
  ps_mono (ps_for hp hc (pi_tup ha) (pg_name (i := i) nd hN hl) hb hs) fun Dn σ H ⟨B, G, c, fp, A, P, q⟩ => tx_st A q fun d e v G1 H1 s1 t1 A1 r1 q1 => by
    cases d with
    | tup ds =>
      have q1 : ResS ⟨X.K, X.mg⟩ W B G1 H1 (forL i g ds c) Dn := q1
      have r1 : Rp ⟨X.K, X.mg⟩ G1 v (.tup ds) := r1
      cases r1 with
      | @tup a vs _ h1 h2 =>
        refine ⟨a, rfl, ⟨vs, Same.sqT A1.fine.le h1⟩, ?_⟩
        refine for_tup (xs := vs) (fun j σ H => ∃ G' c' fp', Same G1 G' ∧ Abs ⟨X.K, X.mg⟩ B G' H c' σ fp' ∧ ResS ⟨X.K, X.mg⟩ W B G' H (forL i g (ds.drop j) c') Dn) ⟨G1, c, fp, Same.refl _, A1, q1⟩ ?_ ?_ ?_
        · rintro j σ' H' _ ⟨G', c', fp', s', A', _⟩
          exact Same.sqT (s'.trans A'.fine.le) h1
        · rintro j w σ' H' hw ⟨G', c', fp', s', A', q'⟩
          obtain ⟨d, hd, rd⟩ := h2.getV hw
          rw [drop_cons hd] at q'
          exact for_turn A' P hi (rd.mono s') q' fun σ2 G2 H2 c2 fp2 s2 A2 q2 => ⟨G2, c2, fp2, s'.trans s2, A2, q2⟩
        · rintro σ' H' ⟨G', c', fp', s', A', q'⟩
          rw [h2.length, List.drop_length] at q'
          exact q' σ' G' H' fp' (Same.refl _) A'
    | _ => exact q1.elim
/-- lo, lo + 1, .. below hi -/
def rangeD (lo hi : Int) : List D := (List.range (hi - lo).toNat).map fun (k : Nat) => .int (lo + (k : Int))
def asI : D → Option Int
  | .int i => if -(2 ^ 62) ≤ i ∧ i < 2 ^ 62 then some i else none
  | _ => none
theorem asI_rp {E : Wd} {G : Hp} {v : V} {d : D} {i : Int} (h : Rp E G v d) (e : asI d = some i) : v = .int i ∧ -(2 ^ 62) ≤ i ∧ i < 2 ^ 62 := by
  cases d <;> simp only [asI] at e
  all_goals try cases e
  split at e
  · cases e; rename_i hb; exact ⟨h.intH, hb⟩
  · cases e
def sForR (i : Nat) (ga gb : Env → R D) (g : Env → Rs) : Env → Rs := fun c => (ga c).st c fun d => (lift (asI d)).st c fun lo => (gb c).st c fun d2 => (lift (asI d2)).st c fun hi => forL i g (rangeD lo hi) c
theorem rangeD_at {lo hi : Int} {j : Nat} (h : j < (hi - lo).toNat) : (rangeD lo hi)[j]? = some (.int (lo + (j : Int))) := by
  unfold rangeD
  rw [List.getElem?_map, List.getElem?_range h]
  rfl
theorem for_rng {E : Wd} {B : Bs} {G H : Hp} {c : Env} {σ : L2.St} {fp : List Addr} {Dn : Ends} {i : Nat} {lo hi : Int} (A : Abs E B G H c σ fp) (P : PinOk pn B) (hi' : i ∉ pn) (q : ResS E W B G H (forL i g (rangeD lo hi) c) Dn) :
    ∃ W' : Nat → Nat → L2.St → Hp → Prop, (∃ m, W' 0 m σ H) ∧ ∀ j m σ H, W' j m σ H →
      ((Itr lo (hi - lo).toNat).stop j H ∧ Dn.nx σ H) ∨ ((Itr lo (hi - lo).toNat).go j H ∧ ∃ N : L2.St → Hp → Prop, (∀ σ' H', N σ' H' → ∃ m', m' < m ∧ W' (j + 1) m' σ' H') ∧ ∀ x H', (Itr lo (hi - lo).toNat).yld j H x H' → gName i x σ H' fun σ2 H2 => TSt E W pn g { Dn with nx := N, ct := N, bk := Dn.nx } σ2 H2) := by
  refine for_range (lo := lo) (n := (hi - lo).toNat) (fun j σ H => ∃ G' c' fp', Same G G' ∧ Abs E B G' H c' σ fp' ∧ ResS E W B G' H (forL i g ((rangeD lo hi).drop j) c') Dn) ⟨G, c, fp, Same.refl _, A, q⟩ ?_ ?_
  · rintro j σ' H' hj ⟨G', c', fp', s', A', q'⟩
    rw [drop_cons (rangeD_at hj)] at q'
    exact for_turn A' P hi' (.int _) q' fun σ2 G2 H2 c2 fp2 s2 A2 q2 => ⟨G2, c2, fp2, s'.trans s2, A2, q2⟩
  · rintro σ' H' ⟨G', c', fp', s', A', q'⟩
    have : (rangeD lo hi).drop (hi - lo).toNat = [] := List.drop_eq_nil_of_le (by simp [rangeD])
    rw [this] at q'
    exact q' σ' G' H' fp' (Same.refl _) A'
theorem lift_st {E : Wd} {B : Bs} {G H : Hp} {c : Env} {Dn : Ends} {α : Type} {o : Option α} {f : α → Rs} (h : ResS E W B G H ((lift o).st c f) Dn) : ∃ a, o = some a ∧ ResS E W B G H (f a) Dn := by
  cases o with
  | some a => exact ⟨a, rfl, h⟩
  | none => exact h.elim
theorem pxs_forR1 {x : Str} {p p2 p3 : Pos} {a : Expr} {body : List Stmt} (i : Nat) {ga : Env → R D} (hp : PassesOwn (model X.prog X.w) X.A X.env X.xe) (hc : X.calm = true) (hm : X.mg "range" = none) (ha : PX X W b a ga) (hb : PXSs X W pn body g) (nd : X.N.Nodup) (hN : X.N[i]? = some x := by rfl) (hl : Loc X.env.scope x := by first | exact Or.inl rfl | exact Or.inr rfl) (hi : i ∉ pn := by decide)
    (hg : Gl X "range" := by rfl) (hf : X.fn x = true ∨ X.env.scope.names.lookup x = some .local := by first | exact .inl rfl | exact .inr rfl) (hs0 : starEach [a] X.env = [(false, eval a X.env)] := by rfl) (hs : ∀ y, foldedSetIterable (.Call (.Name "range" p2) [a] [] p3) X.env y = pure y := by intro _; rfl) :
    PXS X W pn (.For (.Name x p) (.Call (.Name "range" p2) [a] [] p3) body [] pos) (sForR i (eC (.int 0)) ga g) :=
  ps_mono (ps_for hp hc (pi_range1 hg hm (pa_cons ha pa_nil hs0) hs0) (pg_name (i := i) nd hN hl) hb hs) fun Dn σ H ⟨B, G, c, fp, A, P, q⟩ => by
    have q0 : ResS ⟨X.K, X.mg⟩ W B G H ((ga c).st c fun d2 => (lift (asI d2)).st c fun hi => forL i g (rangeD 0 hi) c) Dn := q
    refine tx_st A q0 fun d e v G1 H1 s1 t1 A1 r1 q1 => ?_
    obtain ⟨hi, e1, q2⟩ := lift_st q1
    obtain ⟨rfl, h1, h2⟩ := asI_rp r1 e1
    refine ⟨hi, rfl, h1, h2, ?_⟩
    have z := for_rng (lo := 0) (hi := hi) A1 P ‹_› q2
    simpa using z
theorem pxs_forR2 {x : Str} {p p2 p3 : Pos} {a a2 : Expr} {body : List Stmt} (i : Nat) {b2 : Bool} {ga gb : Env → R D} (hp : PassesOwn (model X.prog X.w) X.A X.env X.xe) (hc : X.calm = true) (hm : X.mg "range" = none) (ha : PX X W b a ga) (ha2 : PX X W b2 a2 gb) (hb : PXSs X W pn body g) (nd : X.N.Nodup) (hN : X.N[i]? = some x := by rfl) (hl : Loc X.env.scope x := by first | exact Or.inl rfl | exact Or.inr rfl) (hi : i ∉ pn := by decide)
    (hg : Gl X "range" := by rfl) (hf : X.fn x = true ∨ X.env.scope.names.lookup x = some .local := by first | exact .inl rfl | exact .inr rfl) (hs0 : starEach [a, a2] X.env = [(false, eval a X.env), (false, eval a2 X.env)] := by rfl) (hs1 : starEach [a2] X.env = [(false, eval a2 X.env)] := by rfl) (hs2 : starEach [a, a2] X.env = (false, eval a X.env) :: starEach [a2] X.env := by rfl)
    (hs : ∀ y, foldedSetIterable (.Call (.Name "range" p2) [a, a2] [] p3) X.env y = pure y := by intro _; rfl) :
    PXS X W pn (.For (.Name x p) (.Call (.Name "range" p2) [a, a2] [] p3) body [] pos) (sForR i ga gb g) :=
  ps_mono (ps_for hp hc (pi_range2 hg hm (pa_cons ha (pa_cons ha2 pa_nil hs1) hs2) hs0 hs1) (pg_name (i := i) nd hN hl) hb hs) fun Dn σ H ⟨B, G, c, fp, A, P, q⟩ => by
    refine tx_st A q fun d e v G1 H1 s1 t1 A1 r1 q1 => ?_
    obtain ⟨lo, e1, q2⟩ := lift_st q1
    obtain ⟨rfl, h1, h2⟩ := asI_rp r1 e1
    refine tx_st A1 q2 fun d2 e3 v2 G2 H2 s2 t2 A2 r2 q3 => ?_
    obtain ⟨hi, e4, q4⟩ := lift_st q3
    obtain ⟨rfl, h3, h4⟩ := asI_rp r2 e4
    exact ⟨lo, hi, rfl, ⟨h1, h2, h3, h4⟩, for_rng A2 P ‹_› q4⟩
end
end VS

/-! VS: what is owned: new lists and dicts, changed in place; freezing; comprehensions. -/
namespace VS
open PySem PySem.Spec PyProof.Rows L2

section
variable {E : Wd} {B : Bs} {c : Env} {σ : L2.St} {fp : List Addr} {G G' H H' : Hp}
/-- a new object that is nobody's knowledge yet -/
theorem Abs.newO {p : Addr} {u : HO} (A : Abs E B G H c σ fp) (hp : H p = none) (hu : isT u = false) : Abs E B G (upd H p u) c σ fp :=
  A.grow (same_upd hp) fun a w e k => by
    by_cases ha : a = p
    · subst ha; rw [upd_same] at e; cases e; rw [hu] at k; cases k
    · rw [upd_ne ha] at e; exact A.fine.tup a w e k
theorem ownL_v : ∀ {vs : List V} {ds : List D}, RpL E G vs ds → OwnL E G H vs (ds.map O.v) []
  | _, [], r => by cases r; exact .nil
  | _, d :: ds, r => by
    cases r with
    | cons h r => exact OwnL.cons (fp := []) (fq := []) (.v h) (ownL_v r)
theorem OwnL.append {vs ws : List V} {os ps : List O} {fp fq : List Addr} (h : OwnL E G H vs os fp) (k : OwnL E G H ws ps fq) : OwnL E G H (vs ++ ws) (os ++ ps) (fp ++ fq) := by
  induction os generalizing vs fp with
  | nil => cases h; simpa using k
  | cons o os ih => cases h with | cons h r => rw [List.append_assoc]; exact .cons h (ih r)
theorem OwnL.length : ∀ {vs : List V} {os : List O} {fp : List Addr}, OwnL E G H vs os fp → vs.length = os.length
  | _, [], _, h => by cases h; rfl
  | _, o :: os, _, h => by cases h with | cons h r => simp [r.length]
/-- an item is replaced by a value -/
theorem OwnL.setV : ∀ {vs : List V} {os : List O} {fp : List Addr} {v : V} {d : D} (i : Nat), OwnL E G H vs os fp → Rp E G v d → fp.Nodup → ∃ fq, OwnL E G H (vs.set i v) (os.set i (.v d)) fq ∧ fq.Nodup ∧ ∀ p ∈ fq, p ∈ fp
  | _, [], _, v, d, i, h, r, n => by cases h; exact ⟨[], .nil, List.nodup_nil, fun p hp => hp⟩
  | _, o :: os, _, v, d, 0, h, r, n => by
    cases h with
    | @cons _ _ _ _ f1 f2 h k => exact ⟨_, .cons (.v r) k, by simpa using (List.nodup_append.mp n).2.1, fun p hp => List.mem_append_right _ (by simpa using hp)⟩
  | _, o :: os, _, v, d, i + 1, h, r, n => by
    cases h with
    | @cons _ _ _ _ f1 f2 h k =>
      obtain ⟨n1, n2, n3⟩ := List.nodup_append.mp n
      obtain ⟨fq, k1, k2, k3⟩ := OwnL.setV i k r n2
      refine ⟨_, .cons h k1, List.nodup_append.mpr ⟨n1, k2, fun a ha b hb => n3 a ha b (k3 b hb)⟩, fun p hp => ?_⟩
      rcases List.mem_append.mp hp with z | z
      · exact List.mem_append_left _ z
      · exact List.mem_append_right _ (k3 p z)
theorem OwnL.upd {vs : List V} {os : List O} {fp : List Addr} {p : Addr} {u : HO} (h : OwnL E G H vs os fp) (hp : p ∉ fp) : OwnL E G (L2.upd H p u) vs os fp :=
  h.keep (Same.refl _) fun q hq w e => by
    have hne : q ≠ p := fun z => hp (z ▸ hq)
    rw [upd_ne hne]; exact e
/-- what one name owns is changed -/
theorem Cells.poke : ∀ {c : Env} {σ : L2.St} {fp : List Addr} {i : Nat} {o : O}, Cells E G H c σ fp → fp.Nodup → c[i]? = some (some o) → ∃ v fq, σ[i]? = some (some v) ∧ Own E G H v o fq ∧ fq.Nodup ∧ (∀ p ∈ fq, p ∈ fp) ∧
    ∀ {G' H' : Hp} {o' : O} {fr : List Addr}, Same G G' → (∀ p ∈ fp, p ∉ fq → ∀ u, H p = some u → H' p = some u) → Own E G' H' v o' fr → fr.Nodup → (∀ p ∈ fr, p ∈ fq ∨ p ∉ fp) → ∃ fp', Cells E G' H' (c.set i (some o')) σ fp' ∧ fp'.Nodup ∧ ∀ p ∈ fp', (p ∈ fp ∧ p ∉ fq) ∨ p ∈ fr
  | _, _, _, i, o, .nil, n, e => by simp at e
  | _, _, _, 0, o, .no h, n, e => by simp at e
  | _, _, _, i + 1, o, .no h, n, e => by
    obtain ⟨v, fq, h1, h2, h3, h4, h5⟩ := Cells.poke (i := i) h n (by simpa using e)
    refine ⟨v, fq, by simpa using h1, h2, h3, h4, fun s k w m d => ?_⟩
    obtain ⟨fp', k1, k2, k3⟩ := h5 s k w m d
    exact ⟨fp', .no k1, k2, k3⟩
  | _, _, _, 0, o, .yes (fp := f1) (fq := f2) h r, n, e => by
    simp at e
    subst e
    obtain ⟨n1, n2, n3⟩ := List.nodup_append.mp n
    refine ⟨_, f1, rfl, h, n1, fun p hp => List.mem_append_left _ hp, fun s k w m d => ?_⟩
    have r' := Cells.keep s r fun p hp u e => k p (List.mem_append_right _ hp) (fun z => n3 p z p hp rfl) u e
    refine ⟨_, .yes w r', List.nodup_append.mpr ⟨m, n2, fun a ha b hb e => ?_⟩, fun p hp => ?_⟩
    · subst e
      rcases d a ha with z | z
      · exact n3 a z a hb rfl
      · exact z (List.mem_append_right _ hb)
    · rcases List.mem_append.mp hp with z | z
      · exact .inr z
      · exact .inl ⟨List.mem_append_right _ z, fun y => n3 p y p z rfl⟩
  | _, _, _, i + 1, o, .yes (fp := f1) (fq := f2) h r, n, e => by
    obtain ⟨n1, n2, n3⟩ := List.nodup_append.mp n
    obtain ⟨v, fq, h1, h2, h3, h4, h5⟩ := Cells.poke (i := i) r n2 (by simpa using e)
    refine ⟨v, fq, by simpa using h1, h2, h3, fun p hp => List.mem_append_right _ (h4 p hp), fun s k w m d => ?_⟩
    obtain ⟨fp', k1, k2, k3⟩ := h5 s (fun p hp hq u e => k p (List.mem_append_right _ hp) hq u e) w m (fun p hp => (d p hp).elim .inl fun z => .inr fun z2 => z (List.mem_append_right _ z2))
    have hk := h.keep (H' := _) s fun p hp u e => k p (List.mem_append_left _ hp) (fun z => n3 p hp p (h4 p z) rfl) u e
    refine ⟨_, .yes hk k1, List.nodup_append.mpr ⟨n1, k2, fun a ha b hb e => ?_⟩, fun p hp => ?_⟩
    · subst e
      rcases k3 a hb with ⟨z, _⟩ | z
      · exact n3 a ha a z rfl
      · rcases d a z with y | y
        · exact n3 a ha a (h4 a y) rfl
        · exact y (List.mem_append_left _ ha)
    · rcases List.mem_append.mp hp with z | z
      · exact .inl ⟨List.mem_append_left _ z, fun y => n3 p z p (h4 p y) rfl⟩
      · rcases k3 p z with ⟨y, w⟩ | y
        · exact .inl ⟨List.mem_append_right _ y, w⟩
        · exact .inr y
/-- one own object is written -/
theorem Abs.poke {i : Nat} {o : O} (A : Abs E B G H c σ fp) (e : c[i]? = some (some o)) : ∃ v fq, σ[i]? = some (some v) ∧ Own E G H v o fq ∧ fq.Nodup ∧ (∀ p ∈ fq, p ∈ fp) ∧
    ∀ {p : Addr} {u : HO} {o' : O} {fr : List Addr}, p ∈ fq → isT u = false → Own E G (upd H p u) v o' fr → fr.Nodup → (∀ q ∈ fr, q ∈ fq) → ∃ fp', Abs E B G (upd H p u) (c.set i (some o')) σ fp' := by
  obtain ⟨v, fq, h1, h2, h3, h4, h5⟩ := A.cells.poke A.nd e
  refine ⟨v, fq, h1, h2, h3, h4, fun {p u o' fr} hp hu w m d => ?_⟩
  obtain ⟨fp', k1, k2, k3⟩ := h5 (Same.refl G) (fun q hq hn w e => by
    have : q ≠ p := fun z => hn (z ▸ hp)
    rw [upd_ne this]; exact e) w m fun q hq => .inl (d q hq)
  obtain ⟨gp, bp⟩ := A.fresh p (h4 p hp)
  refine ⟨fp', ⟨fun a o e n => ?_, fun a e => ?_, A.fine.x, fun a o e => ?_, fun a o e k => ?_⟩, k1, k2, fun q hq => (k3 q hq).elim (fun z => A.fresh q z.1) fun z => A.fresh q (h4 q (d q z)), A.pin⟩
  · have ha : a ≠ p := fun z => by
      subst z
      rcases bp with z | z
      · rw [z] at e; cases e
      · exact n z
    rw [upd_ne ha]; exact A.fine.base a o e n
  · by_cases ha : a = p
    · subst ha; rw [upd_same] at e; cases e
    · rw [upd_ne ha] at e; exact A.fine.there a e
  · have ha : a ≠ p := fun z => by subst z; rw [gp] at e; cases e
    rw [upd_ne ha]; exact A.fine.le a o e
  · by_cases ha : a = p
    · subst ha; rw [upd_same] at e; cases e; rw [hu] at k; cases k
    · rw [upd_ne ha] at e; exact A.fine.tup a o e k
end

/-! ### a fresh thing -/
def PostF (E : Wd) (B : Bs) (c : Env) (σ : L2.St) (fp : List Addr) (G H : Hp) (Q : VK) (o : O) : Prop :=
  ∀ v G' H' fq, Same G G' → Same H H' → Abs E B G' H' c σ fp → Own E G' H' v o fq → fq.Nodup → (∀ p ∈ fq, H p = none ∧ G' p = none) → Q v H'
def TF (E : Wd) (W : WX) (g : Env → R O) : TE := fun σ H Q => ∃ B G c fp, Abs E B G H c σ fp ∧ Res E W B c σ fp G H (g c) (PostF E B c σ fp G H Q)
/-- an expression that is worth a new thing -/
def PF (X : Cx) (W : WX) (e : Expr) (g : Env → R O) : Prop := PE X e (TF ⟨X.K, X.mg⟩ W g)
section
variable {E : Wd} {W : WX} {B : Bs} {c : Env} {σ : L2.St} {fp : List Addr} {G H : Hp} {b : Bool} {Dn : Ends}
theorem PostF.grow {Q : VK} {o : O} {G' H' : Hp} (h : PostF E B c σ fp G H Q o) (s : Same G G') (t : Same H H') : PostF E B c σ fp G' H' Q o := fun v G2 H2 fq s2 t2 A w n k =>
  h v G2 H2 fq (s.trans s2) (t.trans t2) A w n fun p hp => ⟨t.free (k p hp).1, (k p hp).2⟩
theorem tf_st {ga : Env → R O} {f : O → Rs} {Q' : VK} (A : Abs E B G H c σ fp) (h : ResS E W B G H (R.st (ga c) c f) Dn)
    (k : ∀ o, ga c = .ok o → ∀ v G1 H1 fq, Same G G1 → Same H H1 → Abs E B G1 H1 c σ fp → Own E G1 H1 v o fq → fq.Nodup → (∀ p ∈ fq, H p = none ∧ G1 p = none) → ResS E W B G1 H1 (f o) Dn → Q' v H1) : TF E W ga σ H Q' := by
  refine ⟨B, G, c, fp, A, ?_⟩
  cases e : ga c with
  | ok o =>
    rw [e] at h
    exact fun v G1 H1 fq s t A1 w n d => k o e v G1 H1 fq s t A1 w n d (ResS.grow (r := f o) h s)
  | ex x => rw [e] at h; exact fun cl dx G1 H1 s t A1 r => h cl dx σ G1 H1 fp s A1 r
  | stuck => rw [e] at h; exact h
end
section
variable {X : Cx} {W : WX} {pn : List Nat} {b b1 b2 : Bool} {e : Expr} {pos : Pos} {g : Env → Rs}
/-- a fresh thing may be taken as known -/
def eFz (g : Env → R O) : Env → R D := fun c => g c >>= fun o => .ok o.toD
def fLstO (ds : List D) : Option O := if ds.length ≤ 16777216 then some (.lst (ds.map O.v)) else none
def eFnO (f : List D → Option O) (gs : Env → R (List D)) : Env → R O := fun c => gs c >>= fun ds => lift (f ds)
theorem PostF.new {B : Bs} {c : Env} {σ : L2.St} {fp : List Addr} {G H : Hp} {Q : VK} {ds : List D} {vs : List V} (h : PostF ⟨X.K, X.mg⟩ B c σ fp G H Q (.lst (ds.map O.v))) (A : Abs ⟨X.K, X.mg⟩ B G H c σ fp) {p : Addr} (hp : H p = none) (r : RpL ⟨X.K, X.mg⟩ G vs ds) : Q (.ref p) (upd H p (.lst vs)) := by
  refine h (.ref p) G _ [p] (Same.refl _) (same_upd hp) (A.newO hp rfl) (.lst upd_same (ownL_v r)) (by simp) fun q hq => ?_
  have : q = p := by simpa using hq
  subst this
  exact ⟨hp, A.fine.fresh hp⟩
theorem pf_lst {es : List Expr} {gs : Env → R (List D)} (h : PXA X W true es gs) : PF X W (.List es pos) (eFnO fLstO gs) :=
  pe_mono (pe_lst h) fun σ H Q ⟨B, G, c, fp, A, q⟩ => txa_seq A q fun ds e vs G1 H1 s1 t1 A1 r1 q1 => by
    obtain ⟨d3, e3, p3⟩ := Res.lift q1
    unfold fLstO at e3
    split at e3
    · cases e3
      rename_i hl
      exact ⟨sz_ok (by rw [r1.length]; exact hl), fun p hp => (p3.grow s1 t1).new A1 hp r1⟩
    · cases e3
/-- list(xs), a new list -/
def fListO (b : Bool) (ds : List D) : Option O := (fList b ds).bind fun d => match d with
  | .lst es => some (.lst (es.map O.v))
  | _ => none
theorem pf_list {x : Str} {e : Expr} {gs : Env → R (List D)} {p : Pos} (hc : X.calm = true) (hm : X.mg x = none) (ha : PXA X W b [e] gs) (hx : x = "list" := by rfl) (hg : Gl X x := by rfl) (hv : bootBuiltins x = some (.type "list") := by decide +kernel)
    (hn : x ≠ "__name__" := by decide) (hdb : (x == ("__debug__" : Str)) = false := by decide) (he : starEach [e] X.env = (false, eval e X.env) :: starEach [] X.env := by rfl) (hpl : (backTo pos (starEach [] X.env)).any (·.1) = false := by rfl) :
    PF X W (.Call (.Name x p) [e] [] pos) (eFnO (fListO b) gs) :=
  pe_mono (pe_callTy (call_listA hc) hg hm hv ha hn hdb he hpl) fun σ H Q ⟨B, G, c, fp, A, q⟩ => txa_seq A q fun ds e vs G1 H1 s1 t1 A1 r1 q1 => by
    obtain ⟨o, e3, p3⟩ := Res.lift q1
    have p3 := p3.grow s1 t1
    unfold fListO at e3
    obtain ⟨d, e4, e5⟩ := Option.bind_eq_some_iff.mp e3
    unfold fList at e4
    split at e4
    · split at e4
      · rename_i hk
        cases e4
        cases e5
        obtain ⟨v, rfl, rv⟩ := r1.one
        obtain ⟨a, vs, rfl, h1, r1⟩ := rv.lstH A1.fine.le
        exact .inl ⟨_, _, rfl, .inl h1, fun q hq => p3.new A1 hq (r1.known A1.fine hk)⟩
      · cases e4
    · split at e4
      · rename_i hk
        cases e4
        cases e5
        obtain ⟨v, rfl, rv⟩ := r1.one
        obtain ⟨a, vs, rfl, h1, r1⟩ := rv.tupH A1.fine.le
        exact .inl ⟨_, _, rfl, .inr h1, fun q hq => p3.new A1 hq (r1.known A1.fine hk)⟩
      · cases e4
    · split at e4
      · rename_i ks ds hl
        cases e4
        cases e5
        obtain ⟨v, rfl, rv⟩ := r1.one
        obtain ⟨a, kvs, rfl, h1, e1, r1⟩ := rv.dicH A1.fine.le
        exact .inr ⟨_, _, rfl, h1, fun q hq => p3.new A1 hq (keys_rp e1)⟩
      · cases e4
    · cases e4
/-! ### x = a fresh thing -/
def sSetO (i : Nat) (g : Env → R O) : Env → Rs := fun c => (g c).st c fun o => .ok .nx (c.set i (some o))
theorem set_fresh {E : Wd} {B : Bs} {c : Env} {σ : L2.St} {fp : List Addr} {G1 H H1 : Hp} {v : V} {o : O} {fq : List Addr} {i : Nat} {pn : List Nat} (A : Abs E B G1 H1 c σ fp) (t : ∀ p ∈ fp, H p ≠ none) (f0 : ∀ p, H p = none → B.H0 p = none) (w : Own E G1 H1 v o fq) (n : fq.Nodup) (d : ∀ p ∈ fq, H p = none ∧ G1 p = none) (P : PinOk pn B) (hi : i ∉ pn) :
    ∃ fr, Abs E B G1 H1 (c.set i (some o)) (σ.set i (some v)) fr :=
  A.set w n (fun p hp z => t p z (d p hp).1) (fun p hp => ⟨(d p hp).2, .inl (f0 p (d p hp).1)⟩) (P.ne hi)
theorem pxs_setO {x : Str} {p : Pos} (i : Nat) {g : Env → R O} (h : PF X W e g) (nd : X.N.Nodup) (hN : X.N[i]? = some x := by rfl) (hl : Loc X.env.scope x := by first | exact Or.inl rfl | exact Or.inr rfl) (hi : i ∉ pn := by decide)
    (hs : swapsWith e (some (.Name x p)) pos.line X.env = pure false := by rfl) (hf : X.fn x = true ∨ X.env.scope.names.lookup x = some .local := by first | exact .inl rfl | exact .inr rfl) : PXS X W pn (.Assign [.Name x p] e pos) (sSetO i g) :=
  ps_mono (ps_asg h (pg_name (i := i) nd hN hl) hs) fun Dn σ H ⟨B, G, c, fp, A, P, q⟩ => tf_st A q fun o e v G1 H1 fq s1 t1 A1 w n d q1 => by
    obtain ⟨fr, A2⟩ := set_fresh A1 (A.cells.there) A.fine.there w n d P hi
    exact q1 _ G1 H1 fr (Same.refl _) A2
/-! ### x.append(e), x[i] = e -/
def atL (i : Nat) (c : Env) : Option (List O) := match c[i]? with
  | some (some (.lst os)) => some os
  | _ => none
theorem atL_eq {i : Nat} {c : Env} {os : List O} (h : atL i c = some os) : c[i]? = some (some (.lst os)) := by
  unfold atL at h
  split at h
  · cases h; assumption
  · cases h
def sApp (i : Nat) (g : Env → R D) : Env → Rs := fun c => (lift (atL i c)).st c fun os => (g c).st c fun d => if os.length < 16777216 then .ok .nx (c.set i (some (.lst (os ++ [.v d])))) else .stuck
theorem pxs_app {x : Str} {p apos cpos : Pos} (i : Nat) {g : Env → R D} (h : PX X W true e g) (hN : X.N[i]? = some x := by rfl) (hv : Vis X.env.scope x := by first | exact Or.inl rfl | exact Or.inr (Or.inl rfl) | exact Or.inr (Or.inr rfl)) (hd : (x == ("__debug__" : Str)) = false := by decide) (hcd : (x == ("__classdict__" : Str)) = false := by decide)
    (hbase : attributeBase (.Name x p) "append" X.env (eval (.Name x p) X.env) = eval (.Name x p) X.env := by rfl)
    (hfew : ((backTo cpos (starEach [e] X.env)).all (fun x => !x.1) && (backToKw cpos (keywordEach [] X.env)).all (fun x => x.1.isSome)
      && decide ([e].length + ([] : List Keyword).length + (if ([] : List Keyword).isEmpty then 0 else 1) < 30)) = true := by rfl)
    (hline : (apos.endLine == cpos.line) = true := by rfl) (hs : starEach [e] X.env = (false, eval e X.env) :: starEach [] X.env := by rfl) (hplain : (backTo cpos (starEach [] X.env)).any (·.1) = false := by rfl)
    (hsw : swapsWith (.Call (.Attribute (.Name x p) "append" apos) [e] [] cpos) none pos.line X.env = pure false := by rfl) :
    PXS X W pn (.Expr (.Call (.Attribute (.Name x p) "append" apos) [e] [] cpos) pos) (sApp i g) :=
  ps_mono (ps_expr (pe_bm PySem.F.plainAttrs_list PySem.F.slot_list_append PySem.F.type_list_append mt_append (pe_var hN hv hd hcd) (pa_cons h pa_nil hs) hbase hfew hline hs hplain) hsw) fun Dn σ H ⟨B, G, c, fp, A, P, q⟩ => by
    obtain ⟨os, e0, q⟩ := lift_st q
    have e1 := atL_eq e0
    obtain ⟨v, fq, h1, h2, _, _, _⟩ := A.poke e1
    cases h2 with
    | @lst a vs _ fq ha ho =>
      refine ⟨_, h1, .inl ⟨rfl, vs, .inl (.inl ha)⟩, tx_st A q fun d e3 w G1 H1 s1 t1 A1 r1 q1 => ?_⟩
      obtain ⟨v, fq, h1', h2, n, hin, hpk⟩ := A1.poke e1
      rw [h1] at h1'
      cases h1'
      cases h2 with
      | @lst _ vs _ fq ha ho =>
        have hlen := ho.length
        by_cases hl : os.length < 16777216
        · have q2 : ResS ⟨X.K, X.mg⟩ W B G1 H1 (if os.length < 16777216 then .ok .nx (c.set i (some (.lst (os ++ [.v d])))) else .stuck) Dn := q1
          rw [if_pos hl] at q2
          refine ⟨a, vs, w, rfl, rfl, ha, by rw [hlen, sizeLine_eq]; exact hl, ?_⟩
          have nn := List.nodup_cons.mp n
          have ho' : OwnL ⟨X.K, X.mg⟩ G1 (upd H1 a (.lst (vs ++ [w]))) (vs ++ [w]) (os ++ [.v d]) (fq ++ ([] ++ [])) :=
            (ho.upd nn.1).append (.cons (.v r1) .nil)
          obtain ⟨fp', A2⟩ := hpk List.mem_cons_self (u := .lst (vs ++ [w])) rfl (.lst upd_same ho') (by simpa using n) (fun q hq => by simpa using hq)
          exact q2 σ G1 _ fp' (Same.refl _) A2
        · have q2 : ResS ⟨X.K, X.mg⟩ W B G1 H1 (if os.length < 16777216 then .ok .nx (c.set i (some (.lst (os ++ [.v d])))) else .stuck) Dn := q1
          rw [if_neg hl] at q2
          exact q2.elim
def sIxSet (i : Nat) (gi g : Env → R D) : Env → Rs := fun c => (g c).st c fun d => (lift (atL i c)).st c fun os => (gi c).st c fun k => match k with
  | .int k => (lift (ixN os.length k)).st c fun j => .ok .nx (c.set i (some (.lst (os.set j (.v d)))))
  | _ => .stuck
theorem pxs_ixset {x : Str} {ei : Expr} {p p2 : Pos} (i : Nat) {gi g : Env → R D} (h : PX X W true e g) (hi : PX X W b ei gi) (hN : X.N[i]? = some x := by rfl) (hv : Vis X.env.scope x := by first | exact Or.inl rfl | exact Or.inr (Or.inl rfl) | exact Or.inr (Or.inr rfl)) (hd : (x == ("__debug__" : Str)) = false := by decide) (hcd : (x == ("__classdict__" : Str)) = false := by decide)
    (hs : swapsWithSole [.Subscript (.Name x p) ei p2] e pos.line X.env = pure false := by rfl) (hw : swappedStores [.Subscript (.Name x p) ei p2] e X.env = pure none := by rfl)
    (h1 : (assignEach [.Subscript (.Name x p) ei p2] X.env).map (·.2) = [assign (.Subscript (.Name x p) ei p2) X.env] := by rfl)
    (ha : ∀ v, assign (.Subscript (.Name x p) ei p2) X.env v = (do
      let ov ← holding [v] (eval (.Name x p) X.env)
      let iv ← holding [v, ov] (eval ei X.env)
      standAt p2
      holding [v, ov, iv] (setItem ov iv v)
      release [v, ov, iv] []) := by intro _; rfl) : PXS X W pn (.Assign [.Subscript (.Name x p) ei p2] e pos) (sIxSet i gi g) :=
  ps_mono (ps_asg h (pg_sub (pe_var hN hv hd hcd) hi set_list ha) hs hw h1) fun Dn σ H ⟨B, G, c, fp, A, P, q⟩ => tx_st A q fun d e w G1 H1 s1 t1 A1 r1 q1 => by
    obtain ⟨os, e0, q1⟩ := lift_st q1
    have e1 := atL_eq e0
    obtain ⟨v, fq, h1, h2, _, _, _⟩ := A1.poke e1
    cases h2 with
    | @lst a vs _ fq ha ho =>
      refine ⟨_, h1, tx_st A1 q1 fun k e3 w2 G2 H2 s2 t2 A2 r2 q2 => ?_⟩
      cases k with
      | int k =>
        obtain ⟨j, ej, q3⟩ := lift_st q2
        obtain ⟨v, fq, h1', h2, n, hin, hpk⟩ := A2.poke e1
        rw [h1] at h1'
        cases h1'
        cases h2 with
        | @lst _ vs _ fq ha ho =>
          have hlen := ho.length
          refine ⟨a, vs, k, j, rfl, r2.intH, ha, by rw [hlen]; exact ej, ?_⟩
          have nn := List.nodup_cons.mp n
          have ho2 := ho.upd (p := a) (u := .lst (vs.set j w)) nn.1
          obtain ⟨fr, k1, k2, k3⟩ := ho2.setV j (r1.mono s2) nn.2
          obtain ⟨fp', A3⟩ := hpk List.mem_cons_self (u := .lst (vs.set j w)) rfl (.lst upd_same k1) (List.nodup_cons.mpr ⟨fun z => nn.1 (k3 a z), k2⟩) (fun q hq => by
            rcases List.mem_cons.mp hq with z | z
            · rw [z]; exact List.mem_cons_self
            · exact List.mem_cons_of_mem _ (k3 q z))
          exact q3 σ G2 _ fp' (Same.refl _) A3
      | _ => exact q2.elim
/-! ### freezing -/
def fz (i : Nat) (c : Env) : Env := match c[i]? with
  | some (some o) => c.set i (some (.v o.toD))
  | _ => c
def sFz (i : Nat) (g : Env → Rs) : Env → Rs := fun c => g (fz i c)
theorem Abs.fz {E : Wd} {B : Bs} {G H : Hp} {c : Env} {σ : L2.St} {fp : List Addr} (A : Abs E B G H c σ fp) (nb : ∀ a, ¬ B.br a) (i : Nat) : ∃ G' fp', Same G G' ∧ Abs E B G' H (VS.fz i c) σ fp' := by
  unfold VS.fz
  split
  · rename_i o e
    obtain ⟨v, fq, h1, h2, h3, h4, h5⟩ := A.cells.poke A.nd e
    have fr0 : ∀ p ∈ fq, G p = none ∧ B.H0 p = none := fun p hp => by
      obtain ⟨a1, a2⟩ := A.fresh p (h4 p hp)
      exact ⟨a1, a2.elim id fun z => (nb p z).elim⟩
    let G' : Hp := fun a => if a ∈ fq then H a else G a
    have gin : ∀ a, a ∈ fq → G' a = H a := fun a ha => if_pos ha
    have gout : ∀ a, a ∉ fq → G' a = G a := fun a ha => if_neg ha
    have s : Same G G' := fun a u ha => by
      have hn : a ∉ fq := fun z => by rw [(fr0 a z).1] at ha; cases ha
      rw [gout a hn]; exact ha
    have sl : Same G' H := fun a u ha => by
      by_cases hn : a ∈ fq
      · rw [gin a hn] at ha; exact ha
      · rw [gout a hn] at ha; exact A.fine.le a u ha
    have rp : Rp E G' v o.toD := by
      refine Own.rp (H' := G') (H := H) A.fine.le h2 (fun p hp u e => by rw [gin p hp]; exact e) s
    obtain ⟨fp', k1, k2, k3⟩ := h5 (H' := H) (o' := .v o.toD) (fr := []) s (fun p hp hn u e => e) (.v rp) List.nodup_nil (fun p hp => nomatch hp)
    have k4 : ∀ p ∈ fp', p ∈ fp ∧ G' p = none := fun p hp => by
      obtain ⟨z, w⟩ : p ∈ fp ∧ p ∉ fq := (k3 p hp).elim id fun z => nomatch z
      exact ⟨z, by rw [gout p w]; exact (A.fresh p z).1⟩
    exact ⟨G', fp', s, ⟨A.fine.base, A.fine.there, fun a e1 e2 => by
      by_cases hn : a ∈ fq
      · exact (e1 (fr0 a hn).2).elim
      · rw [gout a hn]; exact A.fine.x a e1 e2, sl, fun a u e k => by
      by_cases hn : a ∈ fq
      · rw [gin a hn]; exact e
      · rw [gout a hn]; exact A.fine.tup a u e k⟩, k1, k2, fun p hp => ⟨(k4 p hp).2, (A.fresh p (k4 p hp).1).2⟩, A.pin⟩
  · exact ⟨G, fp, Same.refl _, A⟩
theorem pxs_fz {st : Stmt} (i : Nat) (h : PXS X W [] st g) : PXS X W [] st (sFz i g) := ps_mono h fun Dn σ H ⟨B, G, c, fp, A, P, q⟩ => by
  obtain ⟨G', fp', s, A'⟩ := A.fz (P.2 rfl) i
  exact ⟨B, G', _, fp', A', P, ResS.grow (r := g (fz i c)) q s⟩
end
end VS

/-! VS: what is walked; for; list comprehensions. -/
namespace VS
open PySem PySem.Spec PyProof.Rows L2

/-- the iterator J yields ds, as long as Hs stands; the items are known in G -/
structure Wk (E : Wd) (J : It) (Hs G : Hp) (ds : List D) : Prop where
  go : ∀ j H, Same Hs H → j < ds.length → J.go j H
  yl : ∀ j H x H', Same Hs H → J.yld j H x H' → H' = H ∧ ∀ d, ds[j]? = some d → Rp E G x d
  st : ∀ j H, Same Hs H → ds.length ≤ j → J.stop j H
/-- what a for (b) or a comprehension walks -/
structure PSrc (X : Cx) (W : WX) (b : Bool) (tg iter : Expr) (wi : TI) (gs : Env → R (List D)) : Prop where
  pi : PI X tg iter wi
  run : ∀ {B : Bs} {G H : Hp} {c : Env} {σ : L2.St} {fp : List Addr} {P : List D → Prop} {R : It → Hp → Prop}, Abs ⟨X.K, X.mg⟩ B G H c σ fp → Res ⟨X.K, X.mg⟩ W B c σ fp G H (gs c) P →
    (∀ ds G1 H1 J, gs c = .ok ds → Same G G1 → Same H H1 → Abs ⟨X.K, X.mg⟩ B G1 H1 c σ fp → Wk ⟨X.K, X.mg⟩ J (vw b G1 H1) G1 ds → P ds → R J H1) → wi σ H R
section
variable {X : Cx} {W : WX} {pn : List Nat} {b b' b2 : Bool} {tg e : Expr} {pos : Pos} {g : Env → Rs}
theorem wk_list {E : Wd} {Hs G : Hp} {a : Addr} {vs : List V} {ds : List D} {K : PySem.W.Frag} (h : SqL K Hs a vs) (r : RpL E G vs ds) : Wk E (Itl K a) Hs G ds := by
  refine ⟨fun j H s hj => ?_, fun j H x H' s y => ⟨y.1, fun d e => ?_⟩, fun j H s hj => ⟨vs, Same.sqL s h, by rw [r.length]; exact hj⟩⟩
  · obtain ⟨v, e1, _⟩ := r.get (List.getElem?_eq_getElem hj)
    exact ⟨vs, v, Same.sqL s h, e1⟩
  · obtain ⟨v, e1, e2⟩ := r.get e
    have := y.2 vs (Same.sqL s h)
    rw [e1] at this
    cases this
    exact e2
theorem wk_tup {E : Wd} {Hs G : Hp} {a : Addr} {vs : List V} {ds : List D} {K : PySem.W.Frag} (h : SqT K Hs a vs) (r : RpL E G vs ds) : Wk E (Itt K a) Hs G ds := by
  refine ⟨fun j H s hj => ?_, fun j H x H' s y => ⟨y.1, fun d e => ?_⟩, fun j H s hj => ⟨vs, Same.sqT s h, by rw [r.length]; exact hj⟩⟩
  · obtain ⟨v, e1, _⟩ := r.get (List.getElem?_eq_getElem hj)
    exact ⟨vs, v, Same.sqT s h, e1⟩
  · obtain ⟨v, e1, e2⟩ := r.get e
    have := y.2 vs (Same.sqT s h)
    rw [e1] at this
    cases this
    exact e2
theorem rangeD_len (lo hi : Int) : (rangeD lo hi).length = (hi - lo).toNat := by simp [rangeD]
theorem wk_rng {E : Wd} {Hs G : Hp} {lo hi : Int} : Wk E (Itr lo (hi - lo).toNat) Hs G (rangeD lo hi) := by
  refine ⟨fun j H s hj => ?_, fun j H x H' s y => ⟨y.1, fun d e => ?_⟩, fun j H s hj => ?_⟩
  · rw [rangeD_len] at hj; exact hj
  · obtain ⟨hj, _⟩ := List.getElem?_eq_some_iff.mp e
    rw [rangeD_len] at hj
    rw [rangeD_at hj] at e
    cases e
    rw [y.2]
    exact .int _
  · rw [rangeD_len] at hj; exact hj
/-- the items of a list, a tuple, a text -/
def asA (b : Bool) : D → Option (List D)
  | .lst ds => if okEl b ds then some ds else none
  | .tup ds => if okEl b ds then some ds else none
  | .str l => if l.length ≤ 16777216 then some (l.map fun x => .str [x]) else none
  | _ => none
def eIt (b : Bool) (ga : Env → R D) : Env → R (List D) := fun c => ga c >>= fun d => lift (asA b d)
def eItR (ga gb : Env → R D) : Env → R (List D) := fun c => ga c >>= fun d => lift (asI d) >>= fun lo => gb c >>= fun d2 => lift (asI d2) >>= fun hi => .ok (rangeD lo hi)
theorem wk_str {E : Wd} {Hs G : Hp} (l : List Nat) : Wk E (Its (S l)) Hs G (l.map fun x => .str [x]) := by
  refine ⟨fun j H s hj => ?_, fun j H x H' s y => ⟨y.1, fun d e => ?_⟩, fun j H s hj => ?_⟩
  · show j < l.toArray.size
    simpa using hj
  · obtain ⟨z, h1, h2⟩ := y.2
    have h1 : l.toArray[j]? = some z := h1
    rw [List.getElem?_map] at e
    have h1 : l[j]? = some z := by simpa using h1
    rw [h1] at e
    cases e
    rw [h2]
    exact .str [z]
  · show l.toArray.size ≤ j
    simpa using hj
theorem Rp.lstV {E : Wd} {G : Hp} {v : V} {ds : List D} (r : Rp E G v (.lst ds)) : ∃ a vs, v = .ref a ∧ SqL E.K G a vs ∧ RpL E G vs ds := by
  cases r with
  | lst h r => exact ⟨_, _, rfl, h, r⟩
theorem pi_mono {tg e : Expr} {t t' : TI} (h : PI X tg e t) (k : ∀ σ H R, t' σ H R → t σ H R) : PI X tg e t' := ⟨fun pins s σ H R I q => h.run pins s σ H R I (k σ H R q)⟩
def iAny (K : PySem.W.Frag) (te : TE) : TI := fun σ H R => iList K te σ H R ∨ iTup K te σ H R ∨ iStr te σ H R
theorem pi_any {te : TE} (h : PE X e te) : PI X tg e (iAny X.K te) := ⟨fun pins s σ H R I q => by
  rcases q with q | q | q
  · exact (pi_list h).run pins s σ H R I q
  · exact (pi_tup h).run pins s σ H R I q
  · exact (pi_str h).run pins s σ H R I q⟩
theorem src_any {ga : Env → R D} (h : PX X W b e ga) : PSrc X W b tg e (iAny X.K (TX ⟨X.K, X.mg⟩ W b ga)) (eIt b ga) :=
  ⟨pi_any h, fun {B G H c σ fp P R} A q k => by
    cases e0 : ga c with
    | stuck => unfold eIt at q; rw [e0] at q; exact q.elim
    | ex x => exact .inl (tx_seq A q fun d e => by rw [e0] at e; cases e)
    | ok d0 =>
      have eq : eIt b ga c = lift (asA b d0) := by unfold eIt; rw [e0]; rfl
      have step : ∀ ds, asA b d0 = some ds → eIt b ga c = .ok ds := fun ds h => by rw [eq, h]; rfl
      cases d0 with
      | lst ds =>
        refine .inl (tx_seq A q fun d e v G1 H1 s1 t1 A1 r1 q1 => ?_)
        rw [e0] at e
        cases e
        obtain ⟨es, e2, p⟩ := Res.lift q1
        have e3 := e2
        unfold asA at e2
        simp only at e2
        split at e2
        · rename_i hk
          cases e2
          obtain ⟨a, vs, rfl, h0, r2⟩ := r1.lstV
          have h1 := Same.sqL (same_vw b A1.fine.le) h0
          exact ⟨a, rfl, ⟨vs, h1⟩, k _ G1 H1 _ (step _ e3) s1 t1 A1 (wk_list h0 (r2.known A1.fine hk)) p⟩
        · cases e2
      | tup ds =>
        refine .inr (.inl (tx_seq A q fun d e v G1 H1 s1 t1 A1 r1 q1 => ?_))
        rw [e0] at e
        cases e
        obtain ⟨es, e2, p⟩ := Res.lift q1
        have e3 := e2
        unfold asA at e2
        simp only at e2
        split at e2
        · rename_i hk
          cases e2
          obtain ⟨a, vs, rfl, h1, r2⟩ := r1.tupH A1.fine.le
          have h0 : SqT X.K (vw b G1 H1) a vs := by
            cases b with
            | true => exact known_tup A1.fine h1
            | false => exact h1
          exact ⟨a, rfl, ⟨vs, h1⟩, k _ G1 H1 _ (step _ e3) s1 t1 A1 (wk_tup h0 (r2.known A1.fine hk)) p⟩
        · cases e2
      | str l =>
        refine .inr (.inr (tx_seq A q fun d e v G1 H1 s1 t1 A1 r1 q1 => ?_))
        rw [e0] at e
        cases e
        obtain ⟨es, e2, p⟩ := Res.lift q1
        have e3 := e2
        unfold asA at e2
        simp only at e2
        split at e2
        · cases e2
          exact ⟨S l, r1.strH, k _ G1 H1 _ (step _ e3) s1 t1 A1 (wk_str l) p⟩
        · cases e2
      | _ => rw [eq] at q; exact q.elim⟩
theorem src_r1 {a : Expr} {ga : Env → R D} {p2 p3 : Pos} (hm : X.mg "range" = none) (h : PX X W b a ga) (hg : Gl X "range" := by rfl) (hs0 : starEach [a] X.env = [(false, eval a X.env)] := by rfl) :
    PSrc X W b' tg (.Call (.Name "range" p2) [a] [] p3) (iRng1 (tCons (TX ⟨X.K, X.mg⟩ W b ga) tNil)) (eItR (eC (.int 0)) ga) :=
  ⟨pi_range1 hg hm (pa_cons h pa_nil hs0) hs0, fun {B G H c σ fp P R} A q k => by
    have q0 : Res ⟨X.K, X.mg⟩ W B c σ fp G H (ga c >>= fun d2 => lift (asI d2) >>= fun hi => .ok (rangeD 0 hi)) P := q
    refine tx_seq A q0 fun d e v G1 H1 s1 t1 A1 r1 q1 => ?_
    cases hd : asI d with
    | none => rw [hd] at q1; exact q1.elim
    | some hi =>
      rw [hd] at q1
      obtain ⟨rfl, h1, h2⟩ := asI_rp r1 hd
      have w : Wk ⟨X.K, X.mg⟩ (Itr 0 hi.toNat) (vw b' G1 H1) G1 (rangeD 0 hi) := by have z := wk_rng (E := ⟨X.K, X.mg⟩) (Hs := vw b' G1 H1) (G := G1) (lo := 0) (hi := hi); simpa using z
      exact ⟨hi, rfl, h1, h2, k _ G1 H1 _ (by show (ga c >>= fun d2 => lift (asI d2) >>= fun hi => VS.R.ok (rangeD 0 hi)) = _; rw [e]; show (lift (asI d) >>= _) = _; rw [hd]; rfl) s1 t1 A1 w q1⟩⟩
theorem src_r2 {a a2 : Expr} {ga gb : Env → R D} {p2 p3 : Pos} (hm : X.mg "range" = none) (h : PX X W b a ga) (h2 : PX X W b2 a2 gb) (hg : Gl X "range" := by rfl) (hs0 : starEach [a, a2] X.env = [(false, eval a X.env), (false, eval a2 X.env)] := by rfl) (hs1 : starEach [a2] X.env = [(false, eval a2 X.env)] := by rfl)
    (hs2 : starEach [a, a2] X.env = (false, eval a X.env) :: starEach [a2] X.env := by rfl) :
    PSrc X W b' tg (.Call (.Name "range" p2) [a, a2] [] p3) (iRng2 (tCons (TX ⟨X.K, X.mg⟩ W b ga) (tCons (TX ⟨X.K, X.mg⟩ W b2 gb) tNil))) (eItR ga gb) :=
  ⟨pi_range2 hg hm (pa_cons h (pa_cons h2 pa_nil hs1) hs2) hs0 hs1, fun {B G H c σ fp P R} A q k => by
    refine tx_seq A q fun d e v G1 H1 s1 t1 A1 r1 q1 => ?_
    cases hd : asI d with
    | none => rw [hd] at q1; exact q1.elim
    | some lo =>
      rw [hd] at q1
      obtain ⟨rfl, h1, h2⟩ := asI_rp r1 hd
      refine tx_seq A1 q1 fun d2 e2 v2 G2 H2 s2 t2 A2 r2 q2 => ?_
      cases hd2 : asI d2 with
      | none => rw [hd2] at q2; exact q2.elim
      | some hi =>
        rw [hd2] at q2
        obtain ⟨rfl, h3, h4⟩ := asI_rp r2 hd2
        exact ⟨lo, hi, rfl, ⟨h1, h2, h3, h4⟩, k _ G2 H2 _ (by unfold eItR; rw [e]; simp only [ok_bind, hd, lift_some, e2, hd2]) (s1.trans s2) (t1.trans t2) A2 wk_rng q2⟩⟩
theorem st_res {E : Wd} {B : Bs} {c : Env} {σ : L2.St} {fp : List Addr} {G H : Hp} {Dn : Ends} {α : Type} {r : R α} {f : α → Rs} (h : ResS E W B G H (r.st c f) Dn) : Res E W B c σ fp G H r (fun a => r = .ok a ∧ ∀ G1 H1, Same G G1 → ResS E W B G1 H1 (f a) Dn) := by
  cases r with
  | ok a => exact ⟨rfl, fun G1 H1 s => ResS.grow (r := f a) h s⟩
  | ex e => exact fun cl dx G' H' s t A x => h cl dx σ G' H' fp s A x
  | stuck => exact h
def sFor (i : Nat) (gs : Env → R (List D)) (g : Env → Rs) : Env → Rs := fun c => (gs c).st c fun ds => forL i g ds c
theorem pxs_for {x : Str} {p : Pos} {body : List Stmt} {wi : TI} {gs : Env → R (List D)} (i : Nat) (hp : PassesOwn (model X.prog X.w) X.A X.env X.xe) (hc : X.calm = true) (ha : PSrc X W true (.Name x p) e wi gs) (hb : PXSs X W pn body g) (nd : X.N.Nodup) (hN : X.N[i]? = some x := by rfl) (hl : Loc X.env.scope x := by first | exact Or.inl rfl | exact Or.inr rfl) (hi : i ∉ pn := by decide)
    (hf : X.fn x = true ∨ X.env.scope.names.lookup x = some .local := by first | exact .inl rfl | exact .inr rfl) (hs : ∀ y, foldedSetIterable e X.env y = pure y := by intro _; rfl) : PXS X W pn (.For (.Name x p) e body [] pos) (sFor i gs g) :=
  ps_mono (ps_for hp hc ha.pi (pg_name (i := i) nd hN hl) hb hs) fun Dn σ H ⟨B, G, c, fp, A, P, q⟩ => ha.run A (st_res q) fun ds G1 H1 J e s1 t1 A1 w ⟨_, q1⟩ => by
    refine ⟨fun j m σ H => m = ds.length - j ∧ j ≤ ds.length ∧ ∃ G' c' fp', Same G1 G' ∧ Abs ⟨X.K, X.mg⟩ B G' H c' σ fp' ∧ ResS ⟨X.K, X.mg⟩ W B G' H (forL i g (ds.drop j) c') Dn, ⟨ds.length, by simp, Nat.zero_le _, G1, c, fp, Same.refl _, A1, q1 G1 H1 s1⟩, ?_⟩
    rintro j m σ' H' ⟨rfl, hj, G', c', fp', s', A', q'⟩
    by_cases hlt : j < ds.length
    · refine .inr ⟨w.go j H' (s'.trans A'.fine.le) hlt, fun σ2 H2 => ∃ G2 c2 fp2, Same G1 G2 ∧ Abs ⟨X.K, X.mg⟩ B G2 H2 c2 σ2 fp2 ∧ ResS ⟨X.K, X.mg⟩ W B G2 H2 (forL i g (ds.drop (j + 1)) c2) Dn, fun σ2 H2 h2 => ⟨_, by omega, rfl, hlt, h2⟩, fun x H3 y => ?_⟩
      obtain ⟨rfl, hr⟩ := w.yl j H' x H3 (s'.trans A'.fine.le) y
      have hd := List.getElem?_eq_getElem hlt
      rw [drop_cons hd] at q'
      exact for_turn A' P hi ((hr _ hd).mono s') q' fun σ2 G2 H2 c2 fp2 s2 A2 q2 => ⟨G2, c2, fp2, s'.trans s2, A2, q2⟩
    · have e : j = ds.length := by omega
      subst e
      rw [List.drop_length] at q'
      exact .inl ⟨w.st _ H' (s'.trans A'.fine.le) (Nat.le_refl _), q' σ' G' H' fp' (Same.refl _) A'⟩

/-! ### list comprehensions -/
def noX {α : Type} : R α → R α
  | .ok a => .ok a
  | _ => .stuck
@[simp] theorem noX_ok {α : Type} (a : α) : noX (.ok a) = R.ok a := rfl
@[simp] theorem noX_stuck {α : Type} : noX (.stuck : R α) = .stuck := rfl
@[simp] theorem noX_ex {α : Type} (e : D) : noX (.ex e : R α) = .stuck := rfl
def compL (t : Env → R Bool) (g : Env → R D) (i : Nat) (c : Env) : List D → R (List D)
  | [] => .ok []
  | d :: ds => noX (t (c.set i (some (.v d)))) >>= fun b => if b then noX (g (c.set i (some (.v d)))) >>= fun x => compL t g i c ds >>= fun xs => .ok (x :: xs) else compL t g i c ds
def eLcs (gs : Env → R (List D)) (t : Env → R Bool) (g : Env → R D) (i : Nat) : Env → R (List D) := fun c => gs c >>= fun ds => compL t g i c ds >>= fun es => if es.length ≤ 16777216 then .ok es else .stuck
def eLc (gs : Env → R (List D)) (t : Env → R Bool) (g : Env → R D) (i : Nat) : Env → R D := fun c => eLcs gs t g i c >>= fun es => .ok (.lst es)
def eLcO (gs : Env → R (List D)) (t : Env → R Bool) (g : Env → R D) (i : Nat) : Env → R O := fun c => eLcs gs t g i c >>= fun es => .ok (.lst (es.map O.v))
def tYes' : Env → R Bool := fun _ => .ok true
abbrev W0 : WX := fun _ _ _ _ => False
/-- a block's tests -/
def PXTs (X : Cx) (ifs : List Expr) (t : Env → R Bool) : Prop := PTs X ifs (TXT ⟨X.K, X.mg⟩ W0 t)
theorem pts_mono {X : Cx} {ifs : List Expr} {t t' : TT} (h : PTs X ifs t) (k : ∀ σ H Q, t' σ H Q → t σ H Q) : PTs X ifs t' := ⟨fun pins s σ H Q I q => h.run pins s σ H Q I (k σ H Q q)⟩
theorem pxts_nil {X : Cx} : PXTs X [] tYes' := pts_mono pts_nil fun σ H Q ⟨B, G, c, fp, A, q⟩ => q G H (Same.refl _) (Same.refl _) A
theorem pxts_one {X : Cx} {c : Expr} {t : Env → R Bool} (h : PXT X W0 c t) : PXTs X [c] t := pts_one h
end
section
variable {E : Wd} {B : Bs} {c : Env} {σ : L2.St} {fp : List Addr} {G G' H H' : Hp}
/-- a block begins -/
theorem Abs.enter {i : Nat} {v : V} {d : D} (A : Abs E B G H c σ fp) (rv : Rp E G v d) : ∃ B' fr, Abs E B' G H (c.set i (some (.v d))) (σ.set i (some v)) fr ∧
    ∀ G' H' c2 σ2 fp2, Same G G' → Same H H' → Abs E B' G' H' c2 σ2 fp2 → Abs E B G' H' c σ fp ∧ ∀ a, H a ≠ none → G a = none → G' a = none := by
  obtain ⟨fr, h1, h2, h3⟩ := A.cells.set i (Own.v rv) A.nd List.nodup_nil fun p hp => nomatch hp
  have sub : ∀ p ∈ fr, p ∈ fp := fun p hp => (h3 p hp).elim id fun z => nomatch z
  refine ⟨⟨H, G, [], fun a => a ∈ fr⟩, fr, ⟨⟨fun a o e _ => e, fun a e => e, fun a _ e => e, A.fine.le, A.fine.tup⟩, h1, h2, fun p hp => ⟨(A.fresh p (sub p hp)).1, .inr hp⟩, fun q hq => nomatch hq⟩, fun G' H' c2 σ2 fp2 s t A2 => ?_⟩
  have gr : ∀ a, H a ≠ none → G a = none → G' a = none := A2.fine.x
  refine ⟨⟨⟨fun a o e n => t a o (A.fine.base a o e n), fun a e => A.fine.there a (t.free e), fun a h1 h2 => ?_, A2.fine.le, A2.fine.tup⟩, A.cells.keep s (fun p _ u e => t p u e), A.nd, fun p hp => ⟨gr p (A.cells.there p hp) (A.fresh p hp).1, (A.fresh p hp).2⟩, A.pin⟩, gr⟩
  exact gr a (fun z => h1 (A.fine.there a z)) (A.fine.x a h1 h2)
/-- a new list that no name owns is written -/
theorem Abs.pokeOut {p : Addr} {u : HO} (A : Abs E B G H c σ fp) (hf : p ∉ fp) (hG : G p = none) (h0 : B.H0 p = none) (hu : isT u = false) : Abs E B G (upd H p u) c σ fp := by
  refine ⟨⟨fun a o e n => ?_, fun a e => ?_, A.fine.x, fun a o e => ?_, fun a o e k => ?_⟩, A.cells.keep (Same.refl _) fun q hq w e => ?_, A.nd, A.fresh, A.pin⟩
  · have ha : a ≠ p := fun z => by subst z; rw [h0] at e; cases e
    rw [upd_ne ha]; exact A.fine.base a o e n
  · by_cases ha : a = p
    · rw [ha]; exact h0
    · rw [upd_ne ha] at e; exact A.fine.there a e
  · have ha : a ≠ p := fun z => by subst z; rw [hG] at e; cases e
    rw [upd_ne ha]; exact A.fine.le a o e
  · by_cases ha : a = p
    · subst ha; rw [upd_same] at e; cases e; rw [hu] at k; cases k
    · rw [upd_ne ha] at e; exact A.fine.tup a o e k
  · have hq' : q ≠ p := fun z => hf (z ▸ hq)
    rw [upd_ne hq']; exact e
/-- it is known from now on -/
theorem Abs.know {p : Addr} {u : HO} (A : Abs E B G H c σ fp) (hf : p ∉ fp) (hG : G p = none) (h0 : B.H0 p = none) (hH : H p = some u) : Abs E B (upd G p u) H c σ fp := by
  refine ⟨⟨A.fine.base, A.fine.there, fun a h1 h2 => ?_, fun a o e => ?_, fun a o e k => ?_⟩, A.cells.keep (same_upd hG) (fun q hq w e => e), A.nd, fun q hq => ⟨?_, (A.fresh q hq).2⟩, A.pin⟩
  · have ha : a ≠ p := fun z => h1 (by rw [z]; exact h0)
    rw [upd_ne ha]; exact A.fine.x a h1 h2
  · by_cases ha : a = p
    · subst ha; rw [upd_same] at e; cases e; exact hH
    · rw [upd_ne ha] at e; exact A.fine.le a o e
  · by_cases ha : a = p
    · subst ha; rw [hH] at e; cases e; exact upd_same
    · rw [upd_ne ha]; exact A.fine.tup a o e k
  · have ha : q ≠ p := fun z => hf (z ▸ hq)
    rw [upd_ne ha]; exact (A.fresh q hq).1
end
/-- what stands between two turns of a comprehension -/
structure LcAt (E : Wd) (B : Bs) (c : Env) (σ : L2.St) (fp : List Addr) (G1 : Hp) (p : Addr) (es : List D) (H : Hp) : Prop where
  ex : ∃ G' vs, Same G1 G' ∧ Abs E B G' H c σ fp ∧ H p = some (.lst vs) ∧ G' p = none ∧ RpL E G' vs es
theorem wipe1 (σ : L2.St) (i : Nat) : wipe σ [i] = σ.set i none := rfl
theorem noX_eq {α : Type} {r : R α} {a : α} (h : noX r = .ok a) : r = .ok a := by
  cases r with
  | ok b => exact h
  | ex e => cases h
  | stuck => cases h
theorem bind_ok_eq {α β : Type} {r : R α} {f : α → R β} {b : β} (h : (r >>= f) = .ok b) : ∃ a, r = .ok a ∧ f a = .ok b := by
  cases r with
  | ok a => exact ⟨a, rfl, h⟩
  | ex e => cases h
  | stuck => cases h
section
variable {X : Cx} {W : WX} {pn : List Nat} {e elt : Expr} {ifs : List Expr} {pos : Pos} {wi : TI} {gs : Env → R (List D)} {t : Env → R Bool} {g : Env → R D} {i : Nat}
theorem tlc_of (K : PySem.W.Frag) (mg : Str → Option Value) (hX : X.K = K) (hmg : X.mg = mg) {tg : Expr} {b : Bool} (ha : PSrc X W b tg e wi gs) {B : Bs} {G H : Hp} {c : Env} {σ : L2.St} {fp : List Addr} {Q : VK} {P : List D → Prop} (A : Abs ⟨X.K, X.mg⟩ B G H c σ fp) (q : Res ⟨X.K, X.mg⟩ W B c σ fp G H (eLcs gs t g i c) P)
    (k : ∀ es G1 H1 p, Same G G1 → Same H H1 → H p = none → p ∉ fp → B.H0 p = none → LcAt ⟨X.K, X.mg⟩ B c σ fp G1 p es H1 → P es → Q (.ref p) H1) : tLc wi (gName i) (TXT ⟨X.K, X.mg⟩ W0 t) (TX ⟨X.K, X.mg⟩ W0 true g) [i] σ H Q := by
  refine ha.run (P := fun ds => Res ⟨X.K, X.mg⟩ W B c σ fp G H (compL t g i c ds >>= fun es => if es.length ≤ 16777216 then R.ok es else .stuck) P) A ?_ fun ds G1 H1 J eds s1 t1 A1 w q1 => ?_
  · unfold eLcs at q
    cases h : gs c with
    | ok ds => rw [h] at q; exact q
    | ex x => rw [h] at q; exact q
    | stuck => rw [h] at q; exact q
  · intro p hp
    cases hes : compL t g i c ds with
    | stuck => rw [hes] at q1; exact q1.elim
    | ex x =>
      exfalso
      have : ∀ ds x, compL t g i c ds ≠ .ex x := by
        intro ds
        induction ds with
        | nil => intro x z; cases z
        | cons d ds ih =>
          intro x z
          rw [compL] at z
          cases ht : t (c.set i (some (.v d))) with
          | ok b =>
            rw [ht] at z
            simp only [noX_ok, ok_bind] at z
            split at z
            · cases hg : g (c.set i (some (.v d))) with
              | ok y =>
                rw [hg] at z
                simp only [noX_ok, ok_bind] at z
                cases hc : compL t g i c ds with
                | ok ys => rw [hc] at z; cases z
                | ex y => exact ih y hc
                | stuck => rw [hc] at z; cases z
              | ex y => rw [hg] at z; cases z
              | stuck => rw [hg] at z; cases z
            · exact ih x z
          | ex y => rw [ht] at z; cases z
          | stuck => rw [ht] at z; cases z
      exact this ds x hes
    | ok tot =>
      rw [hes] at q1
      by_cases hl : tot.length ≤ 16777216
      · have q2 : Res ⟨X.K, X.mg⟩ W B c σ fp G H (if tot.length ≤ 16777216 then R.ok tot else .stuck) P := q1
        rw [if_pos hl] at q2
        have pf : p ∉ fp := fun z => A1.cells.there p z hp
        have p0 : B.H0 p = none := A1.fine.there p hp
        refine ⟨fun j m H => m = ds.length - j ∧ j ≤ ds.length ∧ Same H1 (fun a => if a = p then H1 a else H a) ∧ ∃ es rest, LcAt ⟨X.K, X.mg⟩ B c σ fp G1 p es H ∧ compL t g i c (ds.drop j) = .ok rest ∧ es ++ rest = tot,
          ⟨ds.length, by simp, Nat.zero_le _, fun a o e => ?_, [], tot, ⟨G1, [], Same.refl _, A1.newO hp rfl, upd_same, A1.fine.fresh hp, .nil⟩, hes, rfl⟩, ?_⟩
        · have hne : a ≠ p := ne_of_none e hp
          show (if a = p then H1 a else upd H1 p (.lst []) a) = some o
          rw [if_neg hne, upd_ne hne]; exact e
        · rintro j m H2 ⟨rfl, hj, sm, es, rest, ⟨G2, vs, s2, A2, hD, gD, r2⟩, hc, htot⟩
          have ws : Same (vw b G1 H1) H2 := by
            cases b with
            | true => exact s2.trans A2.fine.le
            | false =>
              intro a o e
              have e : H1 a = some o := e
              have z := sm a o e
              have z : (if a = p then H1 a else H2 a) = some o := z
              rw [if_neg (ne_of_none e hp)] at z
              exact z
          by_cases hlt : j < ds.length
          · refine .inr ⟨w.go j H2 ws hlt, fun H' => j + 1 ≤ ds.length ∧ Same H1 (fun a => if a = p then H1 a else H' a) ∧ ∃ es rest, LcAt ⟨X.K, X.mg⟩ B c σ fp G1 p es H' ∧ compL t g i c (ds.drop (j + 1)) = .ok rest ∧ es ++ rest = tot, fun H' ⟨h1, h2, h3⟩ => ⟨_, by omega, rfl, h1, h2, h3⟩, fun x H3 y => ?_⟩
            obtain ⟨rfl, hr⟩ := w.yl j H2 x H3 ws y
            have hd := List.getElem?_eq_getElem hlt
            rw [drop_cons hd, compL] at hc
            obtain ⟨tb, ht, hc⟩ := bind_ok_eq hc
            have ht := noX_eq ht
            have hsig : (wipe σ [i]).set i (some x) = σ.set i (some x) := by rw [wipe1, List.set_set]
            show (fun σ2 H2 => wipe σ2 [i] = wipe σ [i] ∧ _) ((wipe σ [i]).set i (some x)) H3
            rw [hsig]
            refine ⟨by rw [wipe1, wipe1, List.set_set], ?_⟩
            obtain ⟨B', fr, A3, back⟩ := A2.enter (i := i) ((hr _ hd).mono s2)
            refine ⟨B', G2, _, fr, A3, ?_⟩
            rw [ht]
            intro G4 H4 s4 t4 A4
            have smn : ∀ {Hx Hy : Hp}, Same H1 (fun a => if a = p then H1 a else Hx a) → Same Hx Hy → Same H1 (fun a => if a = p then H1 a else Hy a) := fun {Hx Hy} h1 h2 a o e => by
              have z := h1 a o e
              by_cases hap : a = p
              · show (if a = p then H1 a else Hy a) = some o
                rw [if_pos hap]; exact e
              · have z : (if a = p then H1 a else Hx a) = some o := z
                rw [if_neg hap] at z
                show (if a = p then H1 a else Hy a) = some o
                rw [if_neg hap]; exact h2 a o z
            cases tb with
            | false =>
              rw [if_neg (by decide)]
              have hc : compL t g i c (ds.drop (j + 1)) = .ok rest := hc
              obtain ⟨A5, gr⟩ := back G4 H4 _ _ _ s4 t4 A4
              exact ⟨hlt, smn sm t4, es, rest, ⟨G4, vs, s2.trans s4, A5, t4 p _ hD, gr p (by rw [hD]; exact fun z => nomatch z) gD, r2.mono s4⟩, hc, htot⟩
            | true =>
              rw [if_pos rfl]
              have hc : (noX (g (c.set i (some (.v ds[j])))) >>= fun x => compL t g i c (ds.drop (j + 1)) >>= fun xs => R.ok (x :: xs)) = .ok rest := hc
              obtain ⟨x1, hg, hc⟩ := bind_ok_eq hc
              have hg := noX_eq hg
              obtain ⟨xs, hxs, hc⟩ := bind_ok_eq hc
              cases hc
              refine ⟨B', G4, _, fr, A4, ?_⟩
              rw [hg]
              intro v5 G5 H5 s5 t5 A5 r5
              obtain ⟨A6, gr⟩ := back G5 H5 _ _ _ (s4.trans s5) (t4.trans t5) A5
              have hD5 : H5 p = some (.lst vs) := t5 p _ (t4 p _ hD)
              have g5 : G5 p = none := gr p (by rw [hD]; exact fun z => nomatch z) gD
              have hvl : vs.length = es.length := r2.length
              have hle : es.length < tot.length := by rw [← htot]; simp
              refine ⟨vs, hD5, by rw [hvl, sizeLine_eq]; omega, hlt, fun a o e => ?_, es ++ [x1], xs, ⟨G5, vs ++ [v5], s2.trans (s4.trans s5), A6.pokeOut pf g5 p0 rfl, upd_same, g5, (r2.mono (s4.trans s5)).append (.cons r5 .nil)⟩, hxs, by rw [← htot]; simp⟩
              have z := smn (smn sm t4) t5 a o e
              by_cases hap : a = p
              · show (if a = p then H1 a else _) = some o
                rw [if_pos hap]; exact e
              · have z : (if a = p then H1 a else H5 a) = some o := z
                rw [if_neg hap] at z
                show (if a = p then H1 a else upd H5 p _ a) = some o
                rw [if_neg hap, upd_ne hap]; exact z
          · have ej : j = ds.length := by omega
            subst ej
            rw [List.drop_length] at hc
            cases hc
            rw [List.append_nil] at htot
            subst htot
            have smH : Same H H2 := fun a o e => by
              have e1 := t1 a o e
              have z := sm a o e1
              have z : (if a = p then H1 a else H2 a) = some o := z
              rw [if_neg (ne_of_none e1 hp)] at z
              exact z
            exact .inl ⟨w.st _ H2 ws (Nat.le_refl _), k es G1 H2 p s1 smH (t1.free hp) pf p0 ⟨G2, vs, s2, A2, hD, gD, r2⟩ q2⟩
      · have q2 : Res ⟨X.K, X.mg⟩ W B c σ fp G H (if tot.length ≤ 16777216 then R.ok tot else .stuck) P := q1
        rw [if_neg hl] at q2
        exact q2.elim

theorem lc_fin {B : Bs} {c : Env} {σ : L2.St} {fp : List Addr} {G G1 H H1 : Hp} {Q : VK} {p : Addr} {es : List D} (s : Same G G1) (t : Same H H1) (pf : p ∉ fp) (p0 : B.H0 p = none) (l : LcAt ⟨X.K, X.mg⟩ B c σ fp G1 p es H1) (q : Post ⟨X.K, X.mg⟩ B c σ fp G H true Q (.lst es)) : Q (.ref p) H1 := by
  obtain ⟨G2, vs, s2, A2, hD, gD, r2⟩ := l
  have A3 := A2.know pf gD p0 hD
  exact q _ _ _ (s.trans (s2.trans (same_upd gD))) t A3 (.lst (.inl (.inl upd_same)) (r2.mono (same_upd gD)))
theorem lc_finO {B : Bs} {c : Env} {σ : L2.St} {fp : List Addr} {G G1 H H1 : Hp} {Q : VK} {p : Addr} {es : List D} (s : Same G G1) (t : Same H H1) (hp : H p = none) (l : LcAt ⟨X.K, X.mg⟩ B c σ fp G1 p es H1) (q : PostF ⟨X.K, X.mg⟩ B c σ fp G H Q (.lst (es.map O.v))) : Q (.ref p) H1 := by
  obtain ⟨G2, vs, s2, A2, hD, gD, r2⟩ := l
  refine q _ _ _ [p] (s.trans s2) t A2 (.lst hD (ownL_v r2)) (by simp) fun a ha => ?_
  have : a = p := by simpa using ha
  subst this
  exact ⟨hp, gD⟩
theorem tlc_v {tg : Expr} {b : Bool} (ha : PSrc X W b tg e wi gs) : ∀ σ H Q, TX ⟨X.K, X.mg⟩ W true (eLc gs t g i) σ H Q → tLc wi (gName i) (TXT ⟨X.K, X.mg⟩ W0 t) (TX ⟨X.K, X.mg⟩ W0 true g) [i] σ H Q := fun σ H Q ⟨B, G, c, fp, A, q⟩ => by
  refine tlc_of X.K X.mg rfl rfl ha A (P := fun es => Post ⟨X.K, X.mg⟩ B c σ fp G H true Q (.lst es)) ?_ fun es G1 H1 p s1 t1 hp pf p0 l q1 => lc_fin s1 t1 pf p0 l q1
  unfold eLc at q
  cases h : eLcs gs t g i c with
  | ok es => rw [h] at q; exact q
  | ex x => rw [h] at q; exact q
  | stuck => rw [h] at q; exact q
theorem tlc_o {tg : Expr} {b : Bool} (ha : PSrc X W b tg e wi gs) : ∀ σ H Q, TF ⟨X.K, X.mg⟩ W (eLcO gs t g i) σ H Q → tLc wi (gName i) (TXT ⟨X.K, X.mg⟩ W0 t) (TX ⟨X.K, X.mg⟩ W0 true g) [i] σ H Q := fun σ H Q ⟨B, G, c, fp, A, q⟩ => by
  refine tlc_of X.K X.mg rfl rfl ha A (P := fun es => PostF ⟨X.K, X.mg⟩ B c σ fp G H Q (.lst (es.map O.v))) ?_ fun es G1 H1 p s1 t1 hp pf p0 l q1 => lc_finO s1 t1 hp l q1
  unfold eLcO at q
  cases h : eLcs gs t g i c with
  | ok es => rw [h] at q; exact q
  | ex x => rw [h] at q; exact q
  | stuck => rw [h] at q; exact q
section
variable {x y : Str} {p py : Pos} {scope : Scope} {spos : Pos}
theorem px_lc (i : Nat) (hc : X.calm = true) (hN : X.N.Nodup) {b : Bool} (ha : PSrc X W b (.Name x p) e wi gs) (ok : BlkOk X.N X.env.scope scope [(x, i)])
    (hg : ∀ (s : Shared) (H : Hp) (C : Addr) (cl : List (Str × Addr)) (fp : List Addr), PG (X.blk s H scope (compEnvC scope cl C X.env) fp) (.Name x p) (gName i)) (ht : ∀ (s : Shared) (H : Hp) (C : Addr) (cl : List (Str × Addr)) (fp : List Addr), PXTs (X.blk s H scope (compEnvC scope cl C X.env) fp) ifs t)
    (he : ∀ (s : Shared) (H : Hp) (C : Addr) (cl : List (Str × Addr)) (fp : List Addr), PX (X.blk s H scope (compEnvC scope cl C X.env) fp) W0 true elt g) (hs : ∀ z, foldedSetIterable e X.env z = pure z := by intro _; rfl) :
    PX X W true (.ListComp elt [⟨.Name x p, e, ifs, 0⟩] scope pos) (eLc gs t g i) := pe_mono (pe_lc (own := [(x, i)]) (tt := TXT ⟨X.K, X.mg⟩ W0 t) (te := TX ⟨X.K, X.mg⟩ W0 true g) hc hN ha.pi ok hg ht he hs) (tlc_v ha)
theorem pf_lc (i : Nat) (hc : X.calm = true) (hN : X.N.Nodup) {b : Bool} (ha : PSrc X W b (.Name x p) e wi gs) (ok : BlkOk X.N X.env.scope scope [(x, i)])
    (hg : ∀ (s : Shared) (H : Hp) (C : Addr) (cl : List (Str × Addr)) (fp : List Addr), PG (X.blk s H scope (compEnvC scope cl C X.env) fp) (.Name x p) (gName i)) (ht : ∀ (s : Shared) (H : Hp) (C : Addr) (cl : List (Str × Addr)) (fp : List Addr), PXTs (X.blk s H scope (compEnvC scope cl C X.env) fp) ifs t)
    (he : ∀ (s : Shared) (H : Hp) (C : Addr) (cl : List (Str × Addr)) (fp : List Addr), PX (X.blk s H scope (compEnvC scope cl C X.env) fp) W0 true elt g) (hs : ∀ z, foldedSetIterable e X.env z = pure z := by intro _; rfl) :
    PF X W (.ListComp elt [⟨.Name x p, e, ifs, 0⟩] scope pos) (eLcO gs t g i) := pe_mono (pe_lc (own := [(x, i)]) (tt := TXT ⟨X.K, X.mg⟩ W0 t) (te := TX ⟨X.K, X.mg⟩ W0 true g) hc hN ha.pi ok hg ht he hs) (tlc_o ha)
/-- y = [..] -/
theorem pxs_setLc (k i : Nat) (hc : X.calm = true) (hN : X.N.Nodup) (hsw : swapsWith (.ListComp elt [⟨.Name x p, e, ifs, 0⟩] scope pos) (some (.Name y py)) spos.line X.env = pure true) {b : Bool} (ha : PSrc X W b (.Name x p) e wi gs) (ok : BlkOk X.N X.env.scope scope [(x, i)])
    (hg : ∀ (s : Shared) (H : Hp) (C : Addr) (cl : List (Str × Addr)) (fp : List Addr), PG (X.blk s H scope (compEnvC scope cl C X.env) fp) (.Name x p) (gName i)) (ht : ∀ (s : Shared) (H : Hp) (C : Addr) (cl : List (Str × Addr)) (fp : List Addr), PXTs (X.blk s H scope (compEnvC scope cl C X.env) fp) ifs t)
    (he : ∀ (s : Shared) (H : Hp) (C : Addr) (cl : List (Str × Addr)) (fp : List Addr), PX (X.blk s H scope (compEnvC scope cl C X.env) fp) W0 true elt g) (hy : X.N[k]? = some y := by rfl) (hyl : X.env.scope.names.lookup y = some .local := by rfl) (hi : k ∉ pn := by decide) (hs : ∀ z, foldedSetIterable e X.env z = pure z := by intro _; rfl) :
    PXS X W pn (.Assign [.Name y py] (.ListComp elt [⟨.Name x p, e, ifs, 0⟩] scope pos) spos) (sSet k (eLc gs t g i)) :=
  ps_mono (ps_setLc (own := [(x, i)]) (tt := TXT ⟨X.K, X.mg⟩ W0 t) (te := TX ⟨X.K, X.mg⟩ W0 true g) hc hN hy hyl hsw ha.pi ok hg ht he hs) fun Dn σ H ⟨B, G, c, fp, A, P, q⟩ => tlc_v ha σ H _ (tx_st A q fun d e v G1 H1 s1 t1 A1 r1 q1 => by
    obtain ⟨fr, A2⟩ := A1.setV (i := k) r1 (P.ne hi)
    exact q1 _ G1 H1 fr (Same.refl _) A2)
theorem pxs_setLcO (k i : Nat) (hc : X.calm = true) (hN : X.N.Nodup) (hsw : swapsWith (.ListComp elt [⟨.Name x p, e, ifs, 0⟩] scope pos) (some (.Name y py)) spos.line X.env = pure true) {b : Bool} (ha : PSrc X W b (.Name x p) e wi gs) (ok : BlkOk X.N X.env.scope scope [(x, i)])
    (hg : ∀ (s : Shared) (H : Hp) (C : Addr) (cl : List (Str × Addr)) (fp : List Addr), PG (X.blk s H scope (compEnvC scope cl C X.env) fp) (.Name x p) (gName i)) (ht : ∀ (s : Shared) (H : Hp) (C : Addr) (cl : List (Str × Addr)) (fp : List Addr), PXTs (X.blk s H scope (compEnvC scope cl C X.env) fp) ifs t)
    (he : ∀ (s : Shared) (H : Hp) (C : Addr) (cl : List (Str × Addr)) (fp : List Addr), PX (X.blk s H scope (compEnvC scope cl C X.env) fp) W0 true elt g) (hy : X.N[k]? = some y := by rfl) (hyl : X.env.scope.names.lookup y = some .local := by rfl) (hi : k ∉ pn := by decide) (hs : ∀ z, foldedSetIterable e X.env z = pure z := by intro _; rfl) :
    PXS X W pn (.Assign [.Name y py] (.ListComp elt [⟨.Name x p, e, ifs, 0⟩] scope pos) spos) (sSetO k (eLcO gs t g i)) :=
  ps_mono (ps_setLc (own := [(x, i)]) (tt := TXT ⟨X.K, X.mg⟩ W0 t) (te := TX ⟨X.K, X.mg⟩ W0 true g) hc hN hy hyl hsw ha.pi ok hg ht he hs) fun Dn σ H ⟨B, G, c, fp, A, P, q⟩ => tlc_o ha σ H _ (tf_st A q fun o e v G1 H1 fq s1 t1 A1 w n d q1 => by
    obtain ⟨fr, A2⟩ := set_fresh A1 (A.cells.there) A.fine.there w n d P hi
    exact q1 _ G1 H1 fr (Same.refl _) A2)
end
end
end VS

/-! VS: defs, calls, the law's end. -/
namespace VS
open PySem PySem.Spec PyProof.Rows L2

/-- a def's run: n names -/
def runF (n : Nat) (body : Env → Rs) (ds : List D) : R D :=
  match body (ds.map (fun d => some (O.v d)) ++ List.replicate (n - ds.length) none) with
  | .ok (.rt d) _ => .ok d
  | .ok .nx _ => .ok .non
  | .ex e _ => .ex e
  | _ => .stuck
def spM (E : Wd) (n : Nat) (m : List D → R D) : Sp := fun vs H Q Ex => ∃ G ds, vs.length = n ∧ Same G H ∧ (∀ a u, H a = some u → isT u = true → G a = some u) ∧ RpL E G vs ds ∧
  match m ds with
  | .ok d => ∀ v G' H', Same G G' → Same G' H' → Same H H' → (∀ a, H a ≠ none → G a = none → G' a = none) → (∀ a u, H' a = some u → isT u = true → G' a = some u) → Rp E G' v d → Q v H'
  | _ => False
abbrev FnM (P : Program) (w : World) (K : PySem.W.Frag) (mg : Str → Option Value) (base : Heap) (k : Nat) (f : Addr) (fd : FuncData) (ps : List Str) (m : List D → R D) : Prop := FnOk P w K mg base CX0 k f fd ps (spM ⟨K, mg⟩ ps.length m)
section
variable {E : Wd} {B : Bs} {G G' H H' : Hp} {c : Env} {σ : L2.St} {fp : List Addr}
theorem cells_none : ∀ (k : Nat), Cells E G H (List.replicate k none) (List.replicate k none) []
  | 0 => .nil
  | k + 1 => by
    rw [List.replicate_succ, List.replicate_succ]
    exact .no (cells_none k)
theorem cells_start (k : Nat) : ∀ {vs : List V} {ds : List D}, RpL E G vs ds → Cells E G H (ds.map (fun d => some (O.v d)) ++ List.replicate k none) (vs.map some ++ List.replicate k none) []
  | _, [], r => by cases r; exact cells_none k
  | _, d :: ds, r => by
    cases r with
    | cons h r => exact Cells.yes (fp := []) (fq := []) (.v h) (cells_start k r)
/-- behind a call: all that was known or owned stays -/
theorem Abs.call (A : Abs E B G H c σ fp) (s : Same G G') (t : Same H H') (l : Same G' H') (gr : ∀ a, H a ≠ none → G a = none → G' a = none) (tp : ∀ a u, H' a = some u → isT u = true → G' a = some u) : Abs E B G' H' c σ fp :=
  ⟨⟨fun a o e n => t a o (A.fine.base a o e n), fun a e => A.fine.there a (t.free e), fun a h1 h2 => gr a (fun z => h1 (A.fine.there a z)) (A.fine.x a h1 h2), l, tp⟩, A.cells.keep s (fun p _ u e => t p u e), A.nd,
    fun p hp => ⟨gr p (A.cells.there p hp) (A.fresh p hp).1, (A.fresh p hp).2⟩, A.pin⟩
end
section
variable {P : Program} {w : World} {K : PySem.W.Frag} {mg : Str → Option Value} {base : Heap}
/-- a def whose body is worth body -/
theorem fnm_of {x qual : Str} {st : Stmt} {f : Addr} {fd : FuncData} {N ps : List Str} {k : Nat} {body : Env → Rs} (F : Fun K x qual st f fd) (S : FnScope N ps (defScope st))
    (hbody : ∀ (cdv : Value) (A : Around) (outer : List PySem.Env) (s : Shared) (H : Hp) (E : XK), Room k (A.deeper (envOfC qual (defScope st) s.heap.objs.size f cdv)) → PXSs (cxOf CX0 P w K mg base N qual (defScope st) f cdv A outer s H E).nox W0 [] (defBody st) body) :
    FnM P w K mg base (k + 1) f fd ps (runF N.length body) := by
  refine F.ok S (fun vs H Q E h => ?_) (fun cdv A outer s H vs Q E hr h => ?_)
  · obtain ⟨_, _, h, _⟩ := h
    exact h
  · obtain ⟨G, ds, hl, sG, tp, r, q⟩ := h
    refine ⟨_, hbody cdv A outer s H E hr, ?_⟩
    have hvl : vs.length = ds.length := r.length
    refine ⟨⟨H, G, [], fun _ => False⟩, G, ds.map (fun d => some (O.v d)) ++ List.replicate (N.length - ds.length) none, [], ⟨⟨fun a o e _ => e, fun a e => e, fun a _ e => e, sG, tp⟩, ?_, List.nodup_nil, (fun p hp => nomatch hp), (fun q hq => nomatch hq)⟩, ⟨(fun q hq => nomatch hq), fun _ a z => z⟩, ?_⟩
    · unfold L2.start
      rw [hvl]
      exact cells_start _ r
    · unfold runF at q
      cases e : body (ds.map (fun d => some (O.v d)) ++ List.replicate (N.length - ds.length) none) with
      | ok fl c' =>
        rw [e] at q
        cases fl with
        | nx => exact fun σ' G' H' fp' s' A' => q .non G' H' s' A'.fine.le (fun a o e => A'.fine.base a o e fun z => z) A'.fine.x A'.fine.tup .non
        | bk => exact q.elim
        | ct => exact q.elim
        | rt d => exact fun v σ' G' H' fp' s' A' r' => q v G' H' s' A'.fine.le (fun a o e => A'.fine.base a o e fun z => z) A'.fine.x A'.fine.tup r'
      | ex x c' => rw [e] at q; exact q.elim
      | stuck => rw [e] at q; exact q.elim
/-- no word -/
theorem fnm_stuck {x qual : Str} {st : Stmt} {f : Addr} {fd : FuncData} {ps : List Str} {k : Nat} : FnM P w K mg base k f fd ps (fun _ => .stuck) :=
  ⟨fun vs H Q E h => h.choose_spec.choose_spec.1, fun A outer s H args us vs Q E hr e0 hb r h => by
    obtain ⟨G, ds, _, _, _, _, q⟩ := h
    exact q.elim⟩
theorem FnM.eq {f : Addr} {fd : FuncData} {ps : List Str} {k : Nat} {m m' : List D → R D} (F : FnM P w K mg base k f fd ps m) (h : m = m') : FnM P w K mg base k f fd ps m' := h ▸ F
end
section
variable {X : Cx} {W : WX} {k : Nat} {f : Addr} {fd : FuncData} {ps : List Str} {x : Str} {p pos : Pos} {e : Expr} {es : List Expr} {gs : Env → R (List D)} {m : List D → R D}
def eCall (m : List D → R D) (gs : Env → R (List D)) : Env → R D := fun c => gs c >>= fun ds => noX (m ds)
theorem call_true {B : Bs} {G H : Hp} {c : Env} {σ : L2.St} {fp : List Addr} {vs : List V} {ds : List D} {Q : VK} {Ex : XK} (F : FnM X.prog X.w X.K X.mg X.base k f fd ps m) (A : Abs ⟨X.K, X.mg⟩ B G H c σ fp) (r : RpL ⟨X.K, X.mg⟩ G vs ds) (hl : ds.length = ps.length)
    (q : Res ⟨X.K, X.mg⟩ W B c σ fp G H (noX (m ds)) (Post ⟨X.K, X.mg⟩ B c σ fp G H true Q)) : spM ⟨X.K, X.mg⟩ ps.length m vs H Q Ex := by
  refine ⟨G, ds, by rw [r.length]; exact hl, A.fine.le, A.fine.tup, r, ?_⟩
  cases e : m ds with
  | ok d =>
    rw [e] at q
    exact fun v G' H' s l t gr tp rv => q v G' H' s t (A.call s t l gr tp) rv
  | ex y => rw [e] at q; exact q
  | stuck => rw [e] at q; exact q
theorem call_false {B : Bs} {G H : Hp} {c : Env} {σ : L2.St} {fp : List Addr} {vs : List V} {ds : List D} {Q : VK} {Ex : XK} (F : FnM X.prog X.w X.K X.mg X.base k f fd ps m) (A : Abs ⟨X.K, X.mg⟩ B G H c σ fp) (r : RpL ⟨X.K, X.mg⟩ H vs ds) (hl : ds.length = ps.length)
    (q : Res ⟨X.K, X.mg⟩ W B c σ fp G H (noX (m ds)) (Post ⟨X.K, X.mg⟩ B c σ fp G H false Q)) : spM ⟨X.K, X.mg⟩ ps.length m vs H Q Ex := by
  refine ⟨H, ds, by rw [r.length]; exact hl, Same.refl _, fun _ _ e _ => e, r, ?_⟩
  cases e : m ds with
  | ok d =>
    rw [e] at q
    intro v G' H' s l t gr tp rv
    let G2 : Hp := fun a => if H a = none then G' a else G a
    have g1 : ∀ a, H a = none → G2 a = G' a := fun a h => if_pos h
    have g2 : ∀ a, H a ≠ none → G2 a = G a := fun a h => if_neg h
    have ne : ∀ a o, H a = some o → H a ≠ none := fun a o h z => by rw [h] at z; cases z
    refine q v G2 H' (fun a o ha => ?_) t (A.call (fun a o ha => ?_) t (fun a o ha => ?_) (fun a h1 h2 => ?_) fun a u h1 h2 => ?_) (rv.mono l)
    · rw [g2 a (ne a o (A.fine.le a o ha))]; exact ha
    · rw [g2 a (ne a o (A.fine.le a o ha))]; exact ha
    · by_cases h : H a = none
      · rw [g1 a h] at ha; exact l a o ha
      · rw [g2 a h] at ha; exact t a o (A.fine.le a o ha)
    · rw [g2 a h1]; exact h2
    · by_cases h : H a = none
      · rw [g1 a h]; exact tp a u h1 h2
      · rw [g2 a h]
        cases hh : H a with
        | none => exact absurd hh h
        | some o =>
          have := t a o hh
          rw [h1] at this
          cases this
          exact A.fine.tup a u hh h2
  | ex y => rw [e] at q; exact q
  | stuck => rw [e] at q; exact q
/-- how many arguments -/
def eArgs (n : Nat) (gs : Env → R (List D)) : Env → R (List D) := fun c => gs c >>= fun ds => if ds.length = n then .ok ds else .stuck
theorem px_call (F : FnM X.prog X.w X.K X.mg X.base k f fd ps m) (hr : Room k X.A) (hm : X.mg x = some (.ref f)) (hk : PySem.W.keepIn X.K (.ref f) = true) (hb : Binds X.K fd ps []) (ha : PXA X W true (e :: es) gs) (hn : ∀ c ds, gs c = .ok ds → ds.length = ps.length) (hg : Gl X x := by rfl)
    (hdb : (x == ("__debug__" : Str)) = false := by decide) (he : starEach (e :: es) X.env = (false, eval e X.env) :: starEach es X.env := by rfl) (hpl : (backTo pos (starEach es X.env)).any (·.1) = false := by rfl) :
    PX X W true (.Call (.Name x p) (e :: es) [] pos) (eCall m gs) :=
  pe_mono (pe_call F hr hg hm hk hb .nil pass0 ha hdb he hpl) fun σ H Q ⟨B, G, c, fp, A, q⟩ => txa_seq A q fun ds e vs G1 H1 s1 t1 A1 r1 q1 => by
    rw [List.append_nil]
    exact call_true F A1 r1 (hn c ds e) (Res.grow (r := noX (m ds)) q1 (Same.refl _) (Same.refl _) fun d _ z => z.grow s1 t1)
theorem px_callL (F : FnM X.prog X.w X.K X.mg X.base k f fd ps m) (hr : Room k X.A) (hm : X.mg x = some (.ref f)) (hk : PySem.W.keepIn X.K (.ref f) = true) (hb : Binds X.K fd ps []) (ha : PXA X W false (e :: es) gs) (hn : ∀ c ds, gs c = .ok ds → ds.length = ps.length) (hg : Gl X x := by rfl)
    (hdb : (x == ("__debug__" : Str)) = false := by decide) (he : starEach (e :: es) X.env = (false, eval e X.env) :: starEach es X.env := by rfl) (hpl : (backTo pos (starEach es X.env)).any (·.1) = false := by rfl) :
    PX X W false (.Call (.Name x p) (e :: es) [] pos) (eCall m gs) :=
  pe_mono (pe_call F hr hg hm hk hb .nil pass0 ha hdb he hpl) fun σ H Q ⟨B, G, c, fp, A, q⟩ => txa_seq A q fun ds e vs G1 H1 s1 t1 A1 r1 q1 => by
    rw [List.append_nil]
    exact call_false F A1 r1 (hn c ds e) (Res.grow (r := noX (m ds)) q1 (Same.refl _) (Same.refl _) fun d _ z => z.grow s1 t1)
theorem px_call0 (F : FnM X.prog X.w X.K X.mg X.base k f fd [] m) (hr : Room k X.A) (hm : X.mg x = some (.ref f)) (hk : PySem.W.keepIn X.K (.ref f) = true) (hb : Binds X.K fd [] []) (hg : Gl X x := by rfl)
    (hdb : (x == ("__debug__" : Str)) = false := by decide) :
    PX X W true (.Call (.Name x p) [] [] pos) (eCall m eNil) :=
  pe_mono (pe_call0 F hr hg hm hk hb .nil pass0 hdb) fun σ H Q ⟨B, G, c, fp, A, q⟩ => call_true (Ex := E0) F A .nil rfl q
end
theorem len_nil {c : Env} {ds : List D} (h : eNil c = .ok ds) : ds.length = 0 := by cases h; rfl
theorem len_cons {c : Env} {g : Env → R D} {gs : Env → R (List D)} {n : Nat} (k : ∀ ds, gs c = .ok ds → ds.length = n) {ds : List D} (h : eCons g gs c = .ok ds) : ds.length = n + 1 := by
  unfold eCons at h
  obtain ⟨d, _, h⟩ := bind_ok_eq h
  obtain ⟨es, h1, h⟩ := bind_ok_eq h
  cases h
  simp [k es h1]
/-- the law's own promise, of its run -/
theorem law_sp {K : PySem.W.Frag} {mg : Str → Option Value} {m : List D → R D} (hm : ∀ ns : List Int, ns.length ≤ 63 → m [.lst (ns.map D.int)] = .ok (.bl true)) {H : Hp} {a : Addr} {ns : List Int} (hl : ns.length ≤ 63) (hO : Only H) (hS : SqL K H a (ns.map V.int)) :
    spM ⟨K, mg⟩ 1 m [.ref a] H (fun v _ => v = .bl true) fun _ _ _ => False := by
  refine ⟨H, [.lst (ns.map D.int)], rfl, Same.refl _, fun _ _ e _ => e, .cons (.lst hS (RpL.ofInt ns)) .nil, ?_⟩
  rw [hm ns hl]
  intro v G' H' _ _ _ _ _ r
  exact r.blH
end VS

/-! VS: more rules. -/
namespace VS
open PySem PySem.Spec PyProof.Rows L2
section
variable {X : Cx} {W : WX} {pn : List Nat} {b b' b1 b2 b3 : Bool} {a e : Expr} {pos : Pos}
def eNeg (g : Env → R D) : Env → R D := fun c => g c >>= fun d => match d with
  | .int i => .ok (.int (-i))
  | _ => .stuck
theorem px_neg {g : Env → R D} (h : PX X W b a g) : PX X W true (.UnaryOp .USub a pos) (eNeg g) := pe_mono (pe_un un_neg h) fun σ H Q ⟨B, G, c, fp, A, q⟩ => tx_seq A q fun d e v G1 H1 s1 t1 A1 r1 q1 => by
  cases d with
  | int i => exact ⟨i, r1.intH, q1 _ G1 H1 s1 t1 A1 (.int _)⟩
  | _ => exact q1.elim
/-- a < b < c -/
def eChain (f k : D → D → Option D) (ga gb gc : Env → R D) : Env → R D := fun c => ga c >>= fun x => gb c >>= fun y => lift (f x y) >>= fun z => lift (asB z) >>= fun t => if t then gc c >>= fun u => lift (k y u) else .ok (.bl false)
theorem tx_chain {r r' : R2} {f k : D → D → Option D} (hr : Op2Ok ⟨X.K, X.mg⟩ r b1 b2 true f) (hr' : Op2Ok ⟨X.K, X.mg⟩ r' b2 b3 true k) {ga gb gc : Env → R D} : ∀ σ H Q, TX ⟨X.K, X.mg⟩ W true (eChain f k ga gb gc) σ H Q → tChain r r' (TX ⟨X.K, X.mg⟩ W b1 ga) (TX ⟨X.K, X.mg⟩ W b2 gb) (TX ⟨X.K, X.mg⟩ W b3 gc) σ H Q :=
  fun σ H Q ⟨B, G, c, fp, A, q⟩ => tx_seq A q fun d e v G1 H1 s1 t1 A1 r1 q1 => tx_seq A1 q1 fun d2 e2 v2 G2 H2 s2 t2 A2 r2 q2 => by
    cases hf : f d d2 with
    | none => rw [hf] at q2; exact q2.elim
    | some z =>
      rw [hf] at q2
      have q2 : Res ⟨X.K, X.mg⟩ W B c σ fp G2 H2 (lift (asB z) >>= fun t => if t then gc c >>= fun u => lift (k d2 u) else .ok (.bl false)) _ := q2
      cases hz : asB z with
      | none => rw [hz] at q2; exact q2.elim
      | some t =>
        rw [hz] at q2
        have q2 : Res ⟨X.K, X.mg⟩ W B c σ fp G2 H2 (if t = true then gc c >>= fun u => lift (k d2 u) else .ok (.bl false)) _ := q2
        refine hr A2 (vw_mono s2 t2 r1) r2 hf fun v3 G3 H3 s3 t3 A3 r3 => ?_
        refine ⟨t, asB_rp r3 hz, ?_⟩
        cases t with
        | true =>
          rw [if_pos rfl] at q2 ⊢
          refine tx_seq A3 (Res.grow (r := gc c >>= fun u => lift (k d2 u)) q2 s3 t3 fun _ _ z => z) fun d4 e4 v4 G4 H4 s4 t4 A4 r4 q4 => ?_
          obtain ⟨d5, e5, p5⟩ := Res.lift q4
          exact hr' A4 (vw_mono (s3.trans s4) (t3.trans t4) r2) r4 e5 (p5.grow (s1.trans (s2.trans (s3.trans s4))) (t1.trans (t2.trans (t3.trans t4))))
        | false =>
          rw [if_neg (by decide)] at q2 ⊢
          exact (show Post _ _ _ _ _ _ _ _ _ _ from q2) _ G3 H3 (s1.trans (s2.trans s3)) (t1.trans (t2.trans t3)) A3 (.bl _)
theorem px_chain {op op' : CmpOp} {r r' : R2} {f k : D → D → Option D} {eb ec : Expr} (ho : OpR X (compareOp op) r) (ho' : OpR X (compareOp op') r') (hr : Op2Ok ⟨X.K, X.mg⟩ r b1 b2 true f) (hr' : Op2Ok ⟨X.K, X.mg⟩ r' b2 b3 true k) {ga gb gc : Env → R D} (ha : PX X W b1 a ga) (hb : PX X W b2 eb gb) (hc : PX X W b3 ec gc) (hm : lastMarks [op, op'] [eb, ec] = false := by with_unfolding_all rfl) :
    PX X W true (.Compare a [op, op'] [eb, ec] pos) (eChain f k ga gb gc) := pe_mono (pe_chain ho ho' ha hb hc hm) (tx_chain hr hr')
theorem pxt_chain {op op' : CmpOp} {r r' : R2} {f k : D → D → Option D} {eb ec : Expr} (ho : OpR X (compareOp op) r) (ho' : OpR X (compareOp op') r') (hr : Op2Ok ⟨X.K, X.mg⟩ r b1 b2 true f) (hr' : Op2Ok ⟨X.K, X.mg⟩ r' b2 b3 true k) {ga gb gc : Env → R D} (ha : PX X W b1 a ga) (hb : PX X W b2 eb gb) (hc : PX X W b3 ec gc) (hm : lastMarks [op, op'] [eb, ec] = false := by with_unfolding_all rfl) :
    PXT X W (.Compare a [op, op'] [eb, ec] pos) (eB (eChain f k ga gb gc)) := pt_mono (pt_chain ho ho' ha hb hc hm) fun σ H Q q => tx_chain hr hr' σ H _ (tx_test (b := true) σ H Q q)

/-! ### an item of what a name owns -/
def ixO (o : O) (k : D) : Option D :=
  match o, k with
  | .lst os, .int k => (atI os k).bind fun o => match o with
    | .v d => some d
    | _ => none
  | .v d, k => opIx true d k
  | _, _ => none
def eIxo (i : Nat) (gb : Env → R D) : Env → R D := fun c => match c[i]? with
  | some (some o) => gb c >>= fun k => lift (ixO o k)
  | _ => .stuck
theorem OwnL.get : ∀ {E : Wd} {G H : Hp} {vs : List V} {os : List O} {fp : List Addr} {j : Nat} {o : O}, OwnL E G H vs os fp → os[j]? = some o → ∃ v fq, vs[j]? = some v ∧ Own E G H v o fq
  | _, _, _, _, [], _, j, o, h, e => by simp at e
  | _, _, _, _, o' :: os, _, 0, o, h, e => by
    cases h with
    | cons h r => simp at e; subst e; exact ⟨_, _, rfl, h⟩
  | _, _, _, _, o' :: os, _, j + 1, o, h, e => by
    cases h with
    | cons h r =>
      obtain ⟨v, fq, e1, e2⟩ := OwnL.get (j := j) r (by simpa using e)
      exact ⟨v, fq, by simpa using e1, e2⟩
theorem px_ixo {x : Str} {p : Pos} (i : Nat) {eb : Expr} {gb : Env → R D} (hb : PX X W b eb gb) (hN : X.N[i]? = some x := by rfl) (hv : Vis X.env.scope x := by first | exact Or.inl rfl | exact Or.inr (Or.inl rfl) | exact Or.inr (Or.inr rfl)) (hd : (x == ("__debug__" : Str)) = false := by decide)
    (hcd : (x == ("__classdict__" : Str)) = false := by decide) (hs : PlainIx eb := by exact fun _ _ => rfl) : PX X W true (.Subscript (.Name x p) eb pos) (eIxo i gb) :=
  pe_mono (pe_ix ix_seq (pe_var hN hv hd hcd) hb hs) fun σ H Q ⟨B, G, c, fp, A, q⟩ => by
    unfold eIxo at q
    split at q
    · rename_i o e1
      obtain ⟨v, fq, h1, h2, _⟩ := A.cells.get e1
      refine ⟨v, h1, tx_seq A q fun k e3 w G1 H1 s1 t1 A1 r1 q1 => ?_⟩
      obtain ⟨d, e4, p4⟩ := Res.lift q1
      obtain ⟨v', fq', h1', h2', _⟩ := A1.cells.get e1
      rw [h1] at h1'
      cases h1'
      unfold ixO at e4
      split at e4
      · rename_i os k
        obtain ⟨o', e5, e6⟩ := Option.bind_eq_some_iff.mp e4
        cases h2' with
        | @lst a vs _ fq ha ho =>
          unfold atI at e5
          obtain ⟨j, e7, e8⟩ := Option.bind_eq_some_iff.mp e5
          obtain ⟨v8, f8, e9, e10⟩ := ho.get e8
          split at e6
          · cases e6
            cases e10 with
            | v rv =>
              refine .inl ⟨a, vs, k, v8, rfl, r1.intH, .inl (.inl ha), ?_, p4 _ G1 H1 s1 t1 A1 rv⟩
              unfold atI
              rw [ho.length, e7]
              exact e9
          · cases e6
      · rename_i dk
        cases h2' with
        | v rv => exact ok_ix (b := true) A1 rv r1 e4 (p4.grow s1 t1)
      · cases e4
    · exact q.elim
/-- an item at the loan's level -/
theorem ok_ixL : Op2Ok ⟨X.K, X.mg⟩ (rIx X.K) false b2 false (opIx true) := by
  intro B G H c σ fp x y dx dy d Q A rx ry e p
  unfold opIx at e
  split at e
  · rename_i ds i
    obtain ⟨d', hk, e⟩ := Option.bind_eq_some_iff.mp e
    simp at e
    subst e
    obtain ⟨a, vs, rfl, h1, r1⟩ := rx.lstH A.fine.le
    obtain ⟨v, hv, rv⟩ := r1.at hk
    exact .inl ⟨_, _, _, _, rfl, ry.intH, h1, hv, p.here A rv⟩
  · rename_i ds i
    obtain ⟨d', hk, e⟩ := Option.bind_eq_some_iff.mp e
    simp at e
    subst e
    obtain ⟨a, vs, rfl, h1, r1⟩ := rx.tupH A.fine.le
    obtain ⟨v, hv, rv⟩ := r1.at hk
    exact .inr (.inl ⟨_, _, _, _, rfl, ry.intH, h1, hv, p.here A rv⟩)
  · rename_i l i
    split at e
    · rename_i hl
      obtain ⟨z, hk, rfl⟩ := Option.map_eq_some_iff.mp e
      exact .inr (.inr ⟨_, _, z, rx.strH, ry.intH, by rw [S_len, sizeLine_eq]; exact hl, hk, p.here A (.str [z])⟩)
    · cases e
  · cases e
theorem px_ixL {eb : Expr} {ga gb : Env → R D} (ha : PX X W false a ga) (hb : PX X W b2 eb gb) (hs : PlainIx eb := by exact fun _ _ => rfl) : PX X W false (.Subscript a eb pos) (eOp2 (opIx true) ga gb) :=
  pe_mono (pe_ix ix_seq ha hb hs) (tx_op2 ok_ixL)
end
/-! ### a def by its name -/
structure Cal (P : Program) (w : World) (K : PySem.W.Frag) (mg : Str → Option Value) (base : Heap) (k : Nat) (x : Str) (ps : List Str) (m : List D → R D) : Prop where
  ex : ∃ f fd, FnM P w K mg base k f fd ps m ∧ mg x = some (.ref f) ∧ PySem.W.keepIn K (.ref f) = true ∧ L2.Binds K fd ps []
/-- where a def of the text stands -/
structure Def (K : PySem.W.Frag) (mg : Str → Option Value) (x : Str) (st : Stmt) : Prop where
  ex : ∃ f fd, Fun K x x st f fd ∧ mg x = some (.ref f)
section
variable {X : Cx} {W : WX} {k j : Nat} {ps : List Str} {x : Str} {p pos : Pos} {e : Expr} {es : List Expr} {gs : Env → R (List D)} {m : List D → R D}
theorem px_callC (C : Cal X.prog X.w X.K X.mg X.base k x ps m) (hr : Room j X.A) (hkj : k ≤ j) (ha : PXA X W true (e :: es) gs) (hn : ∀ c ds, gs c = .ok ds → ds.length = ps.length) (hg : Gl X x := by rfl)
    (hdb : (x == ("__debug__" : Str)) = false := by decide) (he : starEach (e :: es) X.env = (false, eval e X.env) :: starEach es X.env := by rfl) (hpl : (backTo pos (starEach es X.env)).any (·.1) = false := by rfl) :
    PX X W true (.Call (.Name x p) (e :: es) [] pos) (eCall m gs) := by
  obtain ⟨f, fd, F, hm, hk, hb⟩ := C.ex
  exact px_call F (hr.mono hkj) hm hk hb ha hn hg hdb he hpl
theorem px_callCL (C : Cal X.prog X.w X.K X.mg X.base k x ps m) (hr : Room j X.A) (hkj : k ≤ j) (ha : PXA X W false (e :: es) gs) (hn : ∀ c ds, gs c = .ok ds → ds.length = ps.length) (hg : Gl X x := by rfl)
    (hdb : (x == ("__debug__" : Str)) = false := by decide) (he : starEach (e :: es) X.env = (false, eval e X.env) :: starEach es X.env := by rfl) (hpl : (backTo pos (starEach es X.env)).any (·.1) = false := by rfl) :
    PX X W false (.Call (.Name x p) (e :: es) [] pos) (eCall m gs) := by
  obtain ⟨f, fd, F, hm, hk, hb⟩ := C.ex
  exact px_callL F (hr.mono hkj) hm hk hb ha hn hg hdb he hpl
theorem px_callC0 (C : Cal X.prog X.w X.K X.mg X.base k x [] m) (hr : Room j X.A) (hkj : k ≤ j) (hg : Gl X x := by rfl)
    (hdb : (x == ("__debug__" : Str)) = false := by decide) :
    PX X W true (.Call (.Name x p) [] [] pos) (eCall m eNil) := by
  obtain ⟨f, fd, F, hm, hk, hb⟩ := C.ex
  exact px_call0 F (hr.mono hkj) hm hk hb hg hdb
end
section
variable {P : Program} {w : World} {K : PySem.W.Frag} {mg : Str → Option Value} {base : Heap}
theorem cal_of {x : Str} {st : Stmt} {N ps : List Str} {k : Nat} {body : Env → Rs} (T : Def K mg x st) (S : FnScope N ps (defScope st))
    (hb : ∀ (kV doc pm : Value) (an : Option Addr) (cdv ct : Value) (us : List Value), us.length = ps.length → bindArgs (PySem.W.fnOf x x (defArgs st) (defBody st) (defScope st) .none kV doc pm an cdv ct) ⟨us, []⟩ = pure (ps.zip us))
    (hbody : ∀ (f : Addr) (cdv : Value) (A : Around) (outer : List PySem.Env) (s : Shared) (H : Hp) (E : XK), Room k (A.deeper (envOfC x (defScope st) s.heap.objs.size f cdv)) → PXSs (cxOf CX0 P w K mg base N x (defScope st) f cdv A outer s H E).nox W0 [] (defBody st) body) :
    Cal P w K mg base (k + 1) x ps (runF N.length body) := by
  obtain ⟨f, fd, F, g⟩ := T.ex
  exact ⟨f, fd, fnm_of F S (hbody f), g, F.kp, F.binds hb⟩
theorem Cal.mono {x : Str} {ps : List Str} {k j : Nat} {m : List D → R D} (C : Cal P w K mg base k x ps m) (h : k ≤ j) : Cal P w K mg base j x ps m := by
  obtain ⟨f, fd, F, g, kp, b⟩ := C.ex
  exact ⟨f, fd, F.mono h, g, kp, b⟩
/-- a def that is never called so deep -/
theorem cal_stuck {x : Str} {st : Stmt} {ps : List Str} {k : Nat} (T : Def K mg x st)
    (hb : ∀ (kV doc pm : Value) (an : Option Addr) (cdv ct : Value) (us : List Value), us.length = ps.length → bindArgs (PySem.W.fnOf x x (defArgs st) (defBody st) (defScope st) .none kV doc pm an cdv ct) ⟨us, []⟩ = pure (ps.zip us)) : Cal P w K mg base k x ps (fun _ => .stuck) := by
  obtain ⟨f, fd, F, g⟩ := T.ex
  exact ⟨f, fd, ⟨fun vs H Q E h => h.choose_spec.choose_spec.1, fun A outer s H args us vs Q E hr e0 hb r h => by
    obtain ⟨G, ds, _, _, _, _, q⟩ := h
    exact q.elim⟩, g, F.kp, F.binds hb⟩
end
end VS

/-! VS: reckoning with the worth of programs, in plain Lean. -/
namespace VS
open PySem PySem.Spec PyProof.Rows L2

/-! ### what the words are worth -/
@[simp] theorem eV_def (i : Nat) (c : Env) : eV i c = match c[i]? with | some (some (.v d)) => .ok d | _ => .stuck := (rfl)
@[simp] theorem eL_def (i : Nat) (c : Env) : eL i c = match c[i]? with | some (some o) => .ok o.toD | _ => .stuck := (rfl)
@[simp] theorem eC_def (d : D) (c : Env) : eC d c = .ok d := (rfl)
@[simp] theorem eNil_def (c : Env) : eNil c = .ok [] := (rfl)
@[simp] theorem eCons_def (g : Env → R D) (gs : Env → R (List D)) (c : Env) : eCons g gs c = g c >>= fun d => gs c >>= fun ds => .ok (d :: ds) := (rfl)
@[simp] theorem eFn_def (f : List D → Option D) (gs : Env → R (List D)) (c : Env) : eFn f gs c = gs c >>= fun ds => lift (f ds) := (rfl)
@[simp] theorem eFnO_def (f : List D → Option O) (gs : Env → R (List D)) (c : Env) : eFnO f gs c = gs c >>= fun ds => lift (f ds) := (rfl)
@[simp] theorem eOp2_def (f : D → D → Option D) (ga gb : Env → R D) (c : Env) : eOp2 f ga gb c = ga c >>= fun x => gb c >>= fun y => lift (f x y) := (rfl)
@[simp] theorem eB_def (g : Env → R D) (c : Env) : eB g c = g c >>= fun d => lift (asB d) := (rfl)
@[simp] theorem asB_bl (t : Bool) : asB (.bl t) = some t := (rfl)
@[simp] theorem eTru_def (g : Env → R D) (c : Env) : eTru g c = g c >>= fun d => lift (truD d) := (rfl)
@[simp] theorem truD_bl (t : Bool) : truD (.bl t) = some t := (rfl)
@[simp] theorem truD_non : truD .non = some false := (rfl)
@[simp] theorem truD_int (i : Int) : truD (.int i) = some (i != 0) := (rfl)
@[simp] theorem tAnd_def (g k : Env → R Bool) (c : Env) : tAnd' g k c = g c >>= fun t => if t then k c else .ok false := (rfl)
@[simp] theorem tOr_def (g k : Env → R Bool) (c : Env) : tOr' g k c = g c >>= fun t => if t then .ok true else k c := (rfl)
@[simp] theorem tNot_def (g : Env → R Bool) (c : Env) : tNot' g c = g c >>= fun t => .ok (!t) := (rfl)
@[simp] theorem tYes_def (c : Env) : tYes' c = .ok true := (rfl)
@[simp] theorem eAnd_def (ga gb : Env → R D) (c : Env) : eAnd ga gb c = ga c >>= fun d => lift (asB d) >>= fun t => if t then gb c else .ok (.bl false) := (rfl)
@[simp] theorem eOr_def (ga gb : Env → R D) (c : Env) : eOr ga gb c = ga c >>= fun d => lift (asB d) >>= fun t => if t then .ok (.bl true) else gb c := (rfl)
@[simp] theorem eNot_def (ga : Env → R D) (c : Env) : eNot ga c = ga c >>= fun d => lift (asB d) >>= fun t => .ok (.bl !t) := (rfl)
@[simp] theorem eIf_def (g : Env → R Bool) (ga gb : Env → R D) (c : Env) : eIf g ga gb c = g c >>= fun t => if t then ga c else gb c := (rfl)
@[simp] theorem eIs_def (T : Ty) (g : Env → R D) (c : Env) : eIs T g c = g c >>= fun d => lift ((isI T d).map D.bl) := (rfl)
@[simp] theorem eFlat_def (g : Env → R D) (c : Env) : eFlat g c = g c >>= fun d => if d.flat then .ok d else .stuck := (rfl)
@[simp] theorem eNeg_def (g : Env → R D) (c : Env) : eNeg g c = g c >>= fun d => match d with | .int i => .ok (.int (-i)) | _ => .stuck := (rfl)
@[simp] theorem eO_def (g : Env → R D) (c : Env) : eO g c = g c >>= fun d => match d with | .int i => .ok (some i) | _ => .stuck := (rfl)
@[simp] theorem eNoO_def (c : Env) : eNoO c = .ok none := (rfl)
@[simp] theorem eSl_def (b : Bool) (g : Env → R D) (gl gh : Env → R (Option Int)) (c : Env) : eSl b g gl gh c = g c >>= fun d => gl c >>= fun lo => gh c >>= fun hi => lift (opSl b d lo hi) := (rfl)
@[simp] theorem eMS_def (f : List Nat → List D → Option D) (g : Env → R D) (gs : Env → R (List D)) (c : Env) : eMS f g gs c = g c >>= fun d => lift (asS d) >>= fun l => gs c >>= fun ds => lift (f l ds) := (rfl)
@[simp] theorem asS_str (l : List Nat) : asS (.str l) = some l := (rfl)
@[simp] theorem eCall_def (m : List D → R D) (gs : Env → R (List D)) (c : Env) : eCall m gs c = gs c >>= fun ds => noX (m ds) := (rfl)
@[simp] theorem eIxo_def (i : Nat) (gb : Env → R D) (c : Env) : eIxo i gb c = match c[i]? with | some (some o) => gb c >>= fun k => lift (ixO o k) | _ => .stuck := (rfl)
@[simp] theorem eChain_def (f k : D → D → Option D) (ga gb gc : Env → R D) (c : Env) : eChain f k ga gb gc c = ga c >>= fun x => gb c >>= fun y => lift (f x y) >>= fun z => lift (asB z) >>= fun t => if t then gc c >>= fun u => lift (k y u) else .ok (.bl false) := (rfl)
@[simp] theorem eIt_def (b : Bool) (ga : Env → R D) (c : Env) : eIt b ga c = ga c >>= fun d => lift (asA b d) := (rfl)
@[simp] theorem eItR_def (ga gb : Env → R D) (c : Env) : eItR ga gb c = ga c >>= fun d => lift (asI d) >>= fun lo => gb c >>= fun d2 => lift (asI d2) >>= fun hi => .ok (rangeD lo hi) := (rfl)
@[simp] theorem eLc_def (gs : Env → R (List D)) (t : Env → R Bool) (g : Env → R D) (i : Nat) (c : Env) : eLc gs t g i c = eLcs gs t g i c >>= fun es => .ok (.lst es) := (rfl)
@[simp] theorem eLcO_def (gs : Env → R (List D)) (t : Env → R Bool) (g : Env → R D) (i : Nat) (c : Env) : eLcO gs t g i c = eLcs gs t g i c >>= fun es => .ok (.lst (es.map O.v)) := (rfl)
@[simp] theorem eLcs_def (gs : Env → R (List D)) (t : Env → R Bool) (g : Env → R D) (i : Nat) (c : Env) : eLcs gs t g i c = gs c >>= fun ds => compL t g i c ds >>= fun es => if es.length ≤ 16777216 then .ok es else .stuck := (rfl)
@[simp] theorem sNil_def (c : Env) : sNil c = .ok .nx c := (rfl)
@[simp] theorem sSeq_def (g k : Env → Rs) (c : Env) : sSeq g k c = match g c with | .ok .nx c' => k c' | r => r := (rfl)
@[simp] theorem sSet_def (i : Nat) (g : Env → R D) (c : Env) : sSet i g c = (g c).st c fun d => .ok .nx (c.set i (some (.v d))) := (rfl)
@[simp] theorem sSetO_def (i : Nat) (g : Env → R O) (c : Env) : sSetO i g c = (g c).st c fun o => .ok .nx (c.set i (some o)) := (rfl)
@[simp] theorem sRet_def (g : Env → R D) (c : Env) : sRet g c = (g c).st c fun d => .ok (.rt d) c := (rfl)
@[simp] theorem sRetN_def (c : Env) : sRetN c = .ok (.rt .non) c := (rfl)
@[simp] theorem sExpr_def (g : Env → R D) (c : Env) : sExpr g c = (g c).st c fun _ => .ok .nx c := (rfl)
@[simp] theorem sIf_def (t : Env → R Bool) (g k : Env → Rs) (c : Env) : sIf t g k c = (t c).st c fun b => if b then g c else k c := (rfl)
@[simp] theorem sBreak_def (c : Env) : sBreak c = .ok .bk c := (rfl)
@[simp] theorem sCont_def (c : Env) : sCont c = .ok .ct c := (rfl)
@[simp] theorem sApp_def (i : Nat) (g : Env → R D) (c : Env) : sApp i g c = (lift (atL i c)).st c fun os => (g c).st c fun d => if os.length < 16777216 then .ok .nx (c.set i (some (.lst (os ++ [.v d])))) else .stuck := (rfl)
@[simp] theorem sIxSet_def (i : Nat) (gi g : Env → R D) (c : Env) : sIxSet i gi g c = (g c).st c fun d => (lift (atL i c)).st c fun os => (gi c).st c fun k => match k with
  | .int k => (lift (ixN os.length k)).st c fun j => .ok .nx (c.set i (some (.lst (os.set j (.v d)))))
  | _ => .stuck := (rfl)
@[simp] theorem atL_def (i : Nat) (c : Env) : atL i c = match c[i]? with | some (some (.lst os)) => some os | _ => none := (rfl)
@[simp] theorem sFz_def (i : Nat) (g : Env → Rs) (c : Env) : sFz i g c = g (fz i c) := (rfl)
@[simp] theorem fz_def (i : Nat) (c : Env) : fz i c = match c[i]? with | some (some o) => c.set i (some (.v o.toD)) | _ => c := (rfl)
@[simp] theorem sFor_def (i : Nat) (gs : Env → R (List D)) (g : Env → Rs) (c : Env) : sFor i gs g c = (gs c).st c fun ds => forL i g ds c := (rfl)
@[simp] theorem toD_v (d : D) : (O.v d).toD = d := by rw [O.toD]
@[simp] theorem toD_lst (os : List O) : (O.lst os).toD = .lst (os.map O.toD) := by rw [O.toD, O.toDs_map]
@[simp] theorem map_toD_v (ds : List D) : (ds.map O.v).map O.toD = ds := by
  rw [List.map_map]
  have h : (O.toD ∘ O.v : D → D) = id := by funext x; rw [Function.comp_apply, O.toD, id]
  rw [h, List.map_id]
@[simp] theorem compToD {α : Type} (f : α → D) : O.toD ∘ (fun x => O.v (f x)) = f := by funext x; simp
@[simp] theorem compToD' : O.toD ∘ O.v = id := by funext x; simp
@[simp] theorem opAdd_int (b1 b2 : Bool) (i j : Int) : opAdd b1 b2 (.int i) (.int j) = some (.int (i + j)) := (rfl)
@[simp] theorem opAdd_str (b1 b2 : Bool) (x y : List Nat) : opAdd b1 b2 (.str x) (.str y) = if x.length + y.length ≤ 16777216 then some (.str (x ++ y)) else none := (rfl)
@[simp] theorem opAdd_lst (b1 b2 : Bool) (x y : List D) : opAdd b1 b2 (.lst x) (.lst y) = if x.length + y.length ≤ 16777216 ∧ okEl b1 x = true ∧ okEl b2 y = true then some (.lst (x ++ y)) else none := (rfl)
@[simp] theorem opSub_int (i j : Int) : opSub (.int i) (.int j) = some (.int (i - j)) := (rfl)
@[simp] theorem opMul_int (i j : Int) : opMul (.int i) (.int j) = if (-(2 ^ 64) < i ∧ i < 2 ^ 64) ∨ (-(2 ^ 64) < j ∧ j < 2 ^ 64) then some (.int (i * j)) else none := (rfl)
@[simp] theorem opMod_int (i j : Int) : opMod (.int i) (.int j) = if 0 < j then some (.int (i % j)) else none := (rfl)
@[simp] theorem opDiv_int (i j : Int) : opDiv (.int i) (.int j) = if 0 < j ∧ j < 1073741824 then some (.int (i / j)) else none := (rfl)
@[simp] theorem opRel_int (f : Int → Int → Bool) (i j : Int) : opRel f (.int i) (.int j) = some (.bl (f i j)) := (rfl)
@[simp] theorem opIs_non (d : D) : opIs d .non = some (.bl d.isNon) := (rfl)
@[simp] theorem opIsnt_non (d : D) : opIsnt d .non = some (.bl (!d.isNon)) := (rfl)
@[simp] theorem isNon_non : D.isNon .non = true := (rfl)
@[simp] theorem isNon_str (l : List Nat) : D.isNon (.str l) = false := (rfl)
@[simp] theorem isNon_int (i : Int) : D.isNon (.int i) = false := (rfl)
@[simp] theorem isNon_bl (i : Bool) : D.isNon (.bl i) = false := (rfl)
@[simp] theorem isNon_tup (i : List D) : D.isNon (.tup i) = false := (rfl)
@[simp] theorem isNon_lst (i : List D) : D.isNon (.lst i) = false := (rfl)
@[simp] theorem fLen_lst (ds : List D) : fLen [.lst ds] = some (.int ds.length) := (rfl)
@[simp] theorem fLen_tup (ds : List D) : fLen [.tup ds] = some (.int ds.length) := (rfl)
@[simp] theorem fLen_str (l : List Nat) : fLen [.str l] = if l.length ≤ 16777216 then some (.int l.length) else none := (rfl)
@[simp] theorem fAbs_int (i : Int) : fAbs [.int i] = some (.int (if i < 0 then -i else i)) := (rfl)
@[simp] theorem fInt_bl (t : Bool) : fInt [.bl t] = some (.int (if t then 1 else 0)) := (rfl)
@[simp] theorem fMin2_int (i j : Int) : fMin2 [.int i, .int j] = some (.int (if j < i then j else i)) := (rfl)
@[simp] theorem fMax2_int (i j : Int) : fMax2 [.int i, .int j] = some (.int (if j > i then j else i)) := (rfl)
@[simp] theorem fTuple_lst (b : Bool) (ds : List D) : fTuple b [.lst ds] = if okEl b ds then some (.tup ds) else none := (rfl)
@[simp] theorem fTuple_tup (b : Bool) (ds : List D) : fTuple b [.tup ds] = if okEl b ds then some (.tup ds) else none := (rfl)
@[simp] theorem fList_lst (b : Bool) (ds : List D) : fList b [.lst ds] = if okEl b ds then some (.lst ds) else none := (rfl)
@[simp] theorem fList_tup (b : Bool) (ds : List D) : fList b [.tup ds] = if okEl b ds then some (.lst ds) else none := (rfl)
@[simp] theorem fSum_lst (ds : List D) : fSum [.lst ds] = (asInts ds).map fun ns => .int ns.sum := (rfl)
@[simp] theorem opIx_lst (b : Bool) (ds : List D) (i : Int) : opIx b (.lst ds) (.int i) = (L2.atI ds i).bind fun d => if okE b d then some d else none := (rfl)
@[simp] theorem opIx_tup (b : Bool) (ds : List D) (i : Int) : opIx b (.tup ds) (.int i) = (L2.atI ds i).bind fun d => if okE b d then some d else none := (rfl)
@[simp] theorem opIx_str (b : Bool) (l : List Nat) (i : Int) : opIx b (.str l) (.int i) = if l.length ≤ 16777216 then (L2.atI l i).map fun x => .str [x] else none := (rfl)
@[simp] theorem opSl_lst (b : Bool) (ds : List D) (lo hi : Option Int) : opSl b (.lst ds) lo hi = if okEl b (cutD ds lo hi) then some (.lst (cutD ds lo hi)) else none := (rfl)
@[simp] theorem opSl_tup (b : Bool) (ds : List D) (lo hi : Option Int) : opSl b (.tup ds) lo hi = if okEl b (cutD ds lo hi) then some (.tup (cutD ds lo hi)) else none := (rfl)
@[simp] theorem opSl_str (b : Bool) (l : List Nat) (lo hi : Option Int) : opSl b (.str l) lo hi = if l.length ≤ 16777216 then some (.str (cutD l lo hi)) else none := (rfl)
@[simp] theorem ixO_lst (os : List O) (k : Int) : ixO (.lst os) (.int k) = (L2.atI os k).bind fun o => match o with | .v d => some d | _ => none := (rfl)
@[simp] theorem ixO_v (d k : D) : ixO (.v d) k = opIx true d k := by cases k <;> rfl
@[simp] theorem fLstO_def (ds : List D) : fLstO ds = if ds.length ≤ 16777216 then some (.lst (ds.map O.v)) else none := (rfl)
@[simp] theorem fLst_def (ds : List D) : fLst ds = if ds.length ≤ 16777216 then some (.lst ds) else none := (rfl)
@[simp] theorem fTup_def (ds : List D) : fTup ds = if ds.length ≤ 16777216 then some (.tup ds) else none := (rfl)
@[simp] theorem asA_lst (b : Bool) (ds : List D) : asA b (.lst ds) = if okEl b ds then some ds else none := (rfl)
@[simp] theorem asA_tup (b : Bool) (ds : List D) : asA b (.tup ds) = if okEl b ds then some ds else none := (rfl)
@[simp] theorem asA_str (b : Bool) (l : List Nat) : asA b (.str l) = if l.length ≤ 16777216 then some (l.map fun x => .str [x]) else none := (rfl)
@[simp] theorem asI_int (i : Int) : asI (.int i) = if -(2 ^ 62) ≤ i ∧ i < 2 ^ 62 then some i else none := (rfl)
@[simp] theorem fJoin_lst (l : List Nat) (ds : List D) : fJoin l [.lst ds] = (asSs ds).bind fun xs => if (xs.map List.length).sum + xs.length * l.length ≤ 16777216 then some (.str (TL.joinL l xs)) else none := (rfl)
@[simp] theorem compL_nil (t : Env → R Bool) (g : Env → R D) (i : Nat) (c : Env) : compL t g i c [] = .ok [] := (rfl)
theorem compL_cons (t : Env → R Bool) (g : Env → R D) (i : Nat) (c : Env) (d : D) (ds : List D) : compL t g i c (d :: ds) = (noX (t (c.set i (some (.v d)))) >>= fun b => if b then noX (g (c.set i (some (.v d)))) >>= fun x => compL t g i c ds >>= fun xs => .ok (x :: xs) else compL t g i c ds) := (rfl)
@[simp] theorem forL_nil (i : Nat) (g : Env → Rs) (c : Env) : forL i g [] c = .ok .nx c := (rfl)
theorem forL_cons (i : Nat) (g : Env → Rs) (d : D) (ds : List D) (c : Env) : forL i g (d :: ds) c = match g (c.set i (some (.v d))) with
    | .ok .nx c' => forL i g ds c'
    | .ok .ct c' => forL i g ds c'
    | .ok .bk c' => .ok .nx c'
    | r => r := (rfl)
theorem runF_def (n : Nat) (body : Env → Rs) (ds : List D) : runF n body ds = match body (ds.map (fun d => some (O.v d)) ++ List.replicate (n - ds.length) none) with
  | .ok (.rt d) _ => .ok d
  | .ok .nx _ => .ok .non
  | .ex e _ => .ex e
  | _ => .stuck := (rfl)

/-! ### places -/
theorem atI_ofNat {α : Type} (xs : List α) (k : Nat) : L2.atI xs (k : Int) = xs[k]? := by
  unfold L2.atI L2.ixN
  rw [if_pos (Int.natCast_nonneg k)]
  by_cases h : (k : Int) < xs.length
  · rw [if_pos h]; rfl
  · rw [if_neg h]
    have : xs.length ≤ k := by omega
    rw [List.getElem?_eq_none this]; rfl
theorem atI_pos {α : Type} (xs : List α) {i : Int} (h : 0 ≤ i) : L2.atI xs i = xs[i.toNat]? := by
  have := atI_ofNat xs i.toNat
  rwa [Int.toNat_of_nonneg h] at this
theorem ixN_pos {n : Nat} {i : Int} (h : 0 ≤ i) (k : i < n) : L2.ixN n i = some i.toNat := by
  unfold L2.ixN
  rw [if_pos h, if_pos k]
theorem sIx_nat' (n d k : Nat) : HT.sIx n d (some (k : Int)) = min k n := HT.sIx_nat n d k
theorem cut_nat {α : Type} (xs : List α) (i j : Nat) : cutD xs (some (i : Int)) (some (j : Int)) = (xs.drop (min i xs.length)).take (min j xs.length - min i xs.length) := by
  unfold cutD
  rw [HT.sIx_nat, HT.sIx_nat]
theorem cut_to {α : Type} (xs : List α) (j : Nat) : cutD xs none (some (j : Int)) = xs.take j := by
  unfold cutD
  rw [HT.sIx_nat, HT.sIx_none]
  simp
theorem cut_from {α : Type} (xs : List α) (i : Nat) : cutD xs (some (i : Int)) none = xs.drop i := by
  unfold cutD
  rw [HT.sIx_nat, HT.sIx_none]
  by_cases h : i ≤ xs.length
  · rw [Nat.min_eq_left h]
    exact List.take_of_length_le (by simp)
  · rw [Nat.min_eq_right (by omega)]
    simp
    omega
theorem rangeD_nat (n : Nat) : rangeD 0 (n : Int) = (List.range n).map fun (k : Nat) => D.int k := by
  unfold rangeD
  simp
/-! ### loops -/
/-- a loop whose turns all go on; slot i apart -/
theorem forL_inv (i : Nat) (g : Env → Rs) (ds : List D) (I : Nat → Env) (h : ∀ j d, ds[j]? = some d → ∃ c', g ((I j).set i (some (.v d))) = .ok .nx c' ∧ ∀ x, c'.set i x = (I (j + 1)).set i x) :
    ∃ x, forL i g ds (I 0) = .ok .nx ((I ds.length).set i x) := by
  have self : ∀ c : Env, ∃ x, c = c.set i x := fun c => by
    by_cases hi : i < c.length
    · exact ⟨c[i], (List.set_getElem_self hi).symm⟩
    · exact ⟨none, (List.set_eq_of_length_le (by omega)).symm⟩
  have main : ∀ (n j : Nat) (c : Env), j + n = ds.length → (∃ x, c = (I j).set i x) → ∃ x, forL i g (ds.drop j) c = .ok .nx ((I ds.length).set i x) := by
    intro n
    induction n with
    | zero =>
      intro j c hj ⟨x, hc⟩
      have : j = ds.length := by omega
      subst this
      rw [List.drop_length, hc]
      exact ⟨x, rfl⟩
    | succ n ih =>
      intro j c hj ⟨x, hc⟩
      have hlt : j < ds.length := by omega
      have hd := List.getElem?_eq_getElem hlt
      rw [drop_cons hd, forL_cons]
      obtain ⟨c', h1, h2⟩ := h j _ hd
      rw [hc, List.set_set, h1]
      obtain ⟨y, hy⟩ := self c'
      exact ih (j + 1) c' (by omega) ⟨y, by rw [← h2 y]; exact hy⟩
  obtain ⟨x, hx⟩ := self (I 0)
  have := main ds.length 0 (I 0) (by omega) ⟨x, hx⟩
  simpa using this
/-- a comprehension without a test -/
theorem compL_map (g : Env → R D) (i : Nat) (c : Env) (f : D → D) : ∀ (ds : List D), (∀ d ∈ ds, g (c.set i (some (.v d))) = .ok (f d)) → compL tYes' g i c ds = .ok (ds.map f)
  | [], _ => rfl
  | d :: ds, h => by
    rw [compL_cons, tYes_def]
    simp only [noX_ok, ok_bind, if_true]
    rw [h d List.mem_cons_self, compL_map g i c f ds fun d hd => h d (List.mem_cons_of_mem _ hd)]
    rfl
/-- .. with one -/
theorem compL_filter (t : Env → R Bool) (g : Env → R D) (i : Nat) (c : Env) (p : D → Bool) (f : D → D) : ∀ (ds : List D), (∀ d ∈ ds, t (c.set i (some (.v d))) = .ok (p d)) → (∀ d ∈ ds, p d = true → g (c.set i (some (.v d))) = .ok (f d)) → compL t g i c ds = .ok ((ds.filter p).map f)
  | [], _, _ => rfl
  | d :: ds, h, k => by
    have ih := compL_filter t g i c p f ds (fun d hd => h d (List.mem_cons_of_mem _ hd)) fun d hd => k d (List.mem_cons_of_mem _ hd)
    rw [compL_cons, h d List.mem_cons_self]
    simp only [noX_ok, ok_bind]
    cases hp : p d with
    | true =>
      rw [if_pos rfl, k d List.mem_cons_self hp, ih, List.filter_cons_of_pos hp]
      rfl
    | false =>
      rw [if_neg (by decide), ih, List.filter_cons_of_neg (by simp [hp])]
end VS

/-! VS: more reckoning. -/
namespace VS
open PySem PySem.Spec PyProof.Rows L2
@[simp] theorem pln_int (n : Nat) (i : Int) : D.pln n (.int i) = true := by cases n <;> simp [D.pln]
@[simp] theorem pln_bl (n : Nat) (i : Bool) : D.pln n (.bl i) = true := by cases n <;> simp [D.pln]
@[simp] theorem pln_non (n : Nat) : D.pln n .non = true := by cases n <;> simp [D.pln]
@[simp] theorem pln_str (n : Nat) (l : List Nat) : D.pln n (.str l) = l.all (· < 0x110000) := by cases n <;> simp [D.pln]
@[simp] theorem pln_lst (n : Nat) (l : List D) : D.pln (n + 1) (.lst l) = D.plns n l := by simp [D.pln]
@[simp] theorem pln_tup (n : Nat) (l : List D) : D.pln (n + 1) (.tup l) = D.plns n l := by simp [D.pln]
@[simp] theorem eqv_int (i j : Int) : D.eqv (.int i) (.int j) = (i == j) := by simp [D.eqv]
@[simp] theorem eqv_str (i j : List Nat) : D.eqv (.str i) (.str j) = (i == j) := by simp [D.eqv]
mutual
theorem eqv_self : ∀ (n : Nat) (d : D), D.pln n d = true → D.eqv d d = true
  | n, .non, _ => by simp [D.eqv]
  | n, .bl _, _ => by simp [D.eqv]
  | n, .int _, _ => by simp [D.eqv]
  | n, .str _, _ => by simp [D.eqv]
  | 0, .tup _, h => by simp [D.pln] at h
  | 0, .lst _, h => by simp [D.pln] at h
  | n + 1, .tup ds, h => by rw [pln_tup] at h; rw [D.eqv]; exact eqvs_self n ds h
  | n + 1, .lst ds, h => by rw [pln_lst] at h; rw [D.eqv]; exact eqvs_self n ds h
  | n, .dic _ _, h => by simp [D.pln] at h
  | n, .obj _ _ _, h => by simp [D.pln] at h
theorem eqvs_self : ∀ (n : Nat) (ds : List D), D.plns n ds = true → D.eqvs ds ds = true
  | n, [], _ => by simp [D.eqvs]
  | n, d :: ds, h => by
    rw [D.plns, Bool.and_eq_true] at h
    rw [D.eqvs, eqv_self n d h.1, eqvs_self n ds h.2]; rfl
end
@[simp] theorem opEq_int (i j : Int) : opEq (.int i) (.int j) = some (.bl (i == j)) := by simp [opEq]
@[simp] theorem opNe_int (i j : Int) : opNe (.int i) (.int j) = some (.bl (!(i == j))) := by simp [opNe]
@[simp] theorem opNe_bl (i j : Bool) : opNe (.bl i) (.bl j) = some (.bl (!(i == j))) := by simp [opNe, D.eqv]
@[simp] theorem opEq_bl (i j : Bool) : opEq (.bl i) (.bl j) = some (.bl (i == j)) := by simp [opEq, D.eqv]
theorem opEq_self {d : D} (h : D.pln 64 d = true) : opEq d d = some (.bl true) := by simp [opEq, h, eqv_self 64 d h]
/-- a loop all of whose turns go on -/
theorem forL_ex (i : Nat) (g : Env → Rs) (P : Nat → Env → Prop) : ∀ (ds : List D) (c : Env), (∀ j d c, ds[j]? = some d → P j c → ∃ c', g (c.set i (some (.v d))) = .ok .nx c' ∧ P (j + 1) c') → P 0 c → ∃ c', forL i g ds c = .ok .nx c' ∧ P ds.length c' := by
  intro ds c h p
  have main : ∀ (n j : Nat) (c : Env), j + n = ds.length → P j c → ∃ c', forL i g (ds.drop j) c = .ok .nx c' ∧ P ds.length c' := by
    intro n
    induction n with
    | zero =>
      intro j c hj pc
      have : j = ds.length := by omega
      subst this
      rw [List.drop_length]
      exact ⟨c, rfl, pc⟩
    | succ n ih =>
      intro j c hj pc
      have hlt : j < ds.length := by omega
      have hd := List.getElem?_eq_getElem hlt
      rw [drop_cons hd, forL_cons]
      obtain ⟨c', h1, h2⟩ := h j _ c hd pc
      rw [h1]
      exact ih (j + 1) c' (by omega) h2
  simpa using main ds.length 0 c (by omega) p
/-- .. over a range from 0 -/
theorem forL_rg (i : Nat) (g : Env → Rs) (n : Int) (P : Nat → Env → Prop) (c : Env) (h : ∀ (j : Nat) (c : Env), (j : Int) < n → P j c → ∃ c', g (c.set i (some (.v (.int (j : Int))))) = .ok .nx c' ∧ P (j + 1) c') (p : P 0 c) : ∃ c', forL i g (rangeD 0 n) c = .ok .nx c' ∧ P n.toNat c' := by
  have := forL_ex i g P (rangeD 0 n) c (fun j d c hd pc => by
    unfold rangeD at hd
    rw [List.getElem?_map] at hd
    rcases Option.map_eq_some_iff.mp hd with ⟨k, hk, rfl⟩
    rcases List.getElem?_eq_some_iff.mp hk with ⟨hl, rfl⟩
    simp at hl
    simp
    exact h j c (by omega) pc) p
  simpa [rangeD] using this
/-- a while loop all of whose turns go on; m bounds the turns left -/
theorem whileL_ex (t : Env → R Bool) (g : Env → Rs) (P : Nat → Env → Prop) (Q : Env → Prop) (h : ∀ m c, P m c → (t c = .ok false ∧ Q c) ∨ (t c = .ok true ∧ ∃ m' c', m' < m ∧ g c = .ok .nx c' ∧ P m' c')) : ∀ (f m : Nat) (c : Env), m < f → P m c → ∃ c', whileL t g f c = .ok .nx c' ∧ Q c' := by
  intro f
  induction f with
  | zero => intro m c hm; omega
  | succ f ih =>
    intro m c hm p
    rw [whileL]
    rcases h m c p with ⟨ht, q⟩ | ⟨ht, m', c', hlt, hg, p'⟩
    · rw [ht]; exact ⟨c, rfl, q⟩
    · rw [ht, st_ok, if_pos rfl, hg]
      exact ih m' c' (by omega) p'
@[simp] theorem atI_map_int (ns : List Int) (k : Nat) : atI (ns.map D.int) (k : Int) = (ns[k]?).map D.int := by
  rw [atI_ofNat, List.getElem?_map]
theorem rangeD_get {lo hi : Int} {j : Nat} (h : lo + j < hi) : (rangeD lo hi)[j]? = some (.int (lo + j)) := by
  unfold rangeD
  rw [List.getElem?_map, List.getElem?_range (by omega)]
  rfl
end VS
namespace VS
/-- what two equal plain things are, to the laws' own sameness -/
inductive Sm : Nat → D → Prop
  | non {n} : Sm n .non
  | bl {n} (t : Bool) : Sm n (.bl t)
  | int {n} (i : Int) : Sm n (.int i)
  | str {n} (l : List Nat) (h : l.all (· < 0x110000) = true) : Sm n (.str l)
  | lst {n} (ds : List D) (h : (ds.length : Int) < 4611686018427387904) (k : ∀ d ∈ ds, Sm n d) : Sm (n + 1) (.lst ds)
  | tup {n} (ds : List D) (h : (ds.length : Int) < 4611686018427387904) (k : ∀ d ∈ ds, Sm n d) : Sm (n + 1) (.tup ds)
theorem asI_small {i : Int} (h : 0 ≤ i) (k : i < 4611686018427387904) : asI (.int i) = some i := by
  rw [asI_int, if_pos ⟨by omega, by omega⟩]
theorem asI_zero : asI (.int 0) = some 0 := (rfl)
@[simp] theorem runF_def' (n : Nat) (body : Env → Rs) (ds : List D) : runF n body ds = match body (ds.map (fun d => some (O.v d)) ++ List.replicate (n - ds.length) none) with
  | .ok (.rt d) _ => .ok d
  | .ok .nx _ => .ok .non
  | .ex e _ => .ex e
  | _ => .stuck := (rfl)
@[simp] theorem asInts_ints (ns : List Int) : asInts (ns.map D.int) = some ns := by
  induction ns with
  | nil => rfl
  | cons n ns ih => rw [List.map_cons, asInts_cons, ih]; rfl
@[simp] theorem asSs_strs (ns : List (List Nat)) : asSs (ns.map D.str) = some ns := by
  induction ns with
  | nil => rfl
  | cons n ns ih => rw [List.map_cons, asSs_cons, ih]; rfl
end VS

/-! VS: a body told step by step. -/
namespace VS
open PySem PySem.Spec PyProof.Rows L2
/-- from c the text comes to its end with d -/
def Ret (g : Env → Rs) (c : Env) (d : D) : Prop := ∃ c', g c = .ok (.rt d) c'
/-- from c the text goes on at c' -/
def Nx (g : Env → Rs) (c c' : Env) : Prop := g c = .ok .nx c'
theorem ret_of {n : Nat} {body : Env → Rs} {ds : List D} {d : D} (h : Ret body (ds.map (fun d => some (O.v d)) ++ List.replicate (n - ds.length) none) d) : runF n body ds = .ok d := by
  obtain ⟨c', h⟩ := h
  rw [runF_def, h]
theorem Ret.seq {g k : Env → Rs} {c c' : Env} {d : D} (h : Nx g c c') (r : Ret k c' d) : Ret (sSeq g k) c d := by
  obtain ⟨c2, r⟩ := r
  exact ⟨c2, by rw [sSeq_def, h]; exact r⟩
theorem Ret.fst {g k : Env → Rs} {c : Env} {d : D} (r : Ret g c d) : Ret (sSeq g k) c d := by
  obtain ⟨c2, r⟩ := r
  exact ⟨c2, by rw [sSeq_def, r]⟩
theorem Ret.ret {g : Env → R D} {c : Env} {d : D} (h : g c = .ok d) : Ret (sRet g) c d := ⟨c, by rw [sRet_def, h]; rfl⟩
theorem Ret.fz {g : Env → Rs} {c : Env} {d : D} {i : Nat} (h : Ret g (fz i c) d) : Ret (sFz i g) c d := h
theorem Ret.yes {t : Env → R Bool} {g k : Env → Rs} {c : Env} {d : D} (h : t c = .ok true) (r : Ret g c d) : Ret (sIf t g k) c d := by
  obtain ⟨c2, r⟩ := r
  exact ⟨c2, by rw [sIf_def, h]; exact r⟩
theorem Ret.no {t : Env → R Bool} {g k : Env → Rs} {c : Env} {d : D} (h : t c = .ok false) (r : Ret k c d) : Ret (sIf t g k) c d := by
  obtain ⟨c2, r⟩ := r
  exact ⟨c2, by rw [sIf_def, h]; exact r⟩
theorem Nx.seq {g k : Env → Rs} {c c' c2 : Env} (h : Nx g c c') (r : Nx k c' c2) : Nx (sSeq g k) c c2 := by
  unfold Nx at *
  rw [sSeq_def, h]; exact r
theorem Nx.yes {t : Env → R Bool} {g k : Env → Rs} {c c' : Env} (h : t c = .ok true) (r : Nx g c c') : Nx (sIf t g k) c c' := by
  unfold Nx at *
  rw [sIf_def, h]; exact r
theorem Nx.no {t : Env → R Bool} {g k : Env → Rs} {c c' : Env} (h : t c = .ok false) (r : Nx k c c') : Nx (sIf t g k) c c' := by
  unfold Nx at *
  rw [sIf_def, h]; exact r
theorem Nx.nil {c : Env} : Nx sNil c c := rfl
theorem Nx.set {g : Env → R D} {c : Env} {d : D} {i : Nat} (h : g c = .ok d) : Nx (sSet i g) c (c.set i (some (.v d))) := by
  unfold Nx
  rw [sSet_def, h]; rfl
theorem Nx.setO {g : Env → R O} {c : Env} {d : O} {i : Nat} (h : g c = .ok d) : Nx (sSetO i g) c (c.set i (some d)) := by
  unfold Nx
  rw [sSetO_def, h]; rfl
theorem Nx.fz {g : Env → Rs} {c c' : Env} {i : Nat} (h : Nx g (fz i c) c') : Nx (sFz i g) c c' := h
theorem Nx.to {g : Env → Rs} {c c' c2 : Env} (h : Nx g c c') (e : c' = c2) : Nx g c c2 := e ▸ h
theorem Nx.for {i : Nat} {gs : Env → R (List D)} {g : Env → Rs} {c c' : Env} {ds : List D} (h : gs c = .ok ds) (k : forL i g ds c = .ok .nx c') : Nx (sFor i gs g) c c' := by
  unfold Nx
  rw [sFor_def, h]; exact k
theorem Nx.expr {g : Env → R D} {c : Env} {d : D} (h : g c = .ok d) : Nx (sExpr g) c c := by
  unfold Nx
  rw [sExpr_def, h]; rfl
end VS

/-! VS: several names at once; sorted texts. -/
namespace VS
open PySem PySem.Spec PyProof.Rows L2
/-! ### a, b = e -/
def setAll : List Nat → List D → Env → Env
  | i :: is, d :: ds, c => setAll is ds (c.set i (some (.v d)))
  | _, _, c => c
def sTup (is : List Nat) (g : Env → R D) : Env → Rs := fun c => (g c).st c fun d => match d with
  | .tup ds => if ds.length = is.length then .ok .nx (setAll is ds c) else .stuck
  | _ => .stuck
def gNs : List Nat → TGs
  | [] => gNil
  | i :: is => gCons (gName i) (gNs is)
theorem gNs_run {E : Wd} {B : Bs} {G H : Hp} {pn : List Nat} (P : PinOk pn B) : ∀ (is : List Nat) (ds : List D) (vs : List V) (c : Env) (σ : L2.St) (fp : List Addr) (Q : L2.St → Hp → Prop), (∀ i ∈ is, i ∉ pn) → RpL E G vs ds → ds.length = is.length → Abs E B G H c σ fp →
    (∀ σ' fp', Abs E B G H (setAll is ds c) σ' fp' → Q σ' H) → gNs is vs σ H Q
  | [], [], _, c, σ, fp, Q, _, r, _, A, q => by
    cases r
    exact ⟨rfl, q σ fp A⟩
  | [], _ :: _, _, _, _, _, _, _, _, e, _, _ => by simp at e
  | _ :: _, [], _, _, _, _, _, _, _, e, _, _ => by simp at e
  | i :: is, d :: ds, _, c, σ, fp, Q, hi, r, e, A, q => by
    cases r with
    | cons r rs =>
      obtain ⟨fr, A2⟩ := A.setV (i := i) r (P.ne (hi i List.mem_cons_self))
      exact ⟨_, _, rfl, gNs_run P is ds _ _ _ fr Q (fun j hj => hi j (List.mem_cons_of_mem _ hj)) rs (by simpa using e) A2 q⟩
section
variable {X : Cx} {W : WX} {pn : List Nat} {e : Expr} {pos : Pos}
theorem pxs_tup {es : List Expr} {k : Nat} {p : Pos} (is : List Nat) {g : Env → R D} (h : PX X W true e g) (hc : X.calm = true) (ht : PGs X es (gNs is)) (hi : ∀ i ∈ is, i ∉ pn := by decide)
    (hn : (assignEach es X.env).length = is.length := by rfl) (hst : (assignEach es X.env).findIdx? (·.1) = none := by rfl)
    (hs : swapsWithSole [.Tuple es k p] e pos.line X.env = pure false := by rfl) (hw : swappedStores [.Tuple es k p] e X.env = pure none := by rfl)
    (h1 : (assignEach [.Tuple es k p] X.env).map (·.2) = [assign (.Tuple es k p) X.env] := by rfl) : PXS X W pn (.Assign [.Tuple es k p] e pos) (sTup is g) :=
  ps_mono (ps_asg h (pg_tup hc ht hn hst) hs hw h1) fun Dn σ H ⟨B, G, c, fp, A, P, q⟩ => tx_st A q fun d e v G1 H1 s1 t1 A1 r1 q1 => by
    cases d with
    | tup ds =>
      simp only at q1
      split at q1
      · rename_i hl
        obtain ⟨a, vs, rfl, h2, r2⟩ := r1.tupH (b := true) A1.fine.le
        exact ⟨a, vs, rfl, h2, by rw [r2.length, hl], gNs_run P is ds vs c σ fp Dn.nx hi r2 hl A1 fun σ' fp' A2 => q1 σ' G1 H1 fp' (Same.refl _) A2⟩
      · exact q1.elim
    | _ => exact False.elim q1
end
@[simp] theorem sTup_def (is : List Nat) (g : Env → R D) (c : Env) : sTup is g c = (g c).st c fun d => match d with
  | .tup ds => if ds.length = is.length then .ok .nx (setAll is ds c) else .stuck
  | _ => .stuck := (rfl)
@[simp] theorem setAll_cons (i : Nat) (is : List Nat) (d : D) (ds : List D) (c : Env) : setAll (i :: is) (d :: ds) c = setAll is ds (c.set i (some (.v d))) := (rfl)
@[simp] theorem setAll_nil (c : Env) : setAll [] [] c = c := (rfl)
/-! ### sorted texts -/
theorem lt_self : ∀ x : List Nat, ltCps x x = false
  | [] => rfl
  | a :: x => by simp [ltCps, lt_self x]
theorem lt_anti : ∀ x y : List Nat, ltCps x y = false → ltCps y x = false → x = y
  | [], [], _, _ => rfl
  | [], _ :: _, h, _ => by simp [ltCps] at h
  | _ :: _, [], _, h => by simp [ltCps] at h
  | a :: x, b :: y, h, k => by
    simp [ltCps] at h k
    have e : a = b := by omega
    subst e
    rw [lt_anti x y (by simpa using h.2) (by simpa using k.2)]
theorem le_trans' : ∀ x y z : List Nat, ltCps y x = false → ltCps z y = false → ltCps z x = false
  | [], [], [], _, _ => rfl
  | [], [], _ :: _, _, _ => rfl
  | [], _ :: _, [], _, h => by simp [ltCps] at h
  | [], _ :: _, _ :: _, _, _ => rfl
  | _ :: _, [], _, h, _ => by simp [ltCps] at h
  | _ :: _, _ :: _, [], _, h => by simp [ltCps] at h
  | a :: x, b :: y, c :: z, h, k => by
    simp [ltCps] at h k ⊢
    refine ⟨by omega, fun e => ?_⟩
    subst e
    have e : b = c := by omega
    subst e
    exact le_trans' x y z (by simpa using h.2) (by simpa using k.2)
def rL : List Nat → List (List Nat) → Bool
  | _, [] => true
  | p, x :: r => !ltCps x p && rL x r
def sL : List (List Nat) → Bool
  | [] => true
  | x :: r => rL x r
theorem rL_all : ∀ (p : List Nat) (r : List (List Nat)), rL p r = true → (∀ x ∈ r, ltCps x p = false) ∧ sL r = true
  | _, [], _ => ⟨fun x h => (nomatch h), rfl⟩
  | p, x :: r, h => by
    rw [rL, Bool.and_eq_true] at h
    have ih := rL_all x r h.2
    have hx : ltCps x p = false := by simpa using h.1
    refine ⟨fun y hy => ?_, h.2⟩
    rcases List.mem_cons.mp hy with rfl | hy
    · exact hx
    · exact le_trans' p x y hx (ih.1 y hy)
theorem sL_uniq : ∀ (xs ys : List (List Nat)), xs.Perm ys → sL xs = true → sL ys = true → xs = ys
  | [], ys, h, _, _ => h.nil_eq
  | x :: xs, [], h, _, _ => h.eq_nil
  | x :: xs, y :: ys, h, hx, hy => by
    obtain ⟨a1, a2⟩ := rL_all x xs hx
    obtain ⟨b1, b2⟩ := rL_all y ys hy
    have e : x = y := by
      have m1 : y ∈ x :: xs := h.mem_iff.mpr List.mem_cons_self
      have m2 : x ∈ y :: ys := h.mem_iff.mp List.mem_cons_self
      rcases List.mem_cons.mp m1 with e | m1
      · exact e.symm
      · rcases List.mem_cons.mp m2 with e | m2
        · exact e
        · exact lt_anti x y (b1 x m2) (a1 y m1)
    subst e
    rw [sL_uniq xs ys h.cons_inv a2 b2]
open Classical in
noncomputable def sortS (xs : List (List Nat)) : List (List Nat) := if h : ∃ ys, ys.Perm xs ∧ sL ys = true then h.choose else []
theorem sortS_eq {xs ys : List (List Nat)} (h : ys.Perm xs) (k : sL ys = true) : sortS xs = ys := by
  have e : ∃ ys, ys.Perm xs ∧ sL ys = true := ⟨ys, h, k⟩
  unfold sortS
  rw [dif_pos e]
  exact sL_uniq _ _ (e.choose_spec.1.trans h.symm) e.choose_spec.2 k
theorem sortS_perm {xs ys : List (List Nat)} (h : xs.Perm ys) : sortS xs = sortS ys := by
  by_cases e : ∃ zs, zs.Perm xs ∧ sL zs = true
  · obtain ⟨zs, h1, h2⟩ := e
    rw [sortS_eq h1 h2, sortS_eq (h1.trans h) h2]
  · have e' : ¬ ∃ zs, zs.Perm ys ∧ sL zs = true := fun ⟨zs, h1, h2⟩ => e ⟨zs, h1.trans h.symm, h2⟩
    unfold sortS
    rw [dif_neg e, dif_neg e']
noncomputable def fSortS : List D → Option D
  | [.lst ds] => (asSs ds).bind fun xs => if xs.length < 64 then some (.lst ((sortS xs).map D.str)) else none
  | _ => none
theorem rS_S : ∀ (p : List Nat) (xs : List (List Nat)), risingS (S p) (xs.map S) = rL p xs
  | _, [] => rfl
  | p, x :: xs => by rw [List.map_cons, risingS, rL, rS_S x xs, S_list, S_list]
theorem sS_S (xs : List (List Nat)) : sortedS (xs.map S) = sL xs := by
  cases xs with
  | nil => rfl
  | cons x xs => exact rS_S x xs
theorem RpL.ofStr {E : Wd} {G : Hp} : ∀ xs : List (List Nat), RpL E G ((xs.map S).map V.str) (xs.map D.str)
  | [] => .nil
  | x :: xs => .cons (.str x) (RpL.ofStr xs)
variable {X : Cx} {b : Bool} in
theorem ok_sortS : CallOk ⟨X.K, X.mg⟩ (rSortedS X.K) b true fSortS := by
  intro B G H c σ fp vs ds d Q A r e p
  unfold fSortS at e
  split at e
  · obtain ⟨xs, e1, e2⟩ := Option.bind_eq_some_iff.mp e
    split at e2
    · rename_i hl
      cases e2
      obtain ⟨v, rfl, rv⟩ := r.one
      obtain ⟨a, vs, rfl, h1, r1⟩ := rv.lstH A.fine.le
      rw [asSs_rp r1 e1] at h1
      refine ⟨a, xs.map S, rfl, h1, by simpa using hl, fun ys q hp hs hq => ?_⟩
      obtain ⟨zs, rfl⟩ : ∃ zs : List (List Nat), ys = zs.map S := by
        refine ⟨ys.map fun s => s.cps.toList, ?_⟩
        rw [List.map_map]
        conv => lhs; rw [← List.map_id ys]
        refine List.map_congr_left fun y hy => ?_
        obtain ⟨x, _, rfl⟩ := List.mem_map.mp (hp.mem_iff.mp hy)
        rfl
      have hpl : zs.Perm xs := by
        have := hp.map fun s : Str => s.cps.toList
        rw [List.map_map, List.map_map] at this
        have e : ((fun s : Str => s.cps.toList) ∘ S) = id := by funext x; rfl
        rwa [e, List.map_id, List.map_id] at this
      rw [sS_S] at hs
      rw [sortS_eq hpl hs] at p
      exact p.new A hq fun s => .lst (.inl (.inl upd_same)) (RpL.ofStr _)
    · cases e2
  · cases e
@[simp] theorem fSortS_lst (ds : List D) : fSortS [.lst ds] = (asSs ds).bind fun xs => if xs.length < 64 then some (.lst ((sortS xs).map D.str)) else none := (rfl)
end VS

/-! VS: the place of a text in a list of texts. -/
namespace VS
open PySem PySem.Spec PyProof.Rows L2
def fLIx (ds : List D) : List D → Option D
  | [.str k] => (asSs ds).bind fun xs => if xs.idxOf k < xs.length then some (.int (xs.idxOf k : Nat)) else none
  | _ => none
def eLIx (g : Env → R D) (gs : Env → R (List D)) : Env → R D := fun c => g c >>= fun d => match d with
  | .lst ds => gs c >>= fun es => lift (fLIx ds es)
  | _ => .stuck
@[simp] theorem eLIx_def (g : Env → R D) (gs : Env → R (List D)) (c : Env) : eLIx g gs c = g c >>= fun d => match d with
  | .lst ds => gs c >>= fun es => lift (fLIx ds es)
  | _ => .stuck := (rfl)
theorem eqS (a b : List Nat) : eqV (.str (S a)) (.str (S b)) = (a == b) := by
  show (S a == S b) = (a == b)
  rw [Bool.eq_iff_iff, beq_iff_eq, beq_iff_eq]
  constructor
  · intro h
    have := congrArg (fun s : Str => s.cps.toList) h
    simpa using this
  · intro h; rw [h]
section
variable {X : Cx} {W : WX} {b b1 b' : Bool}
theorem px_li {o e : Expr} {es : List Expr} {g : Env → R D} {gs : Env → R (List D)} {apos cpos : Pos}
    (ho : PX X W b1 o g) (ha : PXA X W b (e :: es) gs)
    (hbase : attributeBase o "index" X.env (eval o X.env) = eval o X.env := by rfl)
    (hfew : ((backTo cpos (starEach (e :: es) X.env)).all (fun x => !x.1) && (backToKw cpos (keywordEach [] X.env)).all (fun x => x.1.isSome)
      && decide ((e :: es).length + ([] : List Keyword).length + (if ([] : List Keyword).isEmpty then 0 else 1) < 30)) = true := by rfl)
    (hline : (apos.endLine == cpos.line) = true := by rfl) (hs : starEach (e :: es) X.env = (false, eval e X.env) :: starEach es X.env := by rfl) (hplain : (backTo cpos (starEach es X.env)).any (·.1) = false := by rfl) :
    PX X W b' (.Call (.Attribute o "index" apos) (e :: es) [] cpos) (eLIx g gs) :=
  pe_mono (pe_bm PySem.F.plainAttrs_list PySem.F.slot_list_index PySem.F.type_list_index mt_index ho ha hbase hfew hline hs hplain) fun σ H Q ⟨B, G, c, fp, A, q⟩ => tx_seq A q fun d e v G1 H1 s1 t1 A1 r1 q1 => by
    cases d with
    | lst ds =>
      obtain ⟨a, vs, rfl, h2, r2⟩ := r1.lstH A1.fine.le
      refine ⟨.inl ⟨rfl, _, h2⟩, txa_seq A1 q1 fun es e2 ws G2 H2 s2 t2 A2 r3 q2 => ?_⟩
      obtain ⟨d3, e3, p3⟩ := Res.lift q2
      unfold fLIx at e3
      split at e3
      · rename_i k
        obtain ⟨xs, e4, e5⟩ := Option.bind_eq_some_iff.mp e3
        split at e5
        · rename_i hlt
          cases e5
          obtain ⟨v, rfl, rv⟩ := r3.one
          cases rv.strH
          have hv := asSs_rp r2 e4
          subst hv
          refine ⟨a, _, _, xs.idxOf k, .str (S k), rfl, rfl, Same.sqL t2 h2, rfl, by simp [flatV], ?_, by rw [eqS]; simp, ?_, ?_⟩
          · rw [List.map_map, List.getElem?_map, List.getElem?_eq_getElem hlt, List.getElem_idxOf hlt]; rfl
          · intro m z hm hz
            rw [List.map_map, List.getElem?_map] at hz
            obtain ⟨y, hy, rfl⟩ := Option.map_eq_some_iff.mp hz
            show eqV (.str (S y)) (.str (S k)) = false
            rw [eqS]
            obtain ⟨hml, rfl⟩ := List.getElem?_eq_some_iff.mp hy
            have := List.not_of_lt_findIdx (p := (· == k)) (xs := xs) (i := m) hm
            simpa using this
          · exact (p3.grow (s1.trans s2) (t1.trans t2)).here A2 (.int _)
        · cases e5
      · cases e3
    | _ => exact False.elim q1
end
end VS

set_option maxHeartbeats 8000000
namespace GW
open PySem PySem.Spec PyProof.Rows L2 VS
noncomputable section
def wN : Nat := 1000000000
def BLnumber : VS.Env → Rs :=
    (sSeq (sSet 2 (eOp2 (opAdd true true) (eOp2 (opMul) (eFn (fSum) (eCons (eV 0) eNil)) (eC (.int 31))) (eOp2 (opMul) (eC (.int 1000003)) (eOp2 (opAdd true true) (eV 1) (eC (.int 1))))))
    (sSeq (sIf (eB (eOp2 (opRel fun i j => decide (i < j)) (eV 1) (eFn (fLen) (eCons (eV 0) eNil))))
    (sSet 2 (eOp2 (opIx true) (eV 0) (eV 1)))
    sNil)
    (sRet (eFn (fAbs) (eCons (eV 2) eNil)))))
def MLnumber : List D → R D := runF 3 BLnumber
def BLdraws : VS.Env → Rs :=
    (sSeq (sSet 4 (eCall MLnumber (eCons (eV 0) (eCons (eV 1) eNil))))
    (sSeq (sSetO 5 (eFnO fLstO eNil))
    (sSeq (sIf (eB (eOp2 (opRel fun i j => decide (j ≤ i)) (eV 4) (eOp2 (opPow) (eC (.int 10)) (eC (.int 18)))))
    (sSeq (sSet 4 (eOp2 (opSub) (eV 4) (eOp2 (opPow) (eC (.int 10)) (eC (.int 18)))))
    (sSeq (sFor 6 (eItR (eC (.int 0)) (eV 2))
    (sSeq (sApp 5 (eOp2 (opMod) (eV 4) (eV 3)))
    (sSet 4 (eOp2 (opDiv) (eV 4) (eV 3)))))
    (sFz 5 (sRet (eV 5)))))
    sNil)
    (sSeq (sSet 7 (eOp2 (opAdd true true) (eOp2 (opMod) (eV 4) (eC (.int 2147483647))) (eC (.int 1))))
    (sSeq (sFor 6 (eItR (eC (.int 0)) (eV 2))
    (sSeq (sSet 7 (eOp2 (opMod) (eOp2 (opAdd true true) (eOp2 (opAdd true true) (eOp2 (opMul) (eV 7) (eC (.int 48271))) (eOp2 (opMul) (eC (.int 11)) (eV 6))) (eC (.int 7))) (eC (.int 2147483647))))
    (sSeq (sSet 8 (eOp2 (opMod) (eOp2 (opAdd true true) (eOp2 (opAdd true true) (eOp2 (opMul) (eV 7) (eV 7)) (eOp2 (opMul) (eC (.int 69621)) (eV 6))) (eC (.int 5))) (eC (.int 2147483629))))
    (sApp 5 (eOp2 (opMod) (eOp2 (opDiv) (eV 8) (eC (.int 64))) (eV 3))))))
    (sFz 5 (sRet (eV 5))))))))
def MLdraws : List D → R D := runF 9 BLdraws
def BLword : VS.Env → Rs :=
    (sRet (eMS fJoin (eC (.str [])) (eCons (eLc (eIt true (eV 0)) tYes' (eOp2 (opIx true) (eC (.str [97, 98, 99])) (eOp2 (opMod) (eV 2) (eV 1))) 2) eNil)))
def MLword : List D → R D := runF 3 BLword
def BLkinds : VS.Env → Rs :=
    (sSeq (sIf (eB (eOp2 (opEq) (eV 0) (eC (.str [115, 99, 97, 116, 116, 101, 114, 101, 100]))))
    (sRet (eFn fLst (eCons (eC (.str [114, 105, 103, 104, 116])) (eCons (eC (.str [108, 101, 102, 116])) eNil))))
    sNil)
    (sSeq (sIf (eB (eOp2 (opEq) (eV 0) (eC (.str [115, 108, 105, 116]))))
    (sRet (eFn fLst (eCons (eC (.str [116, 119, 105, 99, 101])) (eCons (eC (.str [111, 114, 100, 101, 114])) eNil))))
    sNil)
    (sSeq (sIf (eB (eOp2 (opEq) (eV 0) (eC (.str [99, 111, 117, 110, 116, 115]))))
    (sRet (eFn fLst (eCons (eC (.str [115, 119, 97, 112])) (eCons (eC (.str [103, 114, 111, 119])) eNil))))
    sNil)
    (sRet (eFn fLst (eCons (eOp2 (opIx true) (eFn fLst (eCons (eC (.str [98, 101, 104, 105, 110, 100])) (eCons (eC (.str [97, 104, 101, 97, 100])) (eCons (eC (.str [98, 101, 116, 119, 101, 101, 110])) (eCons (eC (.str [114, 105, 103, 104, 116])) (eCons (eC (.str [108, 101, 102, 116])) eNil)))))) (eLIx (eFn fLst (eCons (eC (.str [108, 97, 115, 116])) (eCons (eC (.str [102, 105, 114, 115, 116])) (eCons (eC (.str [101, 110, 100, 115])) (eCons (eC (.str [114, 105, 115, 105, 110, 103])) (eCons (eC (.str [102, 97, 108, 108, 105, 110, 103])) eNil)))))) (eCons (eV 0) eNil))) eNil))))))
def MLkinds : List D → R D := runF 1 BLkinds
def BLmade : VS.Env → Rs :=
    (sSeq (sSet 2 (eOp2 (opIx true) (eV 1) (eC (.int 1))))
    (sSeq (sIf (tOr' (tAnd' (eB (eOp2 (opNotInS) (eV 0) (eFn fTup (eCons (eC (.str [114, 105, 103, 104, 116])) (eCons (eC (.str [108, 101, 102, 116])) eNil))))) (eB (eOp2 (opEq) (eV 2) (eC (.str []))))) (eB (eOp2 (opEq) (eOp2 (opAdd true true) (eV 2) (eOp2 (opIx true) (eV 1) (eC (.int 2)))) (eC (.str [])))))
    (sSet 2 (eC (.str [97])))
    sNil)
    (sSeq (sIf (eB (eOp2 (opEq) (eV 0) (eC (.str [111, 114, 100, 101, 114]))))
    (sRet (eFn fTup (eCons (eV 0) (eCons (eFn fTup (eCons (eOp2 (opIx true) (eV 1) (eC (.int 0))) (eCons (eV 2) (eCons (eOp2 (opIx true) (eV 1) (eC (.int 2))) (eCons (eOp2 (opIx true) (eV 1) (eC (.int 3))) (eCons (eOp2 (opIx true) (eV 1) (eC (.int 4))) eNil)))))) eNil))))
    sNil)
    (sSeq (sIf (eB (eOp2 (opEq) (eV 0) (eC (.str [103, 114, 111, 119]))))
    (sRet (eFn fTup (eCons (eV 0) (eCons (eFn fTup (eCons (eOp2 (opIx true) (eV 1) (eC (.int 0))) (eCons (eOp2 (opMul) (eSl true (eV 2) eNoO (eO (eC (.int 1)))) (eOp2 (opAdd true true) (eC (.int 1)) (eFn (fLen) (eCons (eOp2 (opIx true) (eV 1) (eC (.int 2))) eNil)))) (eCons (eSl true (eV 2) eNoO (eO (eC (.int 1)))) (eCons (eOp2 (opIx true) (eV 1) (eC (.int 4))) eNil))))) eNil))))
    sNil)
    (sRet (eFn fTup (eCons (eV 0) (eCons (eFn fTup (eCons (eOp2 (opIx true) (eV 1) (eC (.int 0))) (eCons (eV 2) (eCons (eOp2 (opIx true) (eV 1) (eC (.int 2))) (eCons (eOp2 (opIx true) (eV 1) (eC (.int 4))) eNil))))) eNil))))))))
def MLmade : List D → R D := runF 3 BLmade
def Bordered_words : VS.Env → Rs :=
    (sSeq (sTup [2, 3, 4, 5, 6] (eV 0))
    (sSeq (sSet 7 (eOp2 (opAdd true true) (eOp2 (opAdd true true) (eOp2 (opAdd true true) (eOp2 (opAdd true true) (eOp2 (opAdd true true) (eOp2 (opAdd true true) (eV 2) (eOp2 (opMul) (eV 3) (eV 1))) (eV 4)) (eOp2 (opMul) (eV 3) (eV 1))) (eV 5)) (eOp2 (opMul) (eV 3) (eV 1))) (eV 6)))
    (sRet (eFn fTup (eCons (eV 7) (eCons (eOp2 (opAdd true true) (eOp2 (opAdd true true) (eOp2 (opAdd true true) (eOp2 (opAdd true true) (eOp2 (opAdd true true) (eOp2 (opAdd true true) (eV 2) (eOp2 (opMul) (eV 3) (eV 1))) (eV 5)) (eOp2 (opMul) (eV 3) (eV 1))) (eV 4)) (eOp2 (opMul) (eV 3) (eV 1))) (eV 6)) eNil))))))
def Mordered_words : List D → R D := runF 8 Bordered_words
def Bmade_words : VS.Env → Rs :=
    (sSeq (sSet 3 (eOp2 (opIx true) (eV 1) (eC (.int 0))))
    (sSeq (sSet 4 (eOp2 (opIx true) (eV 1) (eOp2 (opSub) (eFn (fLen) (eCons (eV 1) eNil)) (eC (.int 1)))))
    (sSeq (sSet 5 (eOp2 (opIx true) (eV 1) (eC (.int 1))))
    (sSeq (sSet 6 (eOp2 (opIx true) (eV 1) (eC (.int 2))))
    (sSeq (sIf (eB (eOp2 (opEq) (eV 0) (eC (.str [98, 101, 104, 105, 110, 100]))))
    (sRet (eFn fTup (eCons (eOp2 (opAdd true true) (eOp2 (opAdd true true) (eV 3) (eOp2 (opMul) (eV 5) (eV 2))) (eV 4)) (eCons (eOp2 (opAdd true true) (eOp2 (opAdd true true) (eV 6) (eOp2 (opMul) (eV 5) (eV 2))) (eV 4)) eNil))))
    sNil)
    (sSeq (sIf (eB (eOp2 (opEq) (eV 0) (eC (.str [97, 104, 101, 97, 100]))))
    (sRet (eFn fTup (eCons (eOp2 (opAdd true true) (eOp2 (opAdd true true) (eV 3) (eOp2 (opMul) (eV 5) (eV 2))) (eV 6)) (eCons (eOp2 (opAdd true true) (eOp2 (opAdd true true) (eV 3) (eOp2 (opMul) (eV 5) (eV 2))) (eV 4)) eNil))))
    sNil)
    (sSeq (sIf (eB (eOp2 (opEq) (eV 0) (eC (.str [98, 101, 116, 119, 101, 101, 110]))))
    (sRet (eFn fTup (eCons (eOp2 (opAdd true true) (eOp2 (opAdd true true) (eOp2 (opAdd true true) (eOp2 (opAdd true true) (eV 3) (eOp2 (opMul) (eV 5) (eV 2))) (eV 6)) (eOp2 (opMul) (eV 5) (eV 2))) (eV 4)) (eCons (eOp2 (opAdd true true) (eOp2 (opAdd true true) (eV 3) (eOp2 (opMul) (eV 5) (eV 2))) (eV 4)) eNil))))
    sNil)
    (sSeq (sIf (eB (eOp2 (opEq) (eV 0) (eC (.str [116, 119, 105, 99, 101]))))
    (sRet (eFn fTup (eCons (eOp2 (opAdd true true) (eOp2 (opAdd true true) (eOp2 (opAdd true true) (eOp2 (opAdd true true) (eV 3) (eOp2 (opMul) (eV 5) (eV 2))) (eV 6)) (eOp2 (opMul) (eV 5) (eV 2))) (eV 4)) (eCons (eOp2 (opAdd true true) (eOp2 (opAdd true true) (eOp2 (opAdd true true) (eOp2 (opAdd true true) (eOp2 (opAdd true true) (eOp2 (opAdd true true) (eV 3) (eOp2 (opMul) (eV 5) (eV 2))) (eV 6)) (eOp2 (opMul) (eV 5) (eV 2))) (eV 6)) (eOp2 (opMul) (eV 5) (eV 2))) (eV 4)) eNil))))
    sNil)
    (sSeq (sIf (eB (eOp2 (opEq) (eV 0) (eC (.str [111, 114, 100, 101, 114]))))
    (sRet (eCall Mordered_words (eCons (eV 1) (eCons (eV 2) eNil))))
    sNil)
    (sSeq (sIf (eB (eOp2 (opEq) (eV 0) (eC (.str [114, 105, 103, 104, 116]))))
    (sRet (eFn fTup (eCons (eOp2 (opAdd true true) (eOp2 (opAdd true true) (eV 3) (eOp2 (opMul) (eOp2 (opAdd true true) (eV 5) (eV 6)) (eV 2))) (eV 4)) (eCons (eOp2 (opAdd true true) (eOp2 (opAdd true true) (eOp2 (opAdd true true) (eV 3) (eOp2 (opMul) (eOp2 (opAdd true true) (eV 5) (eV 6)) (eV 2))) (eV 5)) (eV 4)) eNil))))
    sNil)
    (sSeq (sIf (eB (eOp2 (opEq) (eV 0) (eC (.str [108, 101, 102, 116]))))
    (sRet (eFn fTup (eCons (eOp2 (opAdd true true) (eOp2 (opAdd true true) (eV 3) (eOp2 (opMul) (eOp2 (opAdd true true) (eV 5) (eV 6)) (eV 2))) (eV 4)) (eCons (eOp2 (opAdd true true) (eOp2 (opAdd true true) (eOp2 (opAdd true true) (eV 3) (eV 6)) (eOp2 (opMul) (eOp2 (opAdd true true) (eV 5) (eV 6)) (eV 2))) (eV 4)) eNil))))
    sNil)
    (sSeq (sIf (eB (eOp2 (opEq) (eV 0) (eC (.str [115, 119, 97, 112]))))
    (sRet (eFn fTup (eCons (eOp2 (opAdd true true) (eOp2 (opAdd true true) (eOp2 (opAdd true true) (eV 3) (eV 5)) (eV 6)) (eV 4)) (eCons (eOp2 (opAdd true true) (eOp2 (opAdd true true) (eOp2 (opAdd true true) (eV 3) (eV 6)) (eV 5)) (eV 4)) eNil))))
    sNil)
    (sRet (eFn fTup (eCons (eOp2 (opAdd true true) (eOp2 (opAdd true true) (eV 3) (eOp2 (opMul) (eV 5) (eV 2))) (eV 4)) (eCons (eOp2 (opAdd true true) (eOp2 (opAdd true true) (eOp2 (opAdd true true) (eV 3) (eOp2 (opMul) (eV 5) (eV 2))) (eV 6)) (eV 4)) eNil))))))))))))))))
def Mmade_words : List D → R D := runF 7 Bmade_words
def Bpair_of_pattern : VS.Env → Rs :=
    (sRet (eCall Mmade_words (eCons (eOp2 (opIx true) (eV 2) (eC (.int 0))) (eCons (eOp2 (opIx true) (eV 2) (eC (.int 1))) (eCons (eOp2 (opAdd true true) (eV 1) (eC (.int 1))) eNil)))))
def Mpair_of_pattern : List D → R D := runF 3 Bpair_of_pattern
def BLsame (MLsame : List D → R D) : VS.Env → Rs :=
    (sSeq (sIf (tOr' (eTru (eIs .bool (eV 1))) (eTru (eIs .bool (eV 0))))
    (sRet (eAnd (eIs .bool (eV 1)) (eAnd (eIs .bool (eV 0)) (eOp2 (opEq) (eV 0) (eV 1)))))
    sNil)
    (sSeq (sIf (tOr' (eB (eOp2 (opIs) (eV 1) (eC .non))) (eTru (eIs .int (eV 1))))
    (sRet (eAnd (eOp2 (opEq) (eV 0) (eV 1)) (eOr (eOp2 (opIs) (eV 1) (eC .non)) (eIs .int (eV 0)))))
    sNil)
    (sSeq (sIf (eTru (eIs .str (eV 1)))
    (sRet (eAnd (eIs .str (eV 0)) (eOp2 (opEq) (eV 0) (eV 1))))
    sNil)
    (sSeq (sIf (tOr' (eB (eOp2 (opNe) (eIs .list (eV 1)) (eIs .list (eV 0)))) (eB (eOp2 (opNe) (eIs .tuple (eV 1)) (eIs .tuple (eV 0)))))
    (sRet (eC (.bl false)))
    sNil)
    (sSeq (sIf (eB (eOp2 (opNe) (eFn (fLen) (eCons (eV 0) eNil)) (eFn (fLen) (eCons (eV 1) eNil))))
    (sRet (eC (.bl false)))
    sNil)
    (sSeq (sFor 2 (eItR (eC (.int 0)) (eFn (fLen) (eCons (eV 1) eNil)))
    (sIf (tNot' (eTru (eCall MLsame (eCons (eOp2 (opIx true) (eV 0) (eV 2)) (eCons (eOp2 (opIx true) (eV 1) (eV 2)) eNil)))))
    (sRet (eC (.bl false)))
    sNil))
    (sRet (eC (.bl true)))))))))
def MLsameN : Nat → List D → R D
  | 0 => fun _ => .stuck
  | n + 1 => runF 3 (BLsame (MLsameN n))
def MLsame : List D → R D := MLsameN 64
def BLpair : VS.Env → Rs :=
    (sSeq (sSet 2 (eOp2 (opIx true) (eV 0) (eC (.int 0))))
    (sSeq (sSet 3 (eOp2 (opIx true) (eV 0) (eC (.int 1))))
    (sSeq (sSet 4 (eOp2 (opIx true) (eV 3) (eC (.int 0))))
    (sSeq (sSet 5 (eOp2 (opIx true) (eV 3) (eC (.int 1))))
    (sSeq (sSet 6 (eOp2 (opIx true) (eV 3) (eC (.int 2))))
    (sSeq (sSet 7 (eOp2 (opIx true) (eV 3) (eOp2 (opSub) (eFn (fLen) (eCons (eV 3) eNil)) (eC (.int 1)))))
    (sSeq (sIf (eB (eOp2 (opEq) (eV 2) (eC (.str [98, 101, 104, 105, 110, 100]))))
    (sRet (eFn fTup (eCons (eOp2 (opAdd true true) (eOp2 (opAdd true true) (eV 4) (eOp2 (opMul) (eV 5) (eV 1))) (eV 7)) (eCons (eOp2 (opAdd true true) (eOp2 (opAdd true true) (eV 6) (eOp2 (opMul) (eV 5) (eV 1))) (eV 7)) eNil))))
    sNil)
    (sSeq (sIf (eB (eOp2 (opEq) (eV 2) (eC (.str [97, 104, 101, 97, 100]))))
    (sRet (eFn fTup (eCons (eOp2 (opAdd true true) (eOp2 (opAdd true true) (eV 4) (eOp2 (opMul) (eV 5) (eV 1))) (eV 6)) (eCons (eOp2 (opAdd true true) (eOp2 (opAdd true true) (eV 4) (eOp2 (opMul) (eV 5) (eV 1))) (eV 7)) eNil))))
    sNil)
    (sSeq (sIf (eB (eOp2 (opEq) (eV 2) (eC (.str [98, 101, 116, 119, 101, 101, 110]))))
    (sRet (eFn fTup (eCons (eOp2 (opAdd true true) (eOp2 (opAdd true true) (eOp2 (opAdd true true) (eOp2 (opAdd true true) (eV 4) (eOp2 (opMul) (eV 5) (eV 1))) (eV 6)) (eOp2 (opMul) (eV 5) (eV 1))) (eV 7)) (eCons (eOp2 (opAdd true true) (eOp2 (opAdd true true) (eV 4) (eOp2 (opMul) (eV 5) (eV 1))) (eV 7)) eNil))))
    sNil)
    (sSeq (sIf (eB (eOp2 (opEq) (eV 2) (eC (.str [116, 119, 105, 99, 101]))))
    (sRet (eFn fTup (eCons (eOp2 (opAdd true true) (eOp2 (opAdd true true) (eOp2 (opAdd true true) (eOp2 (opAdd true true) (eV 4) (eOp2 (opMul) (eV 5) (eV 1))) (eV 6)) (eOp2 (opMul) (eV 5) (eV 1))) (eV 7)) (eCons (eOp2 (opAdd true true) (eOp2 (opAdd true true) (eOp2 (opAdd true true) (eOp2 (opAdd true true) (eOp2 (opAdd true true) (eOp2 (opAdd true true) (eV 4) (eOp2 (opMul) (eV 5) (eV 1))) (eV 6)) (eOp2 (opMul) (eV 5) (eV 1))) (eV 6)) (eOp2 (opMul) (eV 5) (eV 1))) (eV 7)) eNil))))
    sNil)
    (sSeq (sIf (eB (eOp2 (opEq) (eV 2) (eC (.str [111, 114, 100, 101, 114]))))
    (sSeq (sSet 8 (eOp2 (opIx true) (eV 3) (eC (.int 3))))
    (sRet (eFn fTup (eCons (eOp2 (opAdd true true) (eOp2 (opAdd true true) (eOp2 (opAdd true true) (eOp2 (opAdd true true) (eOp2 (opAdd true true) (eOp2 (opAdd true true) (eV 4) (eOp2 (opMul) (eV 5) (eV 1))) (eV 6)) (eOp2 (opMul) (eV 5) (eV 1))) (eV 8)) (eOp2 (opMul) (eV 5) (eV 1))) (eV 7)) (eCons (eOp2 (opAdd true true) (eOp2 (opAdd true true) (eOp2 (opAdd true true) (eOp2 (opAdd true true) (eOp2 (opAdd true true) (eOp2 (opAdd true true) (eV 4) (eOp2 (opMul) (eV 5) (eV 1))) (eV 8)) (eOp2 (opMul) (eV 5) (eV 1))) (eV 6)) (eOp2 (opMul) (eV 5) (eV 1))) (eV 7)) eNil)))))
    sNil)
    (sSeq (sIf (eB (eOp2 (opEq) (eV 2) (eC (.str [114, 105, 103, 104, 116]))))
    (sRet (eFn fTup (eCons (eOp2 (opAdd true true) (eOp2 (opAdd true true) (eV 4) (eOp2 (opMul) (eOp2 (opAdd true true) (eV 5) (eV 6)) (eV 1))) (eV 7)) (eCons (eOp2 (opAdd true true) (eOp2 (opAdd true true) (eOp2 (opAdd true true) (eV 4) (eOp2 (opMul) (eOp2 (opAdd true true) (eV 5) (eV 6)) (eV 1))) (eV 5)) (eV 7)) eNil))))
    sNil)
    (sSeq (sIf (eB (eOp2 (opEq) (eV 2) (eC (.str [108, 101, 102, 116]))))
    (sRet (eFn fTup (eCons (eOp2 (opAdd true true) (eOp2 (opAdd true true) (eV 4) (eOp2 (opMul) (eOp2 (opAdd true true) (eV 5) (eV 6)) (eV 1))) (eV 7)) (eCons (eOp2 (opAdd true true) (eOp2 (opAdd true true) (eOp2 (opAdd true true) (eV 4) (eV 6)) (eOp2 (opMul) (eOp2 (opAdd true true) (eV 5) (eV 6)) (eV 1))) (eV 7)) eNil))))
    sNil)
    (sSeq (sIf (eB (eOp2 (opEq) (eV 2) (eC (.str [115, 119, 97, 112]))))
    (sRet (eFn fTup (eCons (eOp2 (opAdd true true) (eOp2 (opAdd true true) (eOp2 (opAdd true true) (eV 4) (eV 5)) (eV 6)) (eV 7)) (eCons (eOp2 (opAdd true true) (eOp2 (opAdd true true) (eOp2 (opAdd true true) (eV 4) (eV 6)) (eV 5)) (eV 7)) eNil))))
    sNil)
    (sRet (eFn fTup (eCons (eOp2 (opAdd true true) (eOp2 (opAdd true true) (eV 4) (eOp2 (opMul) (eV 5) (eV 1))) (eV 7)) (eCons (eOp2 (opAdd true true) (eOp2 (opAdd true true) (eOp2 (opAdd true true) (eV 4) (eOp2 (opMul) (eV 5) (eV 1))) (eV 6)) (eV 7)) eNil))))))))))))))))))
def MLpair : List D → R D := runF 9 BLpair
def BLslit : VS.Env → Rs :=
    (sSeq (sIf (eB (eOp2 (opEq) (eV 0) (eC (.int 0))))
    (sRet (eC (.str [])))
    sNil)
    (sSeq (sIf (eB (eOp2 (opRel fun i j => decide (i < j)) (eFn (fLen) (eCons (eV 1) eNil)) (eV 0)))
    (sRet (eV 1))
    sNil)
    (sSeq (sSet 2 (eLc (eItR (eC (.int 0)) (eOp2 (opAdd true true) (eOp2 (opSub) (eFn (fLen) (eCons (eV 1) eNil)) (eV 0)) (eC (.int 1)))) tYes' (eSl true (eV 1) (eO (eV 4)) (eO (eOp2 (opAdd true true) (eV 4) (eV 0)))) 4))
    (sSeq (sSet 3 (eLc (eItR (eC (.int 0)) (eFn (fLen) (eCons (eV 2) eNil))) (eB (eOp2 (opNotInS) (eOp2 (opIx true) (eV 2) (eV 4)) (eSl true (eV 2) eNoO (eO (eV 4))))) (eOp2 (opIx true) (eV 2) (eV 4)) 4))
    (sRet (eFn fTup (eCons (eSl true (eV 1) eNoO (eO (eOp2 (opSub) (eV 0) (eC (.int 1))))) (eCons (eSl true (eV 1) (eO (eOp2 (opAdd true true) (eOp2 (opSub) (eFn (fLen) (eCons (eV 1) eNil)) (eV 0)) (eC (.int 1)))) eNoO) (eCons (eFn (fTuple true) (eCons (eFn (fSortS) (eCons (eV 3) eNil)) eNil)) eNil)))))))))
def MLslit : List D → R D := runF 5 BLslit
def BLscattered : VS.Env → Rs :=
    (sSeq (sSet 2 (eC (.int 0)))
    (sSeq (sFor 3 (eIt true (eV 1))
    (sIf (tAnd' (eB (eOp2 (opRel fun i j => decide (i < j)) (eV 2) (eFn (fLen) (eCons (eV 0) eNil)))) (eB (eOp2 (opEq) (eOp2 (opIx true) (eV 0) (eV 2)) (eV 3))))
    (sSet 2 (eOp2 (opAdd true true) (eV 2) (eC (.int 1))))
    sNil))
    (sRet (eOp2 (opEq) (eV 2) (eFn (fLen) (eCons (eV 0) eNil))))))
def MLscattered : List D → R D := runF 4 BLscattered
def BLsubwords : VS.Env → Rs :=
    (sSeq (sSet 3 (eFn fLst (eCons (eC (.str [])) eNil)))
    (sSeq (sSet 4 (eFn fLst (eCons (eC (.str [])) eNil)))
    (sSeq (sFor 5 (eItR (eC (.int 0)) (eFn (fMin2) (eCons (eV 0) (eCons (eFn (fLen) (eCons (eV 2) eNil)) eNil))))
    (sSeq (sSetO 6 (eFnO fLstO eNil))
    (sSeq (sFor 7 (eIt true (eV 4))
    (sFor 8 (eIt true (eSl true (eC (.str [97, 98, 99])) eNoO (eO (eV 1))))
    (sIf (eTru (eCall MLscattered (eCons (eOp2 (opAdd true true) (eV 7) (eV 8)) (eCons (eV 2) eNil))))
    (sApp 6 (eOp2 (opAdd true true) (eV 7) (eV 8)))
    sNil)))
    (sSeq (sSet 3 (eOp2 (opAdd true false) (eV 3) (eL 6)))
    (sFz 6 (sSet 4 (eV 6)))))))
    (sRet (eFn (fTuple true) (eCons (eV 3) eNil))))))
def MLsubwords : List D → R D := runF 9 BLsubwords
def BLview : VS.Env → Rs :=
    (sSeq (sIf (eB (eOp2 (opEq) (eV 0) (eC (.str [108, 97, 115, 116]))))
    (sRet (eSl true (eV 3) (eO (eFn (fMax2) (eCons (eC (.int 0)) (eCons (eOp2 (opSub) (eFn (fLen) (eCons (eV 3) eNil)) (eV 1)) eNil)))) eNoO))
    sNil)
    (sSeq (sIf (eB (eOp2 (opEq) (eV 0) (eC (.str [102, 105, 114, 115, 116]))))
    (sRet (eSl true (eV 3) eNoO (eO (eV 1))))
    sNil)
    (sSeq (sIf (eB (eOp2 (opEq) (eV 0) (eC (.str [99, 111, 117, 110, 116, 115]))))
    (sRet (eFn (fTuple true) (eCons (eLc (eIt true (eSl true (eC (.str [97, 98, 99])) eNoO (eO (eV 2)))) tYes' (eFn (fMin2) (eCons (eV 1) (eCons (eFn (fLen) (eCons (eLc (eIt true (eV 3)) (eB (eOp2 (opEq) (eV 9) (eV 8))) (eV 9) 9) eNil)) eNil))) 8) eNil)))
    sNil)
    (sSeq (sIf (eB (eOp2 (opEq) (eV 0) (eC (.str [101, 110, 100, 115]))))
    (sSeq (sIf (eB (eOp2 (opRel fun i j => decide (i < j)) (eFn (fLen) (eCons (eV 3) eNil)) (eV 1)))
    (sRet (eV 3))
    sNil)
    (sRet (eFn fTup (eCons (eSl true (eV 3) eNoO (eO (eV 1))) (eCons (eSl true (eV 3) (eO (eOp2 (opSub) (eFn (fLen) (eCons (eV 3) eNil)) (eV 1))) eNoO) eNil)))))
    sNil)
    (sSeq (sIf (eB (eOp2 (opEq) (eV 0) (eC (.str [115, 108, 105, 116]))))
    (sRet (eCall MLslit (eCons (eV 1) (eCons (eV 3) eNil))))
    sNil)
    (sSeq (sIf (eB (eOp2 (opEq) (eV 0) (eC (.str [115, 99, 97, 116, 116, 101, 114, 101, 100]))))
    (sRet (eCall MLsubwords (eCons (eV 1) (eCons (eV 2) (eCons (eV 3) eNil)))))
    sNil)
    (sSeq (sSetO 4 (eFnO fLstO eNil))
    (sSeq (sFor 5 (eItR (eC (.int 0)) (eOp2 (opAdd true true) (eFn (fLen) (eCons (eV 3) eNil)) (eC (.int 1))))
    (sSeq (sSet 6 (eOp2 (opIx true) (eFn fLst (eCons (eSl true (eV 3) eNoO (eO (eV 5))) (eCons (eSl true (eV 3) (eO (eOp2 (opSub) (eFn (fLen) (eCons (eV 3) eNil)) (eV 5))) eNoO) eNil))) (eFn (fInt) (eCons (eOp2 (opEq) (eV 0) (eC (.str [102, 97, 108, 108, 105, 110, 103]))) eNil))))
    (sSeq (sSet 7 (eCall MLsubwords (eCons (eV 1) (eCons (eV 2) (eCons (eV 6) eNil)))))
    (sIf (tOr' (eB (eOp2 (opEq) (eFn (fLen) (eCons (eL 4) eNil)) (eC (.int 0)))) (eB (eOp2 (opNe) (eIxo 4 (eOp2 (opSub) (eFn (fLen) (eCons (eL 4) eNil)) (eC (.int 1)))) (eV 7))))
    (sApp 4 (eV 7))
    sNil))))
    (sRet (eFn (fTuple false) (eCons (eL 4) eNil)))))))))))
def MLview : List D → R D := runF 10 BLview
def Blaw : VS.Env → Rs :=
    (sSeq (sSet 1 (eCall MLdraws (eCons (eV 0) (eCons (eC (.int 0)) (eCons (eC (.int 6)) (eCons (eC (.int 720)) eNil))))))
    (sSeq (sSet 2 (eOp2 (opAdd true true) (eC (.int 1)) (eOp2 (opMod) (eOp2 (opIx true) (eV 1) (eC (.int 0))) (eC (.int 3)))))
    (sSeq (sSet 3 (eLc (eItR (eC (.int 0)) (eC (.int 5))) tYes' (eCall MLword (eCons (eCall MLdraws (eCons (eV 0) (eCons (eOp2 (opAdd true true) (eC (.int 1)) (eV 9)) (eCons (eOp2 (opMod) (eOp2 (opIx true) (eV 1) (eOp2 (opAdd true true) (eC (.int 1)) (eV 9))) (eC (.int 4))) (eCons (eC (.int 5040)) eNil))))) (eCons (eV 2) eNil))) 9))
    (sSeq (sFor 4 (eIt true (eFn fLst (eCons (eC (.str [108, 97, 115, 116])) (eCons (eC (.str [102, 105, 114, 115, 116])) (eCons (eC (.str [101, 110, 100, 115])) (eCons (eC (.str [115, 108, 105, 116])) (eCons (eC (.str [115, 99, 97, 116, 116, 101, 114, 101, 100])) (eCons (eC (.str [114, 105, 115, 105, 110, 103])) (eCons (eC (.str [102, 97, 108, 108, 105, 110, 103])) (eCons (eC (.str [99, 111, 117, 110, 116, 115])) eNil))))))))))
    (sFor 5 (eIt true (eCall MLkinds (eCons (eV 4) eNil)))
    (sSeq (sSet 6 (eCall MLmade (eCons (eV 5) (eCons (eV 3) eNil))))
    (sSeq (sIf (tAnd' (eB (eOp2 (opEq) (eV 5) (eC (.str [103, 114, 111, 119])))) (eB (eOp2 (opEq) (eOp2 (opIx true) (eOp2 (opIx true) (eV 6) (eC (.int 1))) (eC (.int 2))) (eC (.str [])))))
    (sRet (eC (.bl false)))
    sNil)
    (sFor 7 (eItR (eC (.int 0)) (eC (.int 4)))
    (sSeq (sSet 8 (eCall Mpair_of_pattern (eCons (eV 4) (eCons (eV 7) (eCons (eV 6) eNil)))))
    (sSeq (sIf (tNot' (eTru (eCall MLsame (eCons (eV 8) (eCons (eCall MLpair (eCons (eV 6) (eCons (eOp2 (opAdd true true) (eV 7) (eC (.int 1))) eNil))) eNil)))))
    (sRet (eC (.bl false)))
    sNil)
    (sIf (tAnd' (eB (eOp2 (opRel fun i j => decide (i < j)) (eV 7) (eC (.int 3)))) (eB (eOp2 (opNe) (eCall MLview (eCons (eV 4) (eCons (eV 7) (eCons (eV 2) (eCons (eOp2 (opIx true) (eV 8) (eC (.int 0))) eNil))))) (eCall MLview (eCons (eV 4) (eCons (eV 7) (eCons (eV 2) (eCons (eOp2 (opIx true) (eV 8) (eC (.int 1))) eNil))))))))
    (sRet (eC (.bl false)))
    sNil))))))))
    (sRet (eC (.bl true)))))))
def Mlaw : List D → R D := runF 10 Blaw
end
end GW

set_option maxHeartbeats 4000000
namespace GW
open PySem PySem.Spec PyProof.Rows L2 VS
theorem asInts_map' (ns : List Int) : asInts (ns.map D.int) = some ns := by
  induction ns with
  | nil => rfl
  | cons n ns ih => rw [List.map_cons, asInts_cons, ih]; rfl
theorem Lnumber_spec (ns : List Int) (k : Nat) : ∃ v : Int, 0 ≤ v ∧ MLnumber [.lst (ns.map D.int), .int k] = .ok (.int v) := by
  unfold MLnumber BLnumber
  rw [runF_def]
  by_cases h : (k : Int) < ns.length
  · have hk : k < ns.length := by omega
    simp -implicitDefEqProofs [asInts_map', h, List.getElem?_eq_getElem hk]
    split <;> omega
  · simp -implicitDefEqProofs [asInts_map', h]
    split <;> omega
theorem hpow18 : opPow (.int 10) (.int 18) = some (.int 1000000000000000000) := (rfl)
theorem asI_0 : asI (.int 0) = some 0 := (rfl)
theorem Ldraws_a (ns : List Int) (k count : Nat) (many v : Int) (hc : count ≤ 1000000) (h1 : 0 < many) (h2 : many < 1073741824) (hv : 0 ≤ v) (e : MLnumber [.lst (ns.map D.int), .int k] = .ok (.int v)) (h : (1000000000000000000 : Int) ≤ v) : ∃ l : List Int, MLdraws [.lst (ns.map D.int), .int k, .int count, .int many] = .ok (.lst (l.map D.int)) ∧ l.length = count ∧ ∀ x ∈ l, 0 ≤ x ∧ x < many := by
  unfold MLdraws BLdraws
  rw [runF_def]
  have hi : asI (.int (count : Int)) = some (count : Int) := by rw [asI_int, if_pos ⟨by omega, by omega⟩]
  obtain ⟨c', hc', l, x, st, hcl, hll, hlx⟩ := forL_rg 6 (sSeq (sApp 5 (eOp2 (opMod) (eV 4) (eV 3))) (sSet 4 (eOp2 (opDiv) (eV 4) (eV 3)))) count
    (fun j c => ∃ (l : List Int) (x : Option O) (st : Int), c = [some (.v (.lst (ns.map D.int))), some (.v (.int k)), some (.v (.int count)), some (.v (.int many)), some (.v (.int st)), some (.lst (l.map fun i => .v (.int i))), x, none, none] ∧ l.length = j ∧ ∀ x ∈ l, 0 ≤ x ∧ x < many)
    [some (.v (.lst (ns.map D.int))), some (.v (.int k)), some (.v (.int count)), some (.v (.int many)), some (.v (.int (v - 1000000000000000000))), some (.lst []), none, none, none]
    (by
      rintro j c hj ⟨l, x, st, rfl, hl, hx⟩
      have hlt : j < 16777216 := by omega
      refine ⟨_, by simp -implicitDefEqProofs [hlt, hl, h1, h2]; rfl, l ++ [st % many], some (.v (.int j)), st / many, by simp, by simp -implicitDefEqProofs [hl], ?_⟩
      intro y hy
      rcases List.mem_append.mp hy with hy | hy
      · exact hx y hy
      · rw [List.mem_singleton.mp hy]; exact ⟨Int.emod_nonneg _ (by omega), Int.emod_lt_of_pos _ h1⟩)
    ⟨[], none, v - 1000000000000000000, by simp, rfl, by simp⟩
  refine ⟨l, ?_, by rw [hll]; simp, hlx⟩
  simp -implicitDefEqProofs [e, hpow18, h, hi, asI_0]
  rw [hc', hcl]; simp

theorem Ldraws_b (ns : List Int) (k count : Nat) (many v : Int) (hc : count ≤ 1000000) (h1 : 0 < many) (h2 : many < 1073741824) (hv : 0 ≤ v) (e : MLnumber [.lst (ns.map D.int), .int k] = .ok (.int v)) (h : ¬ (1000000000000000000 : Int) ≤ v) : ∃ l : List Int, MLdraws [.lst (ns.map D.int), .int k, .int count, .int many] = .ok (.lst (l.map D.int)) ∧ l.length = count ∧ ∀ x ∈ l, 0 ≤ x ∧ x < many := by
  unfold MLdraws BLdraws
  rw [runF_def]
  have hi : asI (.int (count : Int)) = some (count : Int) := by rw [asI_int, if_pos ⟨by omega, by omega⟩]
  obtain ⟨c', hc', l, x, y, st, hcl, hll, hlx, _⟩ := forL_rg 6 (sSeq (sSet 7 (eOp2 (opMod) (eOp2 (opAdd true true) (eOp2 (opAdd true true) (eOp2 (opMul) (eV 7) (eC (.int 48271))) (eOp2 (opMul) (eC (.int 11)) (eV 6))) (eC (.int 7))) (eC (.int 2147483647))))
  (sSeq (sSet 8 (eOp2 (opMod) (eOp2 (opAdd true true) (eOp2 (opAdd true true) (eOp2 (opMul) (eV 7) (eV 7)) (eOp2 (opMul) (eC (.int 69621)) (eV 6))) (eC (.int 5))) (eC (.int 2147483629))))
  (sApp 5 (eOp2 (opMod) (eOp2 (opDiv) (eV 8) (eC (.int 64))) (eV 3))))) count
    (fun j c => ∃ (l : List Int) (x y : Option O) (st : Int), c = [some (.v (.lst (ns.map D.int))), some (.v (.int k)), some (.v (.int count)), some (.v (.int many)), some (.v (.int v)), some (.lst (l.map fun i => .v (.int i))), x, some (.v (.int st)), y] ∧ l.length = j ∧ (∀ x ∈ l, 0 ≤ x ∧ x < many) ∧ 0 ≤ st ∧ st < 2 ^ 32)
    [some (.v (.lst (ns.map D.int))), some (.v (.int k)), some (.v (.int count)), some (.v (.int many)), some (.v (.int v)), some (.lst []), none, some (.v (.int (v % 2147483647 + 1))), none]
    (by
      rintro j c hj ⟨l, x, y, st, rfl, hl, hx, hs, hs'⟩
      have g1 : 0 ≤ (st * 48271 + 11 * (j : Int) + 7) % 2147483647 := Int.emod_nonneg _ (by omega)
      have g2 : (st * 48271 + 11 * (j : Int) + 7) % 2147483647 < 2147483647 := Int.emod_lt_of_pos _ (by omega)
      have hlt : j < 16777216 := by omega
      have g3 : -18446744073709551616 < (st * 48271 + 11 * (j : Int) + 7) % 2147483647 := by omega
      have g4 : (st * 48271 + 11 * (j : Int) + 7) % 2147483647 < 18446744073709551616 := by omega
      refine ⟨_, by simp -implicitDefEqProofs [hlt, hl, h1, h2, g3, g4]; rfl, l ++ [(((st * 48271 + 11 * (j : Int) + 7) % 2147483647) * ((st * 48271 + 11 * (j : Int) + 7) % 2147483647) + 69621 * (j : Int) + 5) % 2147483629 / 64 % many], some (.v (.int j)), some (.v (.int ((((st * 48271 + 11 * (j : Int) + 7) % 2147483647) * ((st * 48271 + 11 * (j : Int) + 7) % 2147483647) + 69621 * (j : Int) + 5) % 2147483629))), (st * 48271 + 11 * (j : Int) + 7) % 2147483647, by simp, by simp -implicitDefEqProofs [hl], ?_, g1, by omega⟩
      intro y hy
      rcases List.mem_append.mp hy with hy | hy
      · exact hx y hy
      · rw [List.mem_singleton.mp hy]; exact ⟨Int.emod_nonneg _ (by omega), Int.emod_lt_of_pos _ h1⟩)
    ⟨[], none, none, v % 2147483647 + 1, by simp, rfl, by simp, by omega, by omega⟩
  refine ⟨l, ?_, by rw [hll]; simp, hlx⟩
  simp -implicitDefEqProofs [e, hpow18, h, hi, asI_0]
  rw [hc', hcl]; simp

theorem Ldraws_spec (ns : List Int) (k count : Nat) (many : Int) (hc : count ≤ 1000000) (h1 : 0 < many) (h2 : many < 1073741824) : ∃ l : List Int, MLdraws [.lst (ns.map D.int), .int k, .int count, .int many] = .ok (.lst (l.map D.int)) ∧ l.length = count ∧ ∀ x ∈ l, 0 ≤ x ∧ x < many := by
  obtain ⟨v, hv, e⟩ := Lnumber_spec ns k
  by_cases h : (1000000000000000000 : Int) ≤ v
  · exact Ldraws_a ns k count many v hc h1 h2 hv e h
  · exact Ldraws_b ns k count many v hc h1 h2 hv e h
end GW

namespace GW
open PySem PySem.Spec PyProof.Rows L2 VS
theorem Lsame_loop (m : Nat) (ds : List D) (tu : List D → D) (htu : tu = D.lst ∨ tu = D.tup) (h : ∀ d ∈ ds, MLsameN m [d, d] = .ok (.bl true)) :
    ∃ c', forL 2 (sIf (tNot' (eTru (eCall (MLsameN m) (eCons (eOp2 (opIx true) (eV 0) (eV 2)) (eCons (eOp2 (opIx true) (eV 1) (eV 2)) eNil))))) (sRet (eC (.bl false))) sNil) (rangeD 0 ds.length) [some (.v (tu ds)), some (.v (tu ds)), none] = .ok .nx c' := by
  obtain ⟨c', h1, _⟩ := forL_rg 2 (sIf (tNot' (eTru (eCall (MLsameN m) (eCons (eOp2 (opIx true) (eV 0) (eV 2)) (eCons (eOp2 (opIx true) (eV 1) (eV 2)) eNil))))) (sRet (eC (.bl false))) sNil) ds.length
    (fun j c => ∃ x, c = [some (.v (tu ds)), some (.v (tu ds)), x]) [some (.v (tu ds)), some (.v (tu ds)), none]
    (by
      rintro j c hj ⟨x, rfl⟩
      have hj' : j < ds.length := by omega
      have hd : atI ds (j : Int) = some ds[j] := by rw [atI_ofNat, List.getElem?_eq_getElem hj']
      have hm := h _ (List.getElem_mem hj')
      refine ⟨_, ?_, some (.v (.int j)), rfl⟩
      rcases htu with rfl | rfl <;> simp -implicitDefEqProofs [hd, hm]) ⟨none, rfl⟩
  exact ⟨c', h1⟩
theorem Lsame_n {n : Nat} {d : D} (s : Sm n d) : ∀ m, n < m → MLsameN m [d, d] = .ok (.bl true) := by
  induction s with
  | non => rintro (_ | m) h; · omega
           simp -implicitDefEqProofs [MLsameN, BLsame, isI, opEq, D.eqv]
  | bl t => rintro (_ | m) h; · omega
            simp -implicitDefEqProofs [MLsameN, BLsame, isI]
  | int i => rintro (_ | m) h; · omega
             simp -implicitDefEqProofs [MLsameN, BLsame, isI]
  | str l hl =>
    rintro (_ | m) h; · omega
    simp -implicitDefEqProofs [MLsameN, BLsame, isI, opEq_self (d := .str l) (by rw [pln_str]; exact hl)]
  | lst ds hl hk ih =>
    rintro (_ | m) h; · omega
    obtain ⟨c', e⟩ := Lsame_loop m ds D.lst (.inl rfl) fun d hd => ih d hd m (by omega)
    simp -implicitDefEqProofs [MLsameN, BLsame, isI, asI_small (i := (ds.length : Int)) (by omega) hl, asI_zero]
    rw [e]
  | tup ds hl hk ih =>
    rintro (_ | m) h; · omega
    obtain ⟨c', e⟩ := Lsame_loop m ds D.tup (.inr rfl) fun d hd => ih d hd m (by omega)
    simp -implicitDefEqProofs [MLsameN, BLsame, isI, asI_small (i := (ds.length : Int)) (by omega) hl, asI_zero]
    rw [e]
theorem Lsame_ok {d : D} (s : Sm 63 d) : MLsame [d, d] = .ok (.bl true) := Lsame_n s 64 (by omega)
end GW

namespace VS
open PySem PySem.Spec PyProof.Rows L2
theorem compL_mapm {α : Type} (g : Env → R D) (i : Nat) (c : Env) (k : α → D) (f : α → D) : ∀ (l : List α), (∀ x ∈ l, g (c.set i (some (.v (k x)))) = .ok (f x)) → compL tYes' g i c (l.map k) = .ok (l.map f)
  | [], _ => rfl
  | d :: ds, h => by
    rw [List.map_cons, compL_cons, tYes_def]
    simp only [noX_ok, ok_bind, if_true]
    rw [h d List.mem_cons_self, compL_mapm g i c k f ds fun d hd => h d (List.mem_cons_of_mem _ hd)]
    rfl
theorem compL_filterm {α : Type} (t : Env → R Bool) (g : Env → R D) (i : Nat) (c : Env) (k : α → D) (p : α → Bool) (f : α → D) : ∀ (l : List α), (∀ x ∈ l, t (c.set i (some (.v (k x)))) = .ok (p x)) → (∀ x ∈ l, p x = true → g (c.set i (some (.v (k x)))) = .ok (f x)) → compL t g i c (l.map k) = .ok ((l.filter p).map f)
  | [], _, _ => rfl
  | d :: ds, h, q => by
    have ih := compL_filterm t g i c k p f ds (fun d hd => h d (List.mem_cons_of_mem _ hd)) fun d hd => q d (List.mem_cons_of_mem _ hd)
    rw [List.map_cons, compL_cons, h d List.mem_cons_self]
    simp only [noX_ok, ok_bind]
    cases hp : p d with
    | true =>
      rw [if_pos rfl, q d List.mem_cons_self hp, ih, List.filter_cons_of_pos hp]
      rfl
    | false =>
      rw [if_neg (by decide), ih, List.filter_cons_of_neg (by simp [hp])]
/-- a loop whose turns go on, or one of which returns d -/
theorem forL_opt {α β : Type} (i : Nat) (g : Env → Rs) (emb : β → D) (E : α → Env → Prop) (step : α → β → Option α) (d : D) : ∀ (xs : List β) (s : α) (c : Env), E s c →
    (∀ s c, E s c → ∀ x ∈ xs, match step s x with
      | some s' => ∃ c', Nx g (c.set i (some (.v (emb x)))) c' ∧ E s' c'
      | none => Ret g (c.set i (some (.v (emb x)))) d) →
    match xs.foldlM step s with
      | some s' => ∃ c', forL i g (xs.map emb) c = .ok .nx c' ∧ E s' c'
      | none => ∃ c', forL i g (xs.map emb) c = .ok (.rt d) c'
  | [], s, c, e, _ => ⟨c, rfl, e⟩
  | x :: xs, s, c, e, h => by
    have hx := h s c e x List.mem_cons_self
    rw [List.foldlM_cons]
    cases k : step s x with
    | none =>
      rw [k] at hx
      obtain ⟨c', hx⟩ := hx
      show ∃ c', _
      exact ⟨c', by rw [List.map_cons, forL_cons, hx]⟩
    | some s' =>
      rw [k] at hx
      obtain ⟨c', hx, e'⟩ := hx
      have ih := forL_opt i g emb E step d xs s' c' e' fun s c e x m => h s c e x (List.mem_cons_of_mem _ m)
      show match xs.foldlM step s' with
        | some s' => ∃ c', forL i g ((x :: xs).map emb) c = .ok .nx c' ∧ E s' c'
        | none => ∃ c', forL i g ((x :: xs).map emb) c = .ok (.rt d) c'
      rw [List.map_cons, forL_cons, show g (c.set i (some (.v (emb x)))) = .ok .nx c' from hx]
      exact ih
theorem Ret.for {i : Nat} {gs : Env → R (List D)} {g : Env → Rs} {c : Env} {ds : List D} {d : D} (h : gs c = .ok ds) (k : ∃ c', forL i g ds c = .ok (.rt d) c') : Ret (sFor i gs g) c d := by
  obtain ⟨c', k⟩ := k
  exact ⟨c', by rw [sFor_def, h]; exact k⟩
end VS
namespace GW
open PySem PySem.Spec PyProof.Rows L2 VS
abbrev ni (x : Nat) : D := .int (x : Int)
abbrev oD (d : D) : Option O := some (.v d)
def Wd' (lt : Nat) (w : List Nat) : Prop := ∀ c ∈ w, 97 ≤ c ∧ c < 97 + lt
theorem idx_let {k : Nat} (hk : k < 3) : fSIndex [97, 98, 99] [.str [97 + k]] = some (.int (k : Int)) := by
  have : k = 0 ∨ k = 1 ∨ k = 2 := by omega
  have o : Builtin.Str.occurrences (S [97, 98, 99]) (S [97]) 0 3 1 = [0] ∧ Builtin.Str.occurrences (S [97, 98, 99]) (S [98]) 0 3 1 = [1] ∧ Builtin.Str.occurrences (S [97, 98, 99]) (S [99]) 0 3 1 = [2] := by decide +kernel
  rcases this with rfl | rfl | rfl <;> simp [fSIndex, o]
theorem abc_at {k : Nat} (hk : k < 3) : opIx true (.str [97, 98, 99]) (.int (k : Int)) = some (.str [97 + k]) := by
  have : k = 0 ∨ k = 1 ∨ k = 2 := by omega
  rcases this with rfl | rfl | rfl <;> rfl
theorem joinL_one (l : List Nat) : TL.joinL [] (l.map fun x => [x]) = l := by
  induction l with
  | nil => rfl
  | cons a l ih =>
    cases l with
    | nil => rfl
    | cons b l =>
      rw [List.map_cons, List.map_cons, TL.joinL]
      simpa using ih
theorem Lword_spec {lt : Nat} (l : List Int) (h1 : 1 ≤ lt) (h2 : lt ≤ 3) (hl : l.length ≤ 1000) : ∃ w, MLword [.lst (l.map D.int), .int lt] = .ok (.str w) ∧ Wd' lt w ∧ w.length = l.length := by
  have e := compL_mapm (eOp2 (opIx true) (eC (.str [97, 98, 99])) (eOp2 (opMod) (eV 2) (eV 1))) 2 [some (.v (.lst (l.map D.int))), some (.v (.int lt)), none] D.int (fun x => .str [97 + (x % lt).toNat]) l (by
    intro x hx
    have g1 : 0 ≤ x % (lt : Int) := Int.emod_nonneg _ (by omega)
    have g2 : x % (lt : Int) < lt := Int.emod_lt_of_pos _ (by omega)
    obtain ⟨k, hk⟩ := Int.eq_ofNat_of_zero_le g1
    have : k < 3 := by omega
    simp -implicitDefEqProofs [-opIx_str, show 0 < lt by omega, hk, abc_at this])
  have e2 : (l.map fun x => D.str [97 + (x % (lt : Int)).toNat]) = (l.map fun x => [97 + (x % (lt : Int)).toNat]).map D.str := by simp
  have e3 : (l.map fun x => [97 + (x % (lt : Int)).toNat]) = (l.map fun x => 97 + (x % (lt : Int)).toNat).map fun x => [x] := by simp
  refine ⟨l.map fun x => 97 + (x % (lt : Int)).toNat, ?_, ?_, by simp⟩
  · rw [e2] at e
    simp -implicitDefEqProofs [MLword, BLword, -List.map_map]
    rw [e]
    simp -implicitDefEqProofs [-List.map_map, show l.length ≤ 16777216 by omega]
    rw [e3, joinL_one]
    simp -implicitDefEqProofs [Function.comp_def, List.map_const', show l.length ≤ 16777216 by omega]
  · intro c hc
    obtain ⟨x, hx, rfl⟩ := List.mem_map.mp hc
    have g1 : 0 ≤ x % (lt : Int) := Int.emod_nonneg _ (by omega)
    have g2 : x % (lt : Int) < lt := Int.emod_lt_of_pos _ (by omega)
    omega
theorem nat_of {x : Int} (h : 0 ≤ x) : ∃ k : Nat, x = k := ⟨x.toNat, (Int.toNat_of_nonneg h).symm⟩
theorem nat_eq (a b : Nat) : opEq (.int (a : Int)) (.int (b : Int)) = some (.bl (a == b)) := by
  rw [opEq_int]
  congr 2
  rw [Bool.eq_iff_iff, beq_iff_eq, beq_iff_eq]
  omega
/-! words within words -/
def Okw (w : List Nat) : Prop := w.all (· < 0x110000) = true
theorem str_eq {a b : List Nat} (ha : Okw a) (hb : Okw b) : opEq (.str a) (.str b) = some (.bl (a == b)) := by
  unfold opEq
  rw [pln_str, pln_str, ha, hb, eqv_str]
  rfl
def sbl (u w : List Nat) : Bool := u.isSublist w
theorem sbl_step {u : List Nat} {a : Nat} {j : Nat} {w : List Nat} (h : j < w.length) (ha : a ≤ u.length) :
    sbl (u.drop a) (w.drop j) = sbl (u.drop (if a < u.length ∧ u[a]? = some w[j] then a + 1 else a)) (w.drop (j + 1)) := by
  rw [List.drop_eq_getElem_cons h]
  by_cases ha' : a < u.length
  · rw [List.drop_eq_getElem_cons ha', List.getElem?_eq_getElem ha']
    unfold sbl
    rw [List.isSublist]
    by_cases e : u[a] = w[j]
    · rw [if_pos (by simpa using e), if_pos ⟨ha', by rw [e]⟩]
    · rw [if_neg (by simpa using e), if_neg (by rintro ⟨_, h⟩; exact e (Option.some.inj h)), List.drop_eq_getElem_cons ha']
  · rw [if_neg (by rintro ⟨h, _⟩; exact ha' h)]
    have : u.drop a = [] := List.drop_eq_nil_of_le (by omega)
    rw [this]
    unfold sbl
    simp [List.isSublist]
theorem one_ok {w : List Nat} (hw : Okw w) {j : Nat} (h : j < w.length) : Okw [w[j]] := by
  unfold Okw at *
  have := List.all_eq_true.mp hw _ (List.getElem_mem h)
  simpa using this
theorem scattered_spec {u w : List Nat} (hu : Okw u) (hw : Okw w) (hul : u.length ≤ 1000) (hwl : w.length ≤ 1000) : MLscattered [.str u, .str w] = .ok (.bl (sbl u w)) := by
  obtain ⟨c', e, a, x, rfl, ha, hs⟩ := forL_ex 3 (sIf (tAnd' (eB (eOp2 (opRel fun i j => decide (i < j)) (eV 2) (eFn (fLen) (eCons (eV 0) eNil)))) (eB (eOp2 (opEq) (eOp2 (opIx true) (eV 0) (eV 2)) (eV 3))))
    (sSet 2 (eOp2 (opAdd true true) (eV 2) (eC (.int 1))))
    sNil) (fun j c => ∃ (a : Nat) (x : Option O), c = [oD (.str u), oD (.str w), oD (ni a), x] ∧ a ≤ u.length ∧ sbl (u.drop a) (w.drop j) = sbl u w) (w.map fun x => .str [x])
    [oD (.str u), oD (.str w), oD (ni 0), none] (by
      rintro j d c hd ⟨a, x, rfl, ha, hs⟩
      rw [List.getElem?_map] at hd
      obtain ⟨q, hq, rfl⟩ := Option.map_eq_some_iff.mp hd
      obtain ⟨hj, rfl⟩ := List.getElem?_eq_some_iff.mp hq
      have hstep := sbl_step (u := u) (a := a) hj ha
      rw [hs] at hstep
      by_cases ha' : a < u.length
      · have hx : opIx true (.str u) (ni a) = some (.str [u[a]]) := by
          rw [opIx_str, if_pos (by omega), atI_ofNat, List.getElem?_eq_getElem ha']; rfl
        have he := str_eq (one_ok hu ha') (one_ok hw hj)
        by_cases e : u[a] = w[j]
        · rw [if_pos ⟨ha', by rw [List.getElem?_eq_getElem ha', e]⟩] at hstep
          refine ⟨_, Nx.yes ?_ ((Nx.set (d := ni (a + 1)) ?_).to rfl), a + 1, _, rfl, by omega, hstep.symm⟩
          · have e' : ([u[a]] == [w[j]]) = true := by simpa using e
            simp -implicitDefEqProofs [-opIx_str, hx, he, e', show u.length ≤ 16777216 by omega, ha']
          · simp -implicitDefEqProofs
        · rw [if_neg (by rintro ⟨_, h⟩; rw [List.getElem?_eq_getElem ha'] at h; exact e (Option.some.inj h))] at hstep
          refine ⟨_, Nx.no ?_ Nx.nil, a, _, rfl, ha, hstep.symm⟩
          have e' : ([u[a]] == [w[j]]) = false := by simpa using e
          simp -implicitDefEqProofs [-opIx_str, hx, he, e', show u.length ≤ 16777216 by omega, ha']
      · rw [if_neg (by rintro ⟨h, _⟩; exact ha' h)] at hstep
        refine ⟨_, Nx.no ?_ Nx.nil, a, _, rfl, ha, hstep.symm⟩
        simp -implicitDefEqProofs [show u.length ≤ 16777216 by omega, ha'])
    ⟨0, none, rfl, by omega, by simp⟩
  rw [List.length_map, List.drop_length] at hs
  have hfin : (a == u.length) = sbl u w := by
    rw [← hs]
    by_cases e : a = u.length
    · rw [e, List.drop_length]; simp [sbl, List.isSublist]
    · rw [List.drop_eq_getElem_cons (show a < u.length by omega)]; simp [sbl, List.isSublist, e]
  unfold MLscattered BLscattered
  refine ret_of (.seq (.set (d := ni 0) (by simp -implicitDefEqProofs)) (.seq (.for (ds := w.map fun x => .str [x]) ?_ e) (.ret ?_)))
  · simp -implicitDefEqProofs [show w.length ≤ 16777216 by omega]
  · simp -implicitDefEqProofs [-opEq_int, show u.length ≤ 16777216 by omega, nat_eq, hfin]
end GW

namespace GW
open PySem PySem.Spec PyProof.Rows L2 VS
/-! the words scattered in a word, in the short order -/
def lets (lt : Nat) : List Nat := ([97, 98, 99] : List Nat).take lt
theorem lets_mem {lt c : Nat} (hc : c ∈ lets lt) : 97 ≤ c ∧ c < 100 := by
  have := List.mem_of_mem_take hc
  simp at this
  omega
theorem lets_len (lt : Nat) : (lets lt).length ≤ 3 := by unfold lets; rw [List.length_take]; simp; omega
def grow (lt : Nat) (P : List Nat → Bool) (lev : List (List Nat)) : List (List Nat) := lev.flatMap fun b => ((lets lt).map fun c => b ++ [c]).filter P
def lev (lt : Nat) (P : List Nat → Bool) : Nat → List (List Nat)
  | 0 => [[]]
  | j + 1 => grow lt P (lev lt P j)
def subsN (lt : Nat) (P : List Nat → Bool) : Nat → List (List Nat)
  | 0 => [[]]
  | j + 1 => subsN lt P j ++ lev lt P (j + 1)
theorem lev_len {lt : Nat} {P : List Nat → Bool} : ∀ (j : Nat) {u : List Nat}, u ∈ lev lt P j → u.length = j
  | 0, u, h => by rw [List.mem_singleton.mp h]; rfl
  | j + 1, u, h => by
    obtain ⟨b, hb, h⟩ := List.mem_flatMap.mp h
    obtain ⟨c, _, rfl⟩ := List.mem_map.mp (List.mem_filter.mp h).1
    rw [List.length_append, lev_len j hb]
    rfl
theorem lev_ok {lt : Nat} {P : List Nat → Bool} : ∀ (j : Nat) {u : List Nat}, u ∈ lev lt P j → Okw u
  | 0, u, h => by rw [List.mem_singleton.mp h]; rfl
  | j + 1, u, h => by
    obtain ⟨b, hb, h⟩ := List.mem_flatMap.mp h
    obtain ⟨c, hc, rfl⟩ := List.mem_map.mp (List.mem_filter.mp h).1
    have := lets_mem hc
    unfold Okw
    rw [List.all_append, lev_ok j hb]
    simp
    omega
theorem grow_congr {lt : Nat} {P P' : List Nat → Bool} {l : List (List Nat)} (h : ∀ b ∈ l, ∀ c ∈ lets lt, P (b ++ [c]) = P' (b ++ [c])) : grow lt P l = grow lt P' l := by
  unfold grow
  induction l with
  | nil => rfl
  | cons b l ih =>
    rw [List.flatMap_cons, List.flatMap_cons, ih fun x hx => h x (List.mem_cons_of_mem _ hx)]
    congr 1
    apply List.filter_congr
    intro u hu
    obtain ⟨c, hc, rfl⟩ := List.mem_map.mp hu
    exact h b List.mem_cons_self c hc
theorem lev_congr {lt k : Nat} {P P' : List Nat → Bool} (h : ∀ u, u.length ≤ k → P u = P' u) : ∀ j, j ≤ k → lev lt P j = lev lt P' j
  | 0, _ => rfl
  | j + 1, hj => by
    rw [lev, lev, ← lev_congr h j (by omega)]
    refine grow_congr fun b hb c _ => h _ ?_
    rw [List.length_append, lev_len j hb]
    exact hj
theorem subsN_congr {lt k : Nat} {P P' : List Nat → Bool} (h : ∀ u, u.length ≤ k → P u = P' u) : ∀ j, j ≤ k → subsN lt P j = subsN lt P' j
  | 0, _ => rfl
  | j + 1, hj => by rw [subsN, subsN, subsN_congr h j (by omega), lev_congr h (j + 1) hj]
theorem lev_nil {lt m : Nat} {P : List Nat → Bool} (h : ∀ u, m < u.length → P u = false) : ∀ j, m < j → lev lt P j = []
  | 0, hj => absurd hj (by omega)
  | j + 1, hj => by
    rw [lev]
    refine List.eq_nil_iff_forall_not_mem.mpr fun u hu => ?_
    obtain ⟨b, hb, hu⟩ := List.mem_flatMap.mp hu
    obtain ⟨hu, hp⟩ := List.mem_filter.mp hu
    obtain ⟨c, _, rfl⟩ := List.mem_map.mp hu
    rw [h _ (by rw [List.length_append, lev_len j hb]; exact hj)] at hp
    cases hp
theorem subsN_stop {lt m : Nat} {P : List Nat → Bool} (h : ∀ u, m < u.length → P u = false) : ∀ j, subsN lt P (m + j) = subsN lt P m
  | 0 => rfl
  | j + 1 => by
    rw [← Nat.add_assoc, subsN, lev_nil h _ (by omega), List.append_nil, subsN_stop h j]
theorem sbl_iff (u w : List Nat) : sbl u w = true ↔ u.Sublist w := by
  unfold sbl
  exact List.isSublist_iff_sublist
theorem sbl_long {u w : List Nat} (h : w.length < u.length) : sbl u w = false := by
  cases e : sbl u w with
  | false => rfl
  | true =>
    have := ((sbl_iff u w).mp e).length_le
    omega
/-- all up to the length k -/
def subs (k lt : Nat) (w : List Nat) : List (List Nat) := subsN lt (fun u => sbl u w) k
theorem subs_min (k lt : Nat) (w : List Nat) : subsN lt (fun u => sbl u w) (min k w.length) = subs k lt w := by
  unfold subs
  by_cases h : k ≤ w.length
  · rw [Nat.min_eq_left h]
  · rw [Nat.min_eq_right (by omega)]
    obtain ⟨j, rfl⟩ : ∃ j, k = w.length + j := ⟨k - w.length, by omega⟩
    rw [subsN_stop fun u h => sbl_long h]
/-- words alike up to the length k -/
def Alk (k : Nat) (w z : List Nat) : Prop := ∀ u : List Nat, u.length ≤ k → (u.Sublist w ↔ u.Sublist z)
theorem subs_alk {k lt : Nat} {w z : List Nat} (h : Alk k w z) : subs k lt w = subs k lt z := by
  unfold subs
  refine subsN_congr (k := k) (fun u hu => ?_) k (Nat.le_refl k)
  rw [Bool.eq_iff_iff, sbl_iff, sbl_iff]
  exact h u hu
theorem lev_card {lt : Nat} {P : List Nat → Bool} : ∀ j, (lev lt P j).length ≤ 3 ^ j
  | 0 => by simp [lev]
  | j + 1 => by
    have g : ∀ l : List (List Nat), (grow lt P l).length ≤ 3 * l.length := by
      intro l
      induction l with
      | nil => simp [grow]
      | cons b l ih =>
        unfold grow at ih ⊢
        rw [List.flatMap_cons, List.length_append, List.length_cons]
        have a := List.length_filter_le P ((lets lt).map fun c => b ++ [c])
        rw [List.length_map] at a
        have := lets_len lt
        omega
    have := g (lev lt P j)
    have := lev_card (lt := lt) (P := P) j
    rw [lev, Nat.pow_succ]
    omega
theorem subsN_card {lt : Nat} {P : List Nat → Bool} : ∀ j, (subsN lt P j).length ≤ 3 ^ (j + 1)
  | 0 => by simp [subsN]
  | j + 1 => by
    rw [subsN, List.length_append]
    have := subsN_card (lt := lt) (P := P) j
    have := lev_card (lt := lt) (P := P) (j + 1)
    rw [Nat.pow_succ 3 (j + 1)]
    omega
theorem subsN_ok {lt : Nat} {P : List Nat → Bool} : ∀ (j : Nat) {u : List Nat}, u ∈ subsN lt P j → Okw u
  | 0, u, h => by rw [List.mem_singleton.mp h]; rfl
  | j + 1, u, h => by
    rcases List.mem_append.mp h with h | h
    · exact subsN_ok j h
    · exact lev_ok _ h
/-! the text of the law -/
abbrev oS (l : List (List Nat)) : Option O := some (.lst (l.map fun w => .v (.str w)))
abbrev lS (l : List (List Nat)) : D := .lst (l.map D.str)
abbrev bodyI : VS.Env → Rs := (sIf (eTru (eCall MLscattered (eCons (eOp2 (opAdd true true) (eV 7) (eV 8)) (eCons (eV 2) eNil))))
    (sApp 6 (eOp2 (opAdd true true) (eV 7) (eV 8)))
    sNil)
abbrev bodyO : VS.Env → Rs := (sFor 8 (eIt true (eSl true (eC (.str [97, 98, 99])) eNoO (eO (eV 1)))) bodyI)
theorem inner {k : D} {lt : Nat} {w : List Nat} (hw : Okw w) (hwl : w.length ≤ 1000) (x3 x4 x5 y8 : Option O) {b : List Nat} (hb : Okw b) (hbl : b.length ≤ 900) {found : List (List Nat)} (hf : found.length ≤ 100000) :
    ∃ y8', Nx bodyO [oD k, oD (ni lt), oD (.str w), x3, x4, x5, oS found, oD (.str b), y8] [oD k, oD (ni lt), oD (.str w), x3, x4, x5, oS (found ++ ((lets lt).map fun c => b ++ [c]).filter fun u => sbl u w), oD (.str b), y8'] := by
  have hl3 := lets_len lt
  obtain ⟨c', e, y8', hc⟩ := forL_ex 8 bodyI (fun j c => ∃ y8, c = [oD k, oD (ni lt), oD (.str w), x3, x4, x5, oS (found ++ (((lets lt).take j).map fun c => b ++ [c]).filter fun u => sbl u w), oD (.str b), y8]) ((lets lt).map fun x => .str [x])
    [oD k, oD (ni lt), oD (.str w), x3, x4, x5, oS found, oD (.str b), y8] (by
      rintro j d c hd ⟨y8, rfl⟩
      rw [List.getElem?_map] at hd
      obtain ⟨q, hq, rfl⟩ := Option.map_eq_some_iff.mp hd
      obtain ⟨hj, rfl⟩ := List.getElem?_eq_some_iff.mp hq
      have hcm := lets_mem (List.getElem_mem hj)
      have hok : Okw (b ++ [(lets lt)[j]]) := by
        unfold Okw at *
        rw [List.all_append, hb]
        simp
        omega
      have sc := scattered_spec hok hw (by simp; omega) hwl
      have hfl : (found ++ (((lets lt).take j).map fun c => b ++ [c]).filter fun u => sbl u w).length < 16777216 := by
        rw [List.length_append]
        have := List.length_filter_le (fun u => sbl u w) (((lets lt).take j).map fun c => b ++ [c])
        rw [List.length_map, List.length_take] at this
        omega
      rw [List.take_succ_eq_append_getElem hj, List.map_append, List.filter_append, ← List.append_assoc]
      generalize (found ++ (((lets lt).take j).map fun c => b ++ [c]).filter fun u => sbl u w) = fd at hfl ⊢
      generalize (lets lt)[j] = c at sc ⊢
      have hbl' : b.length + 1 ≤ 16777216 := by omega
      cases hs : sbl (b ++ [c]) w with
      | true =>
        rw [hs] at sc
        refine ⟨_, Nx.yes ?_ ?_, oD (.str [c]), rfl⟩
        · simp -implicitDefEqProofs [sc, hbl']
        · unfold Nx
          simp -implicitDefEqProofs [hbl', hfl, hs]
      | false =>
        rw [hs] at sc
        refine ⟨_, Nx.no ?_ Nx.nil, oD (.str [c]), ?_⟩
        · simp -implicitDefEqProofs [sc, hbl']
        · simp [hs])
    ⟨y8, by simp⟩
  rw [List.length_map, List.take_length] at hc
  refine ⟨y8', .for ?_ (e.trans (by rw [hc]))⟩
  have hc : cutD [97, 98, 99] none (some (lt : Int)) = lets lt := cut_to _ lt
  simp -implicitDefEqProofs [hc]
  rw [if_pos (by omega)]
  rfl
theorem level {k : D} {lt : Nat} {w : List Nat} (hw : Okw w) (hwl : w.length ≤ 1000) (x3 x5 y7 y8 : Option O) (l : List (List Nat)) (hl : ∀ b ∈ l, Okw b ∧ b.length ≤ 900) (hll : l.length ≤ 10000) :
    ∃ y7' y8', Nx (sFor 7 (eIt true (eV 4)) bodyO) [oD k, oD (ni lt), oD (.str w), x3, oD (lS l), x5, oS [], y7, y8] [oD k, oD (ni lt), oD (.str w), x3, oD (lS l), x5, oS (grow lt (fun u => sbl u w) l), y7', y8'] := by
  obtain ⟨c', e, y7', y8', hc⟩ := forL_ex 7 bodyO (fun j c => ∃ y7 y8, c = [oD k, oD (ni lt), oD (.str w), x3, oD (lS l), x5, oS (grow lt (fun u => sbl u w) (l.take j)), y7, y8]) (l.map D.str)
    [oD k, oD (ni lt), oD (.str w), x3, oD (lS l), x5, oS [], y7, y8] (by
      rintro j d c hd ⟨y7, y8, rfl⟩
      rw [List.getElem?_map] at hd
      obtain ⟨q, hq, rfl⟩ := Option.map_eq_some_iff.mp hd
      obtain ⟨hj, rfl⟩ := List.getElem?_eq_some_iff.mp hq
      obtain ⟨h1, h2⟩ := hl _ (List.getElem_mem hj)
      have card : ∀ m : List (List Nat), (grow lt (fun u => sbl u w) m).length ≤ 3 * m.length := by
        intro m
        induction m with
        | nil => simp [grow]
        | cons b m ih =>
          unfold grow at ih ⊢
          rw [List.flatMap_cons, List.length_append, List.length_cons]
          have a := List.length_filter_le (fun u => sbl u w) ((lets lt).map fun c => b ++ [c])
          rw [List.length_map] at a
          have := lets_len lt
          omega
      have hc := card (l.take j)
      rw [List.length_take] at hc
      obtain ⟨y8', E⟩ := inner (k := k) (lt := lt) hw hwl x3 (oD (lS l)) x5 y8 h1 h2 (found := grow lt (fun u => sbl u w) (l.take j)) (by omega)
      refine ⟨_, E, oD (.str l[j]), y8', ?_⟩
      rw [List.take_succ_eq_append_getElem hj]
      unfold grow
      rw [List.flatMap_append]
      simp)
    ⟨y7, y8, by simp [grow]⟩
  rw [List.length_map, List.take_length] at hc
  exact ⟨y7', y8', .for (by simp -implicitDefEqProofs) (e.trans (by rw [hc]))⟩
theorem flats_str (l : List (List Nat)) : D.flats (l.map D.str) = true := by
  induction l with
  | nil => simp [D.flats]
  | cons a l ih => rw [List.map_cons, D.flats, ih]; rfl
def tS (l : List (List Nat)) : D := .tup (l.map D.str)
theorem subwords_spec {k lt : Nat} {w : List Nat} (hk : k ≤ 6) (hw : Okw w) (hwl : w.length ≤ 1000) : MLsubwords [ni k, ni lt, .str w] = .ok (tS (subs k lt w)) := by
  obtain ⟨P, hP⟩ : ∃ P : List Nat → Bool, P = fun u => sbl u w := ⟨_, rfl⟩
  have mle : min k w.length ≤ 6 := by omega
  obtain ⟨c', e, y5, y6, y7, y8, hc⟩ := forL_rg 5 (sSeq (sSetO 6 (eFnO fLstO eNil))
    (sSeq (sFor 7 (eIt true (eV 4)) bodyO)
    (sSeq (sSet 3 (eOp2 (opAdd true false) (eV 3) (eL 6)))
    (sFz 6 (sSet 4 (eV 6)))))) (min k w.length : Nat) (fun j c => ∃ y5 y6 y7 y8, c = [oD (ni k), oD (ni lt), oD (.str w), oD (lS (subsN lt P j)), oD (lS (lev lt P j)), y5, y6, y7, y8])
    [oD (ni k), oD (ni lt), oD (.str w), oD (lS [[]]), oD (lS [[]]), none, none, none, none] (by
      rintro j c hj ⟨y5, y6, y7, y8, rfl⟩
      have hj6 : j ≤ 6 := by omega
      have p6 : ∀ i, i ≤ 7 → 3 ^ i ≤ 2187 := fun i hi => Nat.pow_le_pow_right (n := 3) (by omega) hi
      have c1 := lev_card (lt := lt) (P := P) j
      have c2 := subsN_card (lt := lt) (P := P) j
      have c3 := lev_card (lt := lt) (P := P) (j + 1)
      have q1 := p6 j (by omega)
      have q2 := p6 (j + 1) (by omega)
      obtain ⟨y7', y8', E⟩ := level (k := ni k) (lt := lt) hw hwl (oD (lS (subsN lt P j))) (oD (ni j)) y7 y8 (lev lt P j) (fun b hb => ⟨lev_ok j hb, by rw [lev_len j hb]; omega⟩) (by omega)
      rw [← hP, show grow lt P (lev lt P j) = lev lt P (j + 1) from rfl] at E
      refine ⟨_, Nx.seq (.setO (d := .lst []) (by simp -implicitDefEqProofs)) (.seq E (.seq (.set (d := lS (subsN lt P (j + 1))) ?_) (.fz ((Nx.set (d := lS (lev lt P (j + 1))) ?_).to rfl)))), _, _, _, _, rfl⟩
      · have hle : (subsN lt P j).length + (lev lt P (j + 1)).length ≤ 16777216 := by omega
        rw [subsN]
        simp -implicitDefEqProofs [Function.comp_def, flats_str, hle]
      · simp -implicitDefEqProofs [Function.comp_def])
    ⟨none, none, none, none, rfl⟩
  rw [Int.toNat_natCast] at hc
  have hmn : (if ((w.length : Nat) : Int) < (k : Int) then ((w.length : Nat) : Int) else (k : Int)) = ((min k w.length : Nat) : Int) := by split <;> omega
  have hcard := subsN_card (lt := lt) (P := P) (min k w.length)
  unfold MLsubwords BLsubwords
  refine ret_of (.seq (.set (d := lS [[]]) (by simp -implicitDefEqProofs)) (.seq (.set (d := lS [[]]) (by simp -implicitDefEqProofs)) (.seq (.for (ds := rangeD 0 (min k w.length : Nat)) ?_ e) (.ret ?_))))
  · have ha := asI_small (i := ((min k w.length : Nat) : Int)) (by omega) (by omega)
    simp -implicitDefEqProofs only [eItR_def, eC_def, ok_bind, asI_zero, lift_some, eFn_def, eCons_def, eNil_def, eV_def, List.map_cons, List.map_nil, List.cons_append, List.nil_append, List.getElem?_cons_zero, List.getElem?_cons_succ, List.set_cons_zero, List.set_cons_succ, fLen_str, fMin2_int, hmn, ha]
    rw [if_pos (by omega)]
    simp -implicitDefEqProofs only [ok_bind, lift_some, fMin2_int, hmn, ha]
  · rw [hc, ← subs_min, ← hP]
    simp -implicitDefEqProofs [tS]
end GW

namespace GW
open PySem PySem.Spec PyProof.Rows L2 VS
/-! words alike -/
abbrev pw (P : List Nat) (c : Nat) : List Nat := (List.replicate c P).flatten
theorem sub_pw (P : List Nat) : ∀ t : List Nat, (∀ a ∈ t, a ∈ P) → t.Sublist (pw P t.length)
  | [], _ => by simp
  | a :: t, h => by
    rw [List.length_cons]
    unfold pw
    rw [List.replicate_succ, List.flatten_cons]
    have h1 : [a].Sublist P := List.singleton_sublist.mpr (h a List.mem_cons_self)
    exact List.Sublist.append h1 (sub_pw P t fun b hb => h b (List.mem_cons_of_mem _ hb))
theorem pw_mono (P : List Nat) {a b : Nat} (h : a ≤ b) : (pw P a).Sublist (pw P b) := by
  obtain ⟨c, rfl⟩ : ∃ c, b = a + c := ⟨b - a, by omega⟩
  unfold pw
  rw [← List.replicate_append_replicate, List.flatten_append]
  exact List.sublist_append_left _ _
theorem pw_mem {P : List Nat} {c a : Nat} (h : a ∈ pw P c) : a ∈ P := by
  obtain ⟨l, hl, h⟩ := List.mem_flatten.mp h
  rw [(List.mem_replicate.mp hl).2] at h
  exact h
/-- letters of P behind or ahead of P many times change nothing -/
theorem alk_mid {k c : Nat} (hc : k ≤ c) (x z P s : List Nat) (hs : ∀ a ∈ s, a ∈ P) :
    Alk k (x ++ pw P c ++ s ++ z) (x ++ pw P c ++ z) ∧ Alk k (x ++ s ++ pw P c ++ z) (x ++ pw P c ++ z) := by
  have key : ∀ M : List Nat, (∀ a ∈ M, a ∈ P) → (pw P c).Sublist M → Alk k (x ++ M ++ z) (x ++ pw P c ++ z) := by
    intro M hM hsub u hu
    constructor
    · intro h
      obtain ⟨u12, u3, rfl, h12, h3⟩ := List.sublist_append_iff.mp h
      obtain ⟨u1, u2, rfl, h1, h2⟩ := List.sublist_append_iff.mp h12
      have hl : u2.length ≤ c := by rw [List.length_append, List.length_append] at hu; omega
      have g : u2.Sublist (pw P c) := (sub_pw P u2 fun a ha => hM a (h2.subset ha)).trans (pw_mono P hl)
      exact (h1.append g).append h3
    · intro h
      exact h.trans (((List.Sublist.refl x).append hsub).append (List.Sublist.refl z))
  constructor
  · rw [List.append_assoc x]
    exact key _ (by
      intro a ha
      rcases List.mem_append.mp ha with ha | ha
      · exact pw_mem ha
      · exact hs a ha) (List.sublist_append_left _ _)
  · rw [List.append_assoc x]
    exact key _ (by
      intro a ha
      rcases List.mem_append.mp ha with ha | ha
      · exact hs a ha
      · exact pw_mem ha) (List.sublist_append_right _ _)
/-! rows without repeats -/
def dd {α : Type} [BEq α] (row : List α) : List α := row.foldl (fun r v => if r.getLast? == some v then r else r ++ [v]) []
def ddF {α : Type} [BEq α] (r : List α) (v : α) : List α := if r.getLast? == some v then r else r ++ [v]
theorem dd_rep {α : Type} [BEq α] [LawfulBEq α] (r : List α) (v : α) (n : Nat) : (List.replicate n v).foldl ddF (ddF r v) = ddF r v := by
  have last : (ddF r v).getLast? = some v := by
    unfold ddF
    split
    · rename_i h; simpa using h
    · simp
  have one : ∀ q : List α, q.getLast? = some v → ddF q v = q := by
    intro q h
    unfold ddF
    rw [if_pos (by rw [h]; simp)]
  induction n with
  | zero => rfl
  | succ n ih => rw [List.replicate_succ, List.foldl_cons, one _ last, ih]
/-- a row in which a value is repeated -/
theorem dd_mid {α : Type} [BEq α] [LawfulBEq α] (a b : List α) (v : α) (n : Nat) : (a ++ [v] ++ List.replicate n v ++ b).foldl ddF [] = (a ++ [v] ++ b).foldl ddF [] := by
  rw [List.foldl_append, List.foldl_append, List.foldl_append, List.foldl_append (l := a ++ [v]), List.foldl_append]
  rw [List.foldl_cons, List.foldl_nil, dd_rep]
/-- the beginnings of a word, the shorter first -/
def pre (w : List Nat) : List (List Nat) := (List.range (w.length + 1)).map fun j => w.take j
def suf (w : List Nat) : List (List Nat) := (List.range (w.length + 1)).map fun j => w.drop (w.length - j)
theorem range_add (a b : Nat) : List.range (a + b) = List.range a ++ (List.range b).map (a + ·) := List.range_add
theorem pre_split (A B : List Nat) : pre (A ++ B) = pre A ++ (List.range B.length).map fun i => A ++ B.take (i + 1) := by
  unfold pre
  rw [List.length_append, show A.length + B.length + 1 = (A.length + 1) + B.length by omega, range_add, List.map_append, List.map_map]
  congr 1
  · apply List.map_congr_left
    intro j hj
    have := List.mem_range.mp hj
    rw [List.take_append_of_le_length (by omega)]
  · apply List.map_congr_left
    intro i _
    simp only [Function.comp_def]
    rw [show A.length + 1 + i = A.length + (i + 1) by omega, List.take_length_add_append]
theorem pre_last (A : List Nat) : ∃ r, pre A = r ++ [A] := by
  refine ⟨(List.range A.length).map fun j => A.take j, ?_⟩
  unfold pre
  rw [List.range_succ, List.map_append]
  simp
theorem suf_split (A B : List Nat) : suf (B ++ A) = suf A ++ (List.range B.length).map fun i => B.drop (B.length - (i + 1)) ++ A := by
  unfold suf
  rw [List.length_append, show B.length + A.length + 1 = (A.length + 1) + B.length by omega, range_add, List.map_append, List.map_map]
  congr 1
  · apply List.map_congr_left
    intro j hj
    have := List.mem_range.mp hj
    rw [show B.length + A.length - j = B.length + (A.length - j) by omega, List.drop_length_add_append]
  · apply List.map_congr_left
    intro i hi
    have := List.mem_range.mp hi
    simp only [Function.comp_def]
    rw [List.drop_append_of_le_length (by omega), show B.length + A.length - (A.length + 1 + i) = B.length - (i + 1) by omega]
theorem suf_last (A : List Nat) : ∃ r, suf A = r ++ [A] := by
  refine ⟨(List.range A.length).map fun j => A.drop (A.length - j), ?_⟩
  unfold suf
  rw [List.range_succ, List.map_append]
  simp
/-- rising: s behind the many times P is not seen -/
theorem rise {β : Type} [BEq β] [LawfulBEq β] (f : List Nat → β) {k c : Nat} (hc : k ≤ c) (hf : ∀ w z, Alk k w z → f w = f z) (x y P s : List Nat) (hs : ∀ a ∈ s, a ∈ P) :
    ((pre (x ++ pw P c ++ s ++ y)).map f).foldl ddF [] = ((pre (x ++ pw P c ++ y)).map f).foldl ddF [] := by
  obtain ⟨r, hr⟩ := pre_last (x ++ pw P c)
  rw [pre_split (x ++ pw P c ++ s) y, pre_split (x ++ pw P c) s, pre_split (x ++ pw P c) y, hr]
  simp only [List.map_append, List.map_map, Function.comp_def, List.map_cons, List.map_nil]
  have e1 : (List.range s.length).map (fun i => f (x ++ pw P c ++ s.take (i + 1))) = List.replicate s.length (f (x ++ pw P c)) := by
    rw [List.eq_replicate_iff]
    refine ⟨by simp, fun b hb => ?_⟩
    obtain ⟨i, _, rfl⟩ := List.mem_map.mp hb
    have := (alk_mid hc x [] P (s.take (i + 1)) fun a ha => hs a (List.mem_of_mem_take ha)).1
    simpa using hf _ _ this
  have e2 : (List.range y.length).map (fun i => f (x ++ pw P c ++ s ++ y.take (i + 1))) = (List.range y.length).map (fun i => f (x ++ pw P c ++ y.take (i + 1))) := by
    apply List.map_congr_left
    intro i _
    exact hf _ _ (alk_mid hc x (y.take (i + 1)) P s hs).1
  rw [e1, e2]
  exact dd_mid _ _ _ _
theorem fall {β : Type} [BEq β] [LawfulBEq β] (f : List Nat → β) {k c : Nat} (hc : k ≤ c) (hf : ∀ w z, Alk k w z → f w = f z) (x y P s : List Nat) (hs : ∀ a ∈ s, a ∈ P) :
    ((suf (x ++ s ++ pw P c ++ y)).map f).foldl ddF [] = ((suf (x ++ pw P c ++ y)).map f).foldl ddF [] := by
  obtain ⟨r, hr⟩ := suf_last (pw P c ++ y)
  rw [show x ++ s ++ pw P c ++ y = x ++ (s ++ (pw P c ++ y)) by simp, show x ++ pw P c ++ y = x ++ (pw P c ++ y) by simp, suf_split (s ++ (pw P c ++ y)) x, suf_split (pw P c ++ y) s, suf_split (pw P c ++ y) x, hr]
  simp only [List.map_append, List.map_map, Function.comp_def, List.map_cons, List.map_nil]
  have e1 : (List.range s.length).map (fun i => f (s.drop (s.length - (i + 1)) ++ (pw P c ++ y))) = List.replicate s.length (f (pw P c ++ y)) := by
    rw [List.eq_replicate_iff]
    refine ⟨by simp, fun b hb => ?_⟩
    obtain ⟨i, _, rfl⟩ := List.mem_map.mp hb
    have := (alk_mid hc [] y P (s.drop (s.length - (i + 1))) fun a ha => hs a (List.mem_of_mem_drop ha)).2
    simpa using hf _ _ this
  have e2 : (List.range x.length).map (fun i => f (x.drop (x.length - (i + 1)) ++ (s ++ (pw P c ++ y)))) = (List.range x.length).map (fun i => f (x.drop (x.length - (i + 1)) ++ (pw P c ++ y))) := by
    apply List.map_congr_left
    intro i _
    have := hf _ _ (alk_mid hc (x.drop (x.length - (i + 1))) y P s hs).2
    simpa using this
  rw [e1, e2]
  exact dd_mid _ _ _ _
/-! windows -/
def wins (k : Nat) (w : List Nat) : List (List Nat) := (List.range (w.length - k + 1)).map fun j => (w.drop j).take k
def Win (k : Nat) (w t : List Nat) : Prop := ∃ j, j + k ≤ w.length ∧ t = (w.drop j).take k
theorem wins_mem {k : Nat} {w t : List Nat} (h : k ≤ w.length) : t ∈ wins k w ↔ Win k w t := by
  constructor
  · intro ht
    obtain ⟨j, hj, rfl⟩ := List.mem_map.mp ht
    have := List.mem_range.mp hj
    exact ⟨j, by omega, rfl⟩
  · rintro ⟨j, hj, rfl⟩
    exact List.mem_map.mpr ⟨j, List.mem_range.mpr (by omega), rfl⟩
theorem win_cut {k : Nat} (A U B t : List Nat) (h : k ≤ U.length + 1) : Win k (A ++ U ++ B) t ↔ Win k (A ++ U) t ∨ Win k (U ++ B) t := by
  constructor
  · rintro ⟨j, hj, rfl⟩
    by_cases g : j + k ≤ (A ++ U).length
    · refine .inl ⟨j, g, ?_⟩
      rw [List.drop_append_of_le_length (by omega), List.take_append_of_le_length (by rw [List.length_drop]; omega)]
    · rw [List.length_append] at g
      refine .inr ⟨j - A.length, by rw [List.length_append] at hj ⊢; rw [List.length_append] at hj; omega, ?_⟩
      obtain ⟨i, hi⟩ : ∃ i, j = A.length + i := ⟨j - A.length, by omega⟩
      rw [hi, List.append_assoc, List.drop_length_add_append, Nat.add_sub_cancel_left]
  · rintro (⟨j, hj, rfl⟩ | ⟨j, hj, rfl⟩)
    · refine ⟨j, by rw [List.length_append]; omega, ?_⟩
      rw [show (A ++ U ++ B).drop j = (A ++ U).drop j ++ B from List.drop_append_of_le_length (by omega), List.take_append_of_le_length (by rw [List.length_drop]; omega)]
    · refine ⟨A.length + j, by rw [List.length_append] at hj; rw [List.append_assoc, List.length_append, List.length_append]; omega, ?_⟩
      rw [List.append_assoc, List.drop_length_add_append]
end GW

namespace GW
open PySem PySem.Spec PyProof.Rows L2 VS
/-! the views -/
theorem Okw.take {w : List Nat} (h : Okw w) (j : Nat) : Okw (w.take j) := by
  unfold Okw at *
  rw [List.all_eq_true] at *
  exact fun a ha => h a (List.mem_of_mem_take ha)
theorem Okw.drop {w : List Nat} (h : Okw w) (j : Nat) : Okw (w.drop j) := by
  unfold Okw at *
  rw [List.all_eq_true] at *
  exact fun a ha => h a (List.mem_of_mem_drop ha)
def uq (row : List (List Nat)) : List (List Nat) := ((List.range row.length).filter fun j => !(row.take j).contains (row.getD j [])).map fun j => row.getD j []
theorem uq_mem (row : List (List Nat)) (t : List Nat) : t ∈ uq row ↔ t ∈ row := by
  constructor
  · intro h
    obtain ⟨j, hj, rfl⟩ := List.mem_map.mp h
    have := List.mem_range.mp (List.mem_filter.mp hj).1
    rw [List.getD_eq_getElem?_getD, List.getElem?_eq_getElem this]
    exact List.getElem_mem this
  · intro h
    have hl : row.idxOf t < row.length := List.idxOf_lt_length_iff.mpr h
    have he : row.getD (row.idxOf t) [] = t := by
      rw [List.getD_eq_getElem?_getD, List.getElem?_eq_getElem hl]
      exact List.getElem_idxOf hl
    refine List.mem_map.mpr ⟨row.idxOf t, List.mem_filter.mpr ⟨List.mem_range.mpr hl, ?_⟩, he⟩
    rw [he]
    have : t ∉ row.take (row.idxOf t) := by
      intro hm
      obtain ⟨m, hm, e⟩ := List.mem_iff_getElem.mp hm
      rw [List.length_take] at hm
      rw [List.getElem_take] at e
      have := List.not_of_lt_findIdx (p := (· == t)) (xs := row) (i := m) (by unfold List.idxOf at hm; omega)
      simp [e] at this
    simpa using this
theorem uq_nodup (row : List (List Nat)) : (uq row).Nodup := by
  unfold uq List.Nodup
  rw [List.pairwise_map]
  refine List.Pairwise.imp_of_mem ?_ (List.pairwise_lt_range.filter _)
  intro a b ha hb hab e
  have hb' := List.mem_filter.mp hb
  have hbl := List.mem_range.mp hb'.1
  have : row.getD b [] ∈ row.take b := by
    rw [← e, List.getD_eq_getElem?_getD, List.getElem?_eq_getElem (by omega)]
    exact List.mem_iff_getElem.mpr ⟨a, by rw [List.length_take]; omega, by rw [List.getElem_take]; rfl⟩
  have h2 := hb'.2
  simp only [Bool.not_eq_true', List.contains_eq_mem, decide_eq_false_iff_not] at h2
  exact h2 this
theorem perm_of {a b : List (List Nat)} (ha : a.Nodup) (hb : b.Nodup) (h : ∀ t, t ∈ a ↔ t ∈ b) : a.Perm b := by
  rw [List.perm_iff_count]
  intro t
  by_cases m : t ∈ a
  · rw [ha.count, hb.count, if_pos m, if_pos ((h t).mp m)]
  · rw [List.count_eq_zero_of_not_mem m, List.count_eq_zero_of_not_mem fun k => m ((h t).mpr k)]
theorem sort_same {k : Nat} {w z : List Nat} (hw : k ≤ w.length) (hz : k ≤ z.length) (h : ∀ t, Win k w t ↔ Win k z t) : sortS (uq (wins k w)) = sortS (uq (wins k z)) := by
  apply sortS_perm
  refine perm_of (uq_nodup _) (uq_nodup _) fun t => ?_
  rw [uq_mem, uq_mem, wins_mem hw, wins_mem hz]
  exact h t
theorem wins_ok {k : Nat} {w : List Nat} (h : Okw w) : ∀ t ∈ wins k w, Okw t := by
  intro t ht
  obtain ⟨j, _, rfl⟩ := List.mem_map.mp ht
  exact (h.drop j).take k
theorem any_str (x : List Nat) (l : List (List Nat)) : ((l.map D.str).any fun z => D.eqv z (.str x)) = l.contains x := by
  rw [List.any_map]
  induction l with
  | nil => rfl
  | cons a l ih =>
    rw [List.any_cons, ih, List.contains_cons]
    simp only [Function.comp_def, eqv_str]
    congr 1
    rw [Bool.eq_iff_iff, beq_iff_eq, beq_iff_eq]
    exact eq_comm
theorem notin_str {x : List Nat} {l : List (List Nat)} (hx : Okw x) (hl : ∀ t ∈ l, Okw t) : opNotInS (.str x) (.lst (l.map D.str)) = some (.bl (!l.contains x)) := by
  have hp : (D.pln 64 (.str x) && D.pln 64 (.lst (l.map D.str))) = true := by
    rw [pln_str, pln_lst, plns_all, hx, List.all_map, Bool.true_and, List.all_eq_true]
    intro t ht
    simp only [Function.comp_def, pln_str]
    exact hl t ht
  unfold opNotInS
  rw [show inS (.str x) (.lst (l.map D.str)) = if D.pln 64 (.str x) && D.pln 64 (.lst (l.map D.str)) then some ((l.map D.str).any fun z => D.eqv z (.str x)) else none from rfl, if_pos hp, any_str]
  rfl
theorem slit_spec {k : Nat} {w : List Nat} (h1 : 1 ≤ k) (hk : k ≤ w.length) (hw : Okw w) (hl : w.length ≤ 60) : MLslit [ni k, .str w] = .ok (.tup [.str (w.take (k - 1)), .str (w.drop (w.length - k + 1)), tS (sortS (uq (wins k w)))]) := by
  have hok := wins_ok (k := k) hw
  obtain ⟨row, hrow⟩ : ∃ r, wins k w = r := ⟨_, rfl⟩
  have hrl : row.length = w.length - k + 1 := by rw [← hrow]; simp [wins]
  have er : rangeD 0 ((w.length : Int) - k + 1) = (List.range (w.length - k + 1)).map ni := by
    rw [show (w.length : Int) - k + 1 = ((w.length - k + 1 : Nat) : Int) by omega]
    exact rangeD_nat _
  have er2 : rangeD 0 (row.length : Int) = (List.range row.length).map ni := rangeD_nat _
  have c1 := compL_mapm (eSl true (eV 1) (eO (eV 4)) (eO (eOp2 (opAdd true true) (eV 4) (eV 0)))) 4 [oD (ni k), oD (.str w), none, none, none] ni (fun j => .str ((w.drop j).take k)) (List.range (w.length - k + 1)) (by
    intro j hj
    have := List.mem_range.mp hj
    have hc : cutD w (some (j : Int)) (some ((j : Int) + k)) = (w.drop j).take k := by
      rw [show (j : Int) + k = ((j + k : Nat) : Int) by omega, cut_nat, Nat.min_eq_left (by omega), Nat.min_eq_left (by omega), Nat.add_sub_cancel_left]
    simp -implicitDefEqProofs [hc, show w.length ≤ 16777216 by omega])
  have c2 := compL_filterm (eB (eOp2 (opNotInS) (eOp2 (opIx true) (eV 2) (eV 4)) (eSl true (eV 2) eNoO (eO (eV 4))))) (eOp2 (opIx true) (eV 2) (eV 4)) 4 [oD (ni k), oD (.str w), oD (lS row), none, none] ni (fun j => !(row.take j).contains (row.getD j [])) (fun j => .str (row.getD j [])) (List.range row.length)
    (by
      intro j hj
      have hjl := List.mem_range.mp hj
      have hx : atI (row.map D.str) (j : Int) = some (.str (row.getD j [])) := by
        rw [atI_ofNat, List.getElem?_map, List.getElem?_eq_getElem hjl, List.getD_eq_getElem?_getD, List.getElem?_eq_getElem hjl]; rfl
      have hm : row.getD j [] ∈ row := by
        rw [List.getD_eq_getElem?_getD, List.getElem?_eq_getElem hjl]; exact List.getElem_mem hjl
      have hn := notin_str (x := row.getD j []) (l := row.take j) (hok _ (by rw [hrow]; exact hm)) fun t ht => hok t (by rw [hrow]; exact List.mem_of_mem_take ht)
      rw [List.map_take] at hn
      generalize row.getD j [] = rj at hx hn ⊢
      simp -implicitDefEqProofs [hx, cut_to, hn])
    (by
      intro j hj _
      have hjl := List.mem_range.mp hj
      have hx : atI (row.map D.str) (j : Int) = some (.str (row.getD j [])) := by
        rw [atI_ofNat, List.getElem?_map, List.getElem?_eq_getElem hjl, List.getD_eq_getElem?_getD, List.getElem?_eq_getElem hjl]; rfl
      generalize row.getD j [] = rj at hx ⊢
      simp -implicitDefEqProofs [hx])
  have huq : (((List.range row.length).filter fun j => !(row.take j).contains (row.getD j [])).map fun j => D.str (row.getD j [])) = (uq row).map D.str := by
    unfold uq; rw [List.map_map]; rfl
  rw [huq] at c2
  have hul : (uq row).length ≤ row.length := by
    unfold uq; rw [List.length_map]
    have := List.length_filter_le (fun j => !(row.take j).contains (row.getD j [])) (List.range row.length)
    rwa [List.length_range] at this
  have hwl : w.length ≤ 16777216 := by omega
  have hrow' : ((List.range (w.length - k + 1)).map fun j => D.str ((w.drop j).take k)) = row.map D.str := by rw [← hrow]; simp [wins]
  rw [hrow'] at c1
  unfold MLslit BLslit
  refine ret_of ?_
  show Ret _ [oD (ni k), oD (.str w), none, none, none] _
  refine (.seq (.no ?_ .nil) (.seq (.no ?_ .nil) (.seq (.set (d := lS row) ?_) (.seq (.set (d := lS (uq row)) ?_) (.ret ?_)))))
  · have : ((k : Int) == 0) = false := by simp; omega
    simp -implicitDefEqProofs [this]
  · simp -implicitDefEqProofs [hwl, hk]
  · have h6 := asI_small (i := (w.length : Int) - k + 1) (by omega) (by omega)
    simp -implicitDefEqProofs only [eLc_def, eLcs_def, eItR_def, eC_def, ok_bind, asI_zero, lift_some, eFn_def, eCons_def, eNil_def, eV_def, List.map_cons, List.map_nil, List.cons_append, List.nil_append, List.getElem?_cons_zero, List.getElem?_cons_succ, List.set_cons_zero, List.set_cons_succ, fLen_str, if_pos hwl, eOp2_def, opSub_int, opAdd_int, h6, er]
    rw [c1]
    simp -implicitDefEqProofs only [ok_bind, List.length_map]
    rw [if_pos (by omega)]
    rfl
  · have h6 := asI_small (i := (row.length : Int)) (by omega) (by omega)
    simp -implicitDefEqProofs only [eLc_def, eLcs_def, eItR_def, eC_def, ok_bind, asI_zero, lift_some, eFn_def, eCons_def, eNil_def, eV_def, List.map_cons, List.map_nil, List.cons_append, List.nil_append, List.getElem?_cons_zero, List.getElem?_cons_succ, List.set_cons_zero, List.set_cons_succ, fLen_lst, List.length_map, h6, er2]
    rw [c2]
    simp -implicitDefEqProofs only [ok_bind, List.length_map]
    rw [if_pos (by omega)]
    rfl
  · have e1 : cutD w none (some ((k : Int) - 1)) = w.take (k - 1) := by
      rw [show (k : Int) - 1 = ((k - 1 : Nat) : Int) by omega, cut_to]
    have e2 : cutD w (some ((w.length : Int) - k + 1)) none = w.drop (w.length - k + 1) := by
      rw [show (w.length : Int) - k + 1 = ((w.length - k + 1 : Nat) : Int) by omega, cut_from]
    simp -implicitDefEqProofs [hwl, e1, e2, tS, hrow, show (uq row).length < 64 by omega]
end GW

namespace GW
open PySem PySem.Spec PyProof.Rows L2 VS
theorem tno {a b : List Nat} {c1 c2 c3 c4 c5 c6 c7 c8 c9 : Option O} (h : (Okw a ∧ Okw b) ∧ (a == b) = false) : eB (eOp2 (opEq) (eV 0) (eC (.str b))) [oD (.str a), c1, c2, c3, c4, c5, c6, c7, c8, c9] = .ok false := by
  have := str_eq h.1.1 h.1.2
  rw [h.2] at this
  simp -implicitDefEqProofs [this]
theorem tyes {a : List Nat} {c1 c2 c3 c4 c5 c6 c7 c8 c9 : Option O} (h : Okw a) : eB (eOp2 (opEq) (eV 0) (eC (.str a))) [oD (.str a), c1, c2, c3, c4, c5, c6, c7, c8, c9] = .ok true := by
  have := str_eq h h
  rw [beq_self_eq_true] at this
  simp -implicitDefEqProofs [this]
instance (w : List Nat) : Decidable (Okw w) := inferInstanceAs (Decidable (_ = true))
theorem view_last {k lt : Nat} {w : List Nat} (hw : Okw w) (hl : w.length ≤ 60) : MLview [.str [108, 97, 115, 116], ni k, ni lt, .str w] = .ok (.str (w.drop (w.length - k))) := by
  have hwl : w.length ≤ 16777216 := by omega
  unfold MLview BLview
  refine ret_of ?_
  show Ret _ [oD (.str [108, 97, 115, 116]), oD (ni k), oD (ni lt), oD (.str w), none, none, none, none, none, none] _
  refine (.fst (.yes (tyes (by decide)) (.ret ?_)))
  have hm : (if (w.length : Int) - k > 0 then (w.length : Int) - k else 0) = ((w.length - k : Nat) : Int) := by split <;> omega
  simp -implicitDefEqProofs only [eSl_def, eV_def, List.getElem?_cons_zero, List.getElem?_cons_succ, ok_bind, eO_def, eNoO_def, eFn_def, eCons_def, eNil_def, eC_def, eOp2_def, fLen_str, if_pos hwl, opSub_int, lift_some, fMax2_int, hm, opSl_str, cut_from]
theorem view_first {k lt : Nat} {w : List Nat} (hw : Okw w) (hl : w.length ≤ 60) : MLview [.str [102, 105, 114, 115, 116], ni k, ni lt, .str w] = .ok (.str (w.take k)) := by
  have hwl : w.length ≤ 16777216 := by omega
  unfold MLview BLview
  refine ret_of ?_
  show Ret _ [oD (.str [102, 105, 114, 115, 116]), oD (ni k), oD (ni lt), oD (.str w), none, none, none, none, none, none] _
  refine .seq (.no (tno (a := [102, 105, 114, 115, 116]) (b := [108, 97, 115, 116]) (by decide)) .nil) ((.fst (.yes (tyes (by decide)) (.ret ?_))))
  simp -implicitDefEqProofs only [eSl_def, eV_def, List.getElem?_cons_zero, List.getElem?_cons_succ, ok_bind, eO_def, eNoO_def, if_pos hwl, lift_some, opSl_str, cut_to]
theorem view_ends {k lt : Nat} {w : List Nat} (hw : Okw w) (hl : w.length ≤ 60) (hk : k ≤ w.length) : MLview [.str [101, 110, 100, 115], ni k, ni lt, .str w] = .ok (.tup [.str (w.take k), .str (w.drop (w.length - k))]) := by
  have hwl : w.length ≤ 16777216 := by omega
  unfold MLview BLview
  refine ret_of ?_
  show Ret _ [oD (.str [101, 110, 100, 115]), oD (ni k), oD (ni lt), oD (.str w), none, none, none, none, none, none] _
  refine .seq (.no (tno (a := [101, 110, 100, 115]) (b := [108, 97, 115, 116]) (by decide)) .nil) (.seq (.no (tno (a := [101, 110, 100, 115]) (b := [102, 105, 114, 115, 116]) (by decide)) .nil) (.seq (.no (tno (a := [101, 110, 100, 115]) (b := [99, 111, 117, 110, 116, 115]) (by decide)) .nil) ((.fst (.yes (tyes (by decide)) (.seq (.no ?_ .nil) (.ret ?_)))))))
  · simp -implicitDefEqProofs [hwl, hk]
  · have hm : (w.length : Int) - k = ((w.length - k : Nat) : Int) := by omega
    simp -implicitDefEqProofs only [eSl_def, eV_def, List.getElem?_cons_zero, List.getElem?_cons_succ, ok_bind, eO_def, eNoO_def, eFn_def, eCons_def, eNil_def, eC_def, eOp2_def, fLen_str, if_pos hwl, opSub_int, lift_some, hm, opSl_str, cut_from, cut_to, fTup_def]
    rw [if_pos (by simp)]
    rfl
theorem view_slit0 {k lt : Nat} {w : List Nat} (hw : Okw w) (hl : w.length ≤ 60) (hk : k = 0) : MLview [.str [115, 108, 105, 116], ni k, ni lt, .str w] = .ok (.str []) := by
  have hwl : w.length ≤ 16777216 := by omega
  unfold MLview BLview
  refine ret_of ?_
  show Ret _ [oD (.str [115, 108, 105, 116]), oD (ni k), oD (ni lt), oD (.str w), none, none, none, none, none, none] _
  refine .seq (.no (tno (a := [115, 108, 105, 116]) (b := [108, 97, 115, 116]) (by decide)) .nil) (.seq (.no (tno (a := [115, 108, 105, 116]) (b := [102, 105, 114, 115, 116]) (by decide)) .nil) (.seq (.no (tno (a := [115, 108, 105, 116]) (b := [99, 111, 117, 110, 116, 115]) (by decide)) .nil) (.seq (.no (tno (a := [115, 108, 105, 116]) (b := [101, 110, 100, 115]) (by decide)) .nil) ((.fst (.yes (tyes (by decide)) (.ret ?_)))))))
  have hs : MLslit [ni k, .str w] = .ok (.str []) := by
    unfold MLslit BLslit
    refine ret_of (.fst (.yes ?_ (.ret ?_)))
    · simp -implicitDefEqProofs [hk]
    · simp -implicitDefEqProofs
  simp -implicitDefEqProofs [hs]
theorem view_slit {k lt : Nat} {w : List Nat} (hw : Okw w) (hl : w.length ≤ 60) (h1 : 1 ≤ k) (hk : k ≤ w.length) : MLview [.str [115, 108, 105, 116], ni k, ni lt, .str w] = .ok (.tup [.str (w.take (k - 1)), .str (w.drop (w.length - k + 1)), tS (sortS (uq (wins k w)))]) := by
  have hwl : w.length ≤ 16777216 := by omega
  unfold MLview BLview
  refine ret_of ?_
  show Ret _ [oD (.str [115, 108, 105, 116]), oD (ni k), oD (ni lt), oD (.str w), none, none, none, none, none, none] _
  refine .seq (.no (tno (a := [115, 108, 105, 116]) (b := [108, 97, 115, 116]) (by decide)) .nil) (.seq (.no (tno (a := [115, 108, 105, 116]) (b := [102, 105, 114, 115, 116]) (by decide)) .nil) (.seq (.no (tno (a := [115, 108, 105, 116]) (b := [99, 111, 117, 110, 116, 115]) (by decide)) .nil) (.seq (.no (tno (a := [115, 108, 105, 116]) (b := [101, 110, 100, 115]) (by decide)) .nil) ((.fst (.yes (tyes (by decide)) (.ret ?_)))))))
  simp -implicitDefEqProofs [slit_spec h1 hk hw hl]
theorem view_scattered {k lt : Nat} {w : List Nat} (hw : Okw w) (hl : w.length ≤ 60) (hk : k ≤ 6) : MLview [.str [115, 99, 97, 116, 116, 101, 114, 101, 100], ni k, ni lt, .str w] = .ok (tS (subs k lt w)) := by
  have hwl : w.length ≤ 16777216 := by omega
  unfold MLview BLview
  refine ret_of ?_
  show Ret _ [oD (.str [115, 99, 97, 116, 116, 101, 114, 101, 100]), oD (ni k), oD (ni lt), oD (.str w), none, none, none, none, none, none] _
  refine .seq (.no (tno (a := [115, 99, 97, 116, 116, 101, 114, 101, 100]) (b := [108, 97, 115, 116]) (by decide)) .nil) (.seq (.no (tno (a := [115, 99, 97, 116, 116, 101, 114, 101, 100]) (b := [102, 105, 114, 115, 116]) (by decide)) .nil) (.seq (.no (tno (a := [115, 99, 97, 116, 116, 101, 114, 101, 100]) (b := [99, 111, 117, 110, 116, 115]) (by decide)) .nil) (.seq (.no (tno (a := [115, 99, 97, 116, 116, 101, 114, 101, 100]) (b := [101, 110, 100, 115]) (by decide)) .nil) (.seq (.no (tno (a := [115, 99, 97, 116, 116, 101, 114, 101, 100]) (b := [115, 108, 105, 116]) (by decide)) .nil) ((.fst (.yes (tyes (by decide)) (.ret ?_))))))))
  simp -implicitDefEqProofs [subwords_spec (lt := lt) hk hw (by omega)]
theorem view_counts {k lt : Nat} {w : List Nat} (hw : Okw w) (hl : w.length ≤ 60) : MLview [.str [99, 111, 117, 110, 116, 115], ni k, ni lt, .str w] = .ok (.tup ((lets lt).map fun c => ni (min k (w.count c)))) := by
  have hwl : w.length ≤ 16777216 := by omega
  unfold MLview BLview
  refine ret_of ?_
  show Ret _ [oD (.str [99, 111, 117, 110, 116, 115]), oD (ni k), oD (ni lt), oD (.str w), none, none, none, none, none, none] _
  refine .seq (.no (tno (a := [99, 111, 117, 110, 116, 115]) (b := [108, 97, 115, 116]) (by decide)) .nil) (.seq (.no (tno (a := [99, 111, 117, 110, 116, 115]) (b := [102, 105, 114, 115, 116]) (by decide)) .nil) ((.fst (.yes (tyes (by decide)) (.ret ?_)))))
  have hl3 := lets_len lt
  have hc : cutD [97, 98, 99] none (some (lt : Int)) = lets lt := cut_to _ lt
  have c1 := compL_mapm (eFn (fMin2) (eCons (eV 1) (eCons (eFn (fLen) (eCons (eLc (eIt true (eV 3)) (eB (eOp2 (opEq) (eV 9) (eV 8))) (eV 9) 9) eNil)) eNil))) 8 [oD (.str [99, 111, 117, 110, 116, 115]), oD (ni k), oD (ni lt), oD (.str w), none, none, none, none, none, none] (fun c => D.str [c]) (fun c => ni (min k (w.count c))) (lets lt) (by
    intro c hc
    have hcm := lets_mem hc
    have hco : Okw [c] := by unfold Okw; simp; omega
    have c2 := compL_filterm (eB (eOp2 (opEq) (eV 9) (eV 8))) (eV 9) 9 [oD (.str [99, 111, 117, 110, 116, 115]), oD (ni k), oD (ni lt), oD (.str w), none, none, none, none, oD (.str [c]), none] (fun x => D.str [x]) (fun x => x == c) (fun x => D.str [x]) w
      (by
        intro x hx
        have hxo : Okw [x] := by
          unfold Okw at hw ⊢
          have := List.all_eq_true.mp hw x hx
          simpa using this
        have e := str_eq hxo hco
        have e2 : ([x] == [c]) = (x == c) := by rw [Bool.eq_iff_iff]; simp
        rw [e2] at e
        simp -implicitDefEqProofs [e])
      (by intro x hx _; simp -implicitDefEqProofs)
    have hcl : (w.filter fun x => x == c).length = w.count c := by rw [List.count_eq_length_filter]
    have hfl : (w.filter fun x => x == c).length ≤ 16777216 := by
      have := List.length_filter_le (fun x => x == c) w
      omega
    have hfl2 : w.count c ≤ 16777216 := by rw [← hcl]; exact hfl
    have hmn : (if ((w.count c : Nat) : Int) < (k : Int) then ((w.count c : Nat) : Int) else (k : Int)) = ((min k (w.count c) : Nat) : Int) := by split <;> omega
    simp -implicitDefEqProofs only [eFn_def, eCons_def, eNil_def, eV_def, List.getElem?_cons_zero, List.getElem?_cons_succ, List.set_cons_zero, List.set_cons_succ, ok_bind, eLc_def, eLcs_def, eIt_def, asA_str, if_pos hwl, lift_some]
    rw [c2]
    simp -implicitDefEqProofs only [ok_bind, List.length_map, hcl, if_pos hfl2, lift_some, fLen_lst, fMin2_int, hmn])
  simp -implicitDefEqProofs only [eFn_def, eCons_def, eNil_def, eV_def, List.getElem?_cons_zero, List.getElem?_cons_succ, ok_bind, eLc_def, eLcs_def, eIt_def, eSl_def, eC_def, eNoO_def, eO_def, opSl_str, hc, asA_str, lift_some]
  rw [if_pos (by simp)]
  simp -implicitDefEqProofs only [lift_some, ok_bind, asA_str]
  rw [if_pos (by omega)]
  simp -implicitDefEqProofs only [lift_some, ok_bind]
  rw [c1]
  simp -implicitDefEqProofs only [ok_bind, List.length_map]
  rw [if_pos (by omega)]
  simp -implicitDefEqProofs only [ok_bind, fTuple_lst, okEl_t, if_true, lift_some]
end GW

namespace GW
open PySem PySem.Spec PyProof.Rows L2 VS
/-! rising and falling -/
theorem tS_pln {l : List (List Nat)} (h : ∀ t ∈ l, Okw t) : D.pln 64 (tS l) = true := by
  unfold tS
  rw [pln_tup, plns_all, List.all_map, List.all_eq_true]
  intro t ht
  simp only [Function.comp_def, pln_str]
  exact h t ht
theorem eqvs_str : ∀ a b : List (List Nat), D.eqvs (a.map D.str) (b.map D.str) = (a == b)
  | [], [] => by simp [D.eqvs]
  | [], _ :: _ => by simp [D.eqvs]
  | _ :: _, [] => by simp [D.eqvs]
  | x :: a, y :: b => by
    rw [List.map_cons, List.map_cons, D.eqvs, eqv_str, eqvs_str a b]
    rfl
theorem ne_tS {a b : List (List Nat)} (ha : ∀ t ∈ a, Okw t) (hb : ∀ t ∈ b, Okw t) : opNe (tS a) (tS b) = some (.bl (!(a == b))) := by
  unfold opNe
  rw [tS_pln ha, tS_pln hb]
  unfold tS
  rw [D.eqv, eqvs_str]
  rfl
theorem subs_ok {k lt : Nat} {w : List Nat} : ∀ t ∈ subs k lt w, Okw t := fun t h => subsN_ok k h
abbrev oR (r : List (List (List Nat))) : Option O := some (.lst (r.map fun v => .v (tS v)))
abbrev bodyR : VS.Env → Rs := (sSeq (sSet 6 (eOp2 (opIx true) (eFn fLst (eCons (eSl true (eV 3) eNoO (eO (eV 5))) (eCons (eSl true (eV 3) (eO (eOp2 (opSub) (eFn (fLen) (eCons (eV 3) eNil)) (eV 5))) eNoO) eNil))) (eFn (fInt) (eCons (eOp2 (opEq) (eV 0) (eC (.str [102, 97, 108, 108, 105, 110, 103]))) eNil))))
    (sSeq (sSet 7 (eCall MLsubwords (eCons (eV 1) (eCons (eV 2) (eCons (eV 6) eNil)))))
    (sIf (tOr' (eB (eOp2 (opEq) (eFn (fLen) (eCons (eL 4) eNil)) (eC (.int 0)))) (eB (eOp2 (opNe) (eIxo 4 (eOp2 (opSub) (eFn (fLen) (eCons (eL 4) eNil)) (eC (.int 1)))) (eV 7))))
    (sApp 4 (eV 7))
    sNil)))
theorem rowturn {k lt : Nat} {w man : List Nat} {fl : Bool} (hman : opEq (.str man) (.str [102, 97, 108, 108, 105, 110, 103]) = some (.bl fl)) (hk : k ≤ 6) (hw : Okw w) (hl : w.length ≤ 60) {j : Nat} (hj : j ≤ w.length) {r : List (List (List Nat))} (hr : ∀ v ∈ r, ∀ t ∈ v, Okw t) (hrl : r.length ≤ 1000) (x6 x7 x8 x9 : Option O) :
    ∃ x6' x7', Nx bodyR [oD (.str man), oD (ni k), oD (ni lt), oD (.str w), oR r, oD (ni j), x6, x7, x8, x9] [oD (.str man), oD (ni k), oD (ni lt), oD (.str w), oR (ddF r (subs k lt (if fl then w.drop (w.length - j) else w.take j))), oD (ni j), x6', x7', x8, x9] := by
  have hwl : w.length ≤ 16777216 := by omega
  obtain ⟨p, hp⟩ : ∃ p, (if fl then w.drop (w.length - j) else w.take j) = p := ⟨_, rfl⟩
  have hpo : Okw p := by
    rw [← hp]
    split
    · exact hw.drop _
    · exact hw.take _
  have hpl : p.length ≤ 60 := by
    rw [← hp]
    split
    · rw [List.length_drop]; omega
    · rw [List.length_take]; omega
  rw [hp]
  have s6 : Nx (sSet 6 (eOp2 (opIx true) (eFn fLst (eCons (eSl true (eV 3) eNoO (eO (eV 5))) (eCons (eSl true (eV 3) (eO (eOp2 (opSub) (eFn (fLen) (eCons (eV 3) eNil)) (eV 5))) eNoO) eNil))) (eFn (fInt) (eCons (eOp2 (opEq) (eV 0) (eC (.str [102, 97, 108, 108, 105, 110, 103]))) eNil))))
      [oD (.str man), oD (ni k), oD (ni lt), oD (.str w), oR r, oD (ni j), x6, x7, x8, x9] [oD (.str man), oD (ni k), oD (ni lt), oD (.str w), oR r, oD (ni j), oD (.str p), x7, x8, x9] := by
    refine (Nx.set (d := .str p) ?_).to rfl
    have hm : (w.length : Int) - j = ((w.length - j : Nat) : Int) := by omega
    simp -implicitDefEqProofs only [eSl_def, eV_def, List.getElem?_cons_zero, List.getElem?_cons_succ, ok_bind, eO_def, eNoO_def, eFn_def, eCons_def, eNil_def, eC_def, eOp2_def, fLen_str, if_pos hwl, opSub_int, lift_some, hm, opSl_str, cut_from, cut_to, fLst_def, hman, fInt_bl]
    rw [if_pos (by simp)]
    rw [← hp]
    cases fl
    · show lift (opIx true (.lst [.str (w.take j), .str (w.drop (w.length - j))]) (.int 0)) = _
      rw [opIx_lst, show atI [D.str (w.take j), D.str (w.drop (w.length - j))] (0 : Int) = some (.str (w.take j)) from atI_ofNat _ 0]
      rfl
    · show lift (opIx true (.lst [.str (w.take j), .str (w.drop (w.length - j))]) (.int 1)) = _
      rw [opIx_lst, show atI [D.str (w.take j), D.str (w.drop (w.length - j))] (1 : Int) = some (.str (w.drop (w.length - j))) from atI_ofNat _ 1]
      rfl
  have s7 : Nx (sSet 7 (eCall MLsubwords (eCons (eV 1) (eCons (eV 2) (eCons (eV 6) eNil))))) [oD (.str man), oD (ni k), oD (ni lt), oD (.str w), oR r, oD (ni j), oD (.str p), x7, x8, x9] [oD (.str man), oD (ni k), oD (ni lt), oD (.str w), oR r, oD (ni j), oD (.str p), oD (tS (subs k lt p)), x8, x9] := by
    refine (Nx.set (d := tS (subs k lt p)) ?_).to rfl
    simp -implicitDefEqProofs [subwords_spec (lt := lt) hk hpo (by omega)]
  have hso := subs_ok (k := k) (lt := lt) (w := p)
  generalize subs k lt p = v at s7 hso ⊢
  rcases List.eq_nil_or_concat r with rfl | ⟨q, u, rfl⟩
  · refine ⟨oD (.str p), oD (tS v), .seq s6 (.seq s7 (.yes ?_ ?_))⟩
    · simp -implicitDefEqProofs
    · unfold Nx
      simp -implicitDefEqProofs [ddF]
  · rw [List.concat_eq_append] at hr hrl s6 s7 ⊢
    have huo := hr u (by simp)
    have hne := ne_tS huo hso
    have hix : atI ((q ++ [u]).map fun v => O.v (tS v)) ((q.length : Nat) : Int) = some (.v (tS u)) := by
      rw [atI_ofNat, List.getElem?_map, List.getElem?_append_right (by omega), Nat.sub_self]
      rfl
    have hlast : (q ++ [u]).getLast? = some u := by simp
    have tst : tOr' (eB (eOp2 (opEq) (eFn (fLen) (eCons (eL 4) eNil)) (eC (.int 0)))) (eB (eOp2 (opNe) (eIxo 4 (eOp2 (opSub) (eFn (fLen) (eCons (eL 4) eNil)) (eC (.int 1)))) (eV 7))) [oD (.str man), oD (ni k), oD (ni lt), oD (.str w), oR (q ++ [u]), oD (ni j), oD (.str p), oD (tS v), x8, x9] = .ok (!(u == v)) := by
      have h0 : (((q.length : Nat) : Int) + 1 == 0) = false := by rw [beq_eq_false_iff_ne]; omega
      rw [tOr_def, eB_def, eOp2_def]
      simp -implicitDefEqProofs only [eFn_def, eCons_def, eNil_def, eL_def, eC_def, List.getElem?_cons_zero, List.getElem?_cons_succ, ok_bind, toD_lst, fLen_lst, List.length_map, List.length_append, List.length_cons, List.length_nil, lift_some, opEq_int, asB_bl, eB_def, eOp2_def, eIxo_def, opSub_int, eV_def, ixO_lst]
      rw [show (((q.length + (0 + 1) : Nat) : Int) == 0) = false by rw [beq_eq_false_iff_ne]; omega]
      rw [show ((q.length + (0 + 1) : Nat) : Int) - 1 = ((q.length : Nat) : Int) by omega, hix]
      simp -implicitDefEqProofs [hne]
    cases huv : (u == v) with
    | true =>
      rw [huv] at tst
      have e : u = v := by simpa using huv
      refine ⟨oD (.str p), oD (tS v), .seq s6 (.seq s7 (.no tst (Nx.nil.to ?_)))⟩
      unfold ddF
      rw [hlast, if_pos (by simpa using e)]
    | false =>
      rw [huv] at tst
      have e : ¬ u = v := by simpa using huv
      refine ⟨oD (.str p), oD (tS v), .seq s6 (.seq s7 (.yes tst ?_))⟩
      unfold ddF Nx
      rw [hlast, if_neg (by simpa using e)]
      have : q.length + 1 < 16777216 := by simp at hrl; omega
      simp -implicitDefEqProofs [this]
theorem ddF_ok {r : List (List (List Nat))} {v : List (List Nat)} (hr : ∀ x ∈ r, ∀ t ∈ x, Okw t) (hv : ∀ t ∈ v, Okw t) : ∀ x ∈ ddF r v, ∀ t ∈ x, Okw t := by
  unfold ddF
  split
  · exact hr
  · intro x hx
    rcases List.mem_append.mp hx with hx | hx
    · exact hr x hx
    · rw [List.mem_singleton.mp hx]; exact hv
theorem ddF_len {r : List (List (List Nat))} {v : List (List Nat)} : (ddF r v).length ≤ r.length + 1 := by
  unfold ddF
  split <;> simp
theorem flats_rows (l : List (List (List Nat))) : D.flats (l.map tS) = true := by
  induction l with
  | nil => simp [D.flats]
  | cons a l ih => rw [List.map_cons, D.flats, ih, tS, D.flat, flats_str]; rfl
/-- the row of views of the parts -/
def rowv (fl : Bool) (k lt : Nat) (w : List Nat) : List (List (List Nat)) := ((if fl then suf w else pre w).map (subs k lt)).foldl ddF []
theorem view_row {k lt : Nat} {w man : List Nat} {fl : Bool} (hman : opEq (.str man) (.str [102, 97, 108, 108, 105, 110, 103]) = some (.bl fl)) (hk : k ≤ 6) (hw : Okw w) (hl : w.length ≤ 60)
    (h1 : Okw man) (hn : ∀ b ∈ ([[108, 97, 115, 116], [102, 105, 114, 115, 116], [99, 111, 117, 110, 116, 115], [101, 110, 100, 115], [115, 108, 105, 116], [115, 99, 97, 116, 116, 101, 114, 101, 100]] : List (List Nat)), Okw b ∧ (man == b) = false) :
    MLview [.str man, ni k, ni lt, .str w] = .ok (.tup ((rowv fl k lt w).map tS)) := by
  have hwl : w.length ≤ 16777216 := by omega
  have er : rangeD 0 ((w.length : Int) + 1) = rangeD 0 ((w.length + 1 : Nat) : Int) := by rw [show (w.length : Int) + 1 = ((w.length + 1 : Nat) : Int) by omega]
  obtain ⟨c', e, r, x5, x6, x7, rfl, g1, g2, g3⟩ := forL_rg 5 bodyR ((w.length + 1 : Nat) : Int) (fun j c => ∃ r x5 x6 x7, c = [oD (.str man), oD (ni k), oD (ni lt), oD (.str w), oR r, x5, x6, x7, none, none] ∧ (∀ x ∈ r, ∀ t ∈ x, Okw t) ∧ r.length ≤ j ∧ r = ((List.range j).map fun i => subs k lt (if fl then w.drop (w.length - i) else w.take i)).foldl ddF [])
    [oD (.str man), oD (ni k), oD (ni lt), oD (.str w), oR [], none, none, none, none, none] (by
      rintro j c hj ⟨r, x5, x6, x7, rfl, g1, g2, g3⟩
      obtain ⟨x6', x7', E⟩ := rowturn (lt := lt) hman hk hw hl (j := j) (by omega) g1 (by omega) x6 x7 none none
      refine ⟨_, E, _, _, _, _, rfl, ddF_ok g1 subs_ok, ?_, ?_⟩
      · have := ddF_len (r := r) (v := subs k lt (if fl then w.drop (w.length - j) else w.take j)); omega
      · rw [List.range_succ, List.map_append, List.foldl_append, ← g3]; rfl)
    ⟨[], none, none, none, rfl, by simp, by simp, by simp⟩
  rw [Int.toNat_natCast] at g3
  have hrow : r = rowv fl k lt w := by
    rw [g3]
    unfold rowv
    cases fl <;> simp [pre, suf, Function.comp_def]
  unfold MLview BLview
  refine ret_of ?_
  show Ret _ [oD (.str man), oD (ni k), oD (ni lt), oD (.str w), none, none, none, none, none, none] _
  have tn : ∀ {b : List Nat} {c1 c2 c3 c4 c5 c6 c7 c8 c9 : Option O}, b ∈ ([[108, 97, 115, 116], [102, 105, 114, 115, 116], [99, 111, 117, 110, 116, 115], [101, 110, 100, 115], [115, 108, 105, 116], [115, 99, 97, 116, 116, 101, 114, 101, 100]] : List (List Nat)) → eB (eOp2 (opEq) (eV 0) (eC (.str b))) [oD (.str man), c1, c2, c3, c4, c5, c6, c7, c8, c9] = .ok false :=
    fun hb => tno ⟨⟨h1, (hn _ hb).1⟩, (hn _ hb).2⟩
  refine .seq (.no (tn (by simp)) .nil) (.seq (.no (tn (by simp)) .nil) (.seq (.no (tn (by simp)) .nil) (.seq (.no (tn (by simp)) .nil) (.seq (.no (tn (by simp)) .nil) (.seq (.no (tn (by simp)) .nil) (.seq (.setO (d := .lst []) (by simp -implicitDefEqProofs)) (.seq (.for (ds := rangeD 0 ((w.length + 1 : Nat) : Int)) ?_ e) (.ret ?_))))))))
  · have ha := asI_small (i := (w.length : Int) + 1) (by omega) (by omega)
    simp -implicitDefEqProofs only [eItR_def, eC_def, ok_bind, asI_zero, lift_some, eFn_def, eCons_def, eNil_def, eV_def, eOp2_def, List.getElem?_cons_zero, List.getElem?_cons_succ, List.set_cons_zero, List.set_cons_succ, fLen_str, if_pos hwl, opAdd_int, ha, er]
  · rw [hrow]
    simp -implicitDefEqProofs [Function.comp_def, flats_rows]
end GW

namespace GW
open PySem PySem.Spec PyProof.Rows L2 VS
/-! the pairs of the patterns (printed by gen7.py) -/
theorem opMul_str (l : List Nat) (j : Int) : opMul (.str l) (.int j) = if -(2 ^ 63) ≤ j ∧ j < 2 ^ 63 ∧ l.length * j.toNat ≤ 16777216 then some (.str (List.replicate j.toNat l).flatten) else none := (rfl)
theorem pw_len (u : List Nat) (c : Nat) : (pw u c).length = c * u.length := by
  unfold pw
  rw [List.length_flatten, List.map_replicate, List.sum_replicate_nat]
theorem mul_pw {u : List Nat} {c : Nat} (hu : u.length ≤ 30) (hc : c ≤ 30) : opMul (.str u) (ni c) = some (.str (pw u c)) ∧ (pw u c).length ≤ 900 := by
  have h := Nat.mul_le_mul hu hc
  have h2 := Nat.mul_le_mul hc hu
  rw [opMul_str, if_pos ⟨by omega, by omega, by rw [Int.toNat_natCast]; omega⟩, Int.toNat_natCast, pw_len]
  exact ⟨rfl, by omega⟩
def W4 (x u v y : List Nat) : D := .tup [.str x, .str u, .str v, .str y]
def W5 (x u v z y : List Nat) : D := .tup [.str x, .str u, .str v, .str z, .str y]
theorem ixt (l : List D) (i : Nat) {d : D} (h : l[i]? = some d) : opIx true (.tup l) (.int (i : Int)) = some d := by
  rw [opIx_tup, atI_ofNat, h]; rfl
theorem ixl (l : List D) (i : Nat) {d : D} (h : l[i]? = some d) : opIx true (.lst l) (.int (i : Int)) = some d := by
  rw [opIx_lst, atI_ofNat, h]; rfl
section
variable {x u v z y : List Nat}
theorem w40 : opIx true (W4 x u v y) (.int 0) = some (.str x) := ixt _ 0 rfl
theorem w41 : opIx true (W4 x u v y) (.int 1) = some (.str u) := ixt _ 1 rfl
theorem w42 : opIx true (W4 x u v y) (.int 2) = some (.str v) := ixt _ 2 rfl
theorem w43 : opIx true (W4 x u v y) (.int (4 - 1)) = some (.str y) := ixt _ 3 rfl
theorem w4l : fLen [W4 x u v y] = some (.int 4) := rfl
theorem w50 : opIx true (W5 x u v z y) (.int 0) = some (.str x) := ixt _ 0 rfl
theorem w51 : opIx true (W5 x u v z y) (.int 1) = some (.str u) := ixt _ 1 rfl
theorem w52 : opIx true (W5 x u v z y) (.int 2) = some (.str v) := ixt _ 2 rfl
theorem w53 : opIx true (W5 x u v z y) (.int 3) = some (.str z) := ixt _ 3 rfl
theorem w54 : opIx true (W5 x u v z y) (.int (5 - 1)) = some (.str y) := ixt _ 4 rfl
theorem w5l : fLen [W5 x u v z y] = some (.int 5) := rfl
end
theorem tnoG {a b : List Nat} {c : VS.Env} {i : Nat} (hc : c[i]? = some (oD (.str a))) (h : (Okw a ∧ Okw b) ∧ (a == b) = false) : eB (eOp2 (opEq) (eV i) (eC (.str b))) c = .ok false := by
  have := str_eq h.1.1 h.1.2
  rw [h.2] at this
  simp -implicitDefEqProofs [this, hc]
theorem tyesG {a : List Nat} {c : VS.Env} {i : Nat} (hc : c[i]? = some (oD (.str a))) (h : Okw a) : eB (eOp2 (opEq) (eV i) (eC (.str a))) c = .ok true := by
  have := str_eq h h
  rw [beq_self_eq_true] at this
  simp -implicitDefEqProofs [this, hc]
theorem cat {a b : List Nat} (h : a.length + b.length ≤ 16777216) : opAdd true true (.str a) (.str b) = some (.str (a ++ b)) := by rw [opAdd_str, if_pos h]
theorem made_behind {x u v y : List Nat} (hx : x.length ≤ 12) (hu : u.length ≤ 12) (hv : v.length ≤ 12) (hy : y.length ≤ 12) {c : Nat} (hc : c ≤ 4) : Mmade_words [.str [98, 101, 104, 105, 110, 100], W4 x u v y, ni c] = .ok (.tup [.str (x ++ pw u c ++ y), .str (v ++ pw u c ++ y)]) := by
  have hU := mul_pw (u := u) (c := c) (by omega) (by omega)
  have hQ := mul_pw (u := u ++ v) (c := c) (by simp; omega) (by omega)
  have hcat : opAdd true true (.str u) (.str v) = some (.str (u ++ v)) := cat (by omega)
  obtain ⟨hU1, hU2⟩ := hU
  obtain ⟨hQ1, hQ2⟩ := hQ
  unfold Mmade_words Bmade_words
  refine ret_of ?_
  show Ret _ [oD (.str [98, 101, 104, 105, 110, 100]), oD (W4 x u v y), oD (ni c), none, none, none, none] _
  refine .seq (.set (d := .str x) ?_) (.seq (.set (d := .str y) ?_) (.seq (.set (d := .str u) ?_) (.seq (.set (d := .str v) ?_) ?_)))
  · simp -implicitDefEqProofs only [eFn_def, eCons_def, eNil_def, eV_def, eC_def, eOp2_def, List.getElem?_cons_zero, List.getElem?_cons_succ, List.set_cons_zero, List.set_cons_succ, ok_bind, lift_some, w40]
  · simp -implicitDefEqProofs only [eFn_def, eCons_def, eNil_def, eV_def, eC_def, eOp2_def, List.getElem?_cons_zero, List.getElem?_cons_succ, List.set_cons_zero, List.set_cons_succ, ok_bind, lift_some, w4l, opSub_int, w43]
  · simp -implicitDefEqProofs only [eFn_def, eCons_def, eNil_def, eV_def, eC_def, eOp2_def, List.getElem?_cons_zero, List.getElem?_cons_succ, List.set_cons_zero, List.set_cons_succ, ok_bind, lift_some, w41]
  · simp -implicitDefEqProofs only [eFn_def, eCons_def, eNil_def, eV_def, eC_def, eOp2_def, List.getElem?_cons_zero, List.getElem?_cons_succ, List.set_cons_zero, List.set_cons_succ, ok_bind, lift_some, w42]
  refine .fst (.yes (tyesG (a := [98, 101, 104, 105, 110, 100]) rfl (by decide)) (.ret ?_))
  simp -implicitDefEqProofs (disch := ((try simp only [List.length_append]); omega)) only [eFn_def, eCons_def, eNil_def, eV_def, eC_def, eOp2_def, List.getElem?_cons_zero, List.getElem?_cons_succ, List.set_cons_zero, List.set_cons_succ, ok_bind, lift_some, hU1, hcat, hQ1, cat, fTup_def, List.length_cons, List.length_nil]
  rw [if_pos (by omega)]
  rfl
theorem patt_behind (m : D) {x u v y : List Nat} (hx : x.length ≤ 12) (hu : u.length ≤ 12) (hv : v.length ≤ 12) (hy : y.length ≤ 12) {k c : Nat} (hk : c = k + 1) (hc : c ≤ 4) : Mpair_of_pattern [m, ni k, .tup [.str [98, 101, 104, 105, 110, 100], W4 x u v y]] = .ok (.tup [.str (x ++ pw u c ++ y), .str (v ++ pw u c ++ y)]) := by
  have := made_behind hx hu hv  hy hc
  have e0 : opIx true (.tup [.str [98, 101, 104, 105, 110, 100], W4 x u v y]) (.int 0) = some (.str [98, 101, 104, 105, 110, 100]) := ixt _ 0 rfl
  have e1 : opIx true (.tup [.str [98, 101, 104, 105, 110, 100], W4 x u v y]) (.int 1) = some (W4 x u v y) := ixt _ 1 rfl
  have e2 : (k : Int) + 1 = ((c : Nat) : Int) := by omega
  unfold Mpair_of_pattern Bpair_of_pattern
  refine ret_of ?_
  show Ret _ [oD m, oD (ni k), oD (.tup [.str [98, 101, 104, 105, 110, 100], W4 x u v y])] _
  refine .ret ?_
  simp -implicitDefEqProofs only [eFn_def, eCons_def, eNil_def, eV_def, eC_def, eOp2_def, List.getElem?_cons_zero, List.getElem?_cons_succ, List.set_cons_zero, List.set_cons_succ, ok_bind, lift_some, eCall_def, e0, e1, opAdd_int, e2, this, noX_ok]
theorem pair_behind {x u v y : List Nat} (hx : x.length ≤ 12) (hu : u.length ≤ 12) (hv : v.length ≤ 12) (hy : y.length ≤ 12) {c : Nat} (hc : c ≤ 4) : MLpair [.tup [.str [98, 101, 104, 105, 110, 100], W4 x u v y], ni c] = .ok (.tup [.str (x ++ pw u c ++ y), .str (v ++ pw u c ++ y)]) := by
  have hU := mul_pw (u := u) (c := c) (by omega) (by omega)
  have hQ := mul_pw (u := u ++ v) (c := c) (by simp; omega) (by omega)
  have hcat : opAdd true true (.str u) (.str v) = some (.str (u ++ v)) := cat (by omega)
  obtain ⟨hU1, hU2⟩ := hU
  obtain ⟨hQ1, hQ2⟩ := hQ
  have e0 : opIx true (.tup [.str [98, 101, 104, 105, 110, 100], W4 x u v y]) (.int 0) = some (.str [98, 101, 104, 105, 110, 100]) := ixt _ 0 rfl
  have e1 : opIx true (.tup [.str [98, 101, 104, 105, 110, 100], W4 x u v y]) (.int 1) = some (W4 x u v y) := ixt _ 1 rfl
  unfold MLpair BLpair
  refine ret_of ?_
  show Ret _ [oD (.tup [.str [98, 101, 104, 105, 110, 100], W4 x u v y]), oD (ni c), none, none, none, none, none, none, none] _
  refine .seq (.set (d := .str [98, 101, 104, 105, 110, 100]) ?_) (.seq (.set (d := W4 x u v y) ?_) (.seq (.set (d := .str x) ?_) (.seq (.set (d := .str u) ?_) (.seq (.set (d := .str v) ?_) (.seq (.set (d := .str y) ?_) ?_)))))
  · simp -implicitDefEqProofs only [eFn_def, eCons_def, eNil_def, eV_def, eC_def, eOp2_def, List.getElem?_cons_zero, List.getElem?_cons_succ, List.set_cons_zero, List.set_cons_succ, ok_bind, lift_some, e0]
  · simp -implicitDefEqProofs only [eFn_def, eCons_def, eNil_def, eV_def, eC_def, eOp2_def, List.getElem?_cons_zero, List.getElem?_cons_succ, List.set_cons_zero, List.set_cons_succ, ok_bind, lift_some, e1]
  · simp -implicitDefEqProofs only [eFn_def, eCons_def, eNil_def, eV_def, eC_def, eOp2_def, List.getElem?_cons_zero, List.getElem?_cons_succ, List.set_cons_zero, List.set_cons_succ, ok_bind, lift_some, w40]
  · simp -implicitDefEqProofs only [eFn_def, eCons_def, eNil_def, eV_def, eC_def, eOp2_def, List.getElem?_cons_zero, List.getElem?_cons_succ, List.set_cons_zero, List.set_cons_succ, ok_bind, lift_some, w41]
  · simp -implicitDefEqProofs only [eFn_def, eCons_def, eNil_def, eV_def, eC_def, eOp2_def, List.getElem?_cons_zero, List.getElem?_cons_succ, List.set_cons_zero, List.set_cons_succ, ok_bind, lift_some, w42]
  · simp -implicitDefEqProofs only [eFn_def, eCons_def, eNil_def, eV_def, eC_def, eOp2_def, List.getElem?_cons_zero, List.getElem?_cons_succ, List.set_cons_zero, List.set_cons_succ, ok_bind, lift_some, w4l, opSub_int, w43]
  refine .fst (.yes (tyesG (a := [98, 101, 104, 105, 110, 100]) rfl (by decide)) (.ret ?_))
  simp -implicitDefEqProofs (disch := ((try simp only [List.length_append]); omega)) only [eFn_def, eCons_def, eNil_def, eV_def, eC_def, eOp2_def, List.getElem?_cons_zero, List.getElem?_cons_succ, List.set_cons_zero, List.set_cons_succ, ok_bind, lift_some, hU1, hcat, hQ1, cat, fTup_def, List.length_cons, List.length_nil]
  rw [if_pos (by omega)]
  rfl
theorem made_ahead {x u v y : List Nat} (hx : x.length ≤ 12) (hu : u.length ≤ 12) (hv : v.length ≤ 12) (hy : y.length ≤ 12) {c : Nat} (hc : c ≤ 4) : Mmade_words [.str [97, 104, 101, 97, 100], W4 x u v y, ni c] = .ok (.tup [.str (x ++ pw u c ++ v), .str (x ++ pw u c ++ y)]) := by
  have hU := mul_pw (u := u) (c := c) (by omega) (by omega)
  have hQ := mul_pw (u := u ++ v) (c := c) (by simp; omega) (by omega)
  have hcat : opAdd true true (.str u) (.str v) = some (.str (u ++ v)) := cat (by omega)
  obtain ⟨hU1, hU2⟩ := hU
  obtain ⟨hQ1, hQ2⟩ := hQ
  unfold Mmade_words Bmade_words
  refine ret_of ?_
  show Ret _ [oD (.str [97, 104, 101, 97, 100]), oD (W4 x u v y), oD (ni c), none, none, none, none] _
  refine .seq (.set (d := .str x) ?_) (.seq (.set (d := .str y) ?_) (.seq (.set (d := .str u) ?_) (.seq (.set (d := .str v) ?_) ?_)))
  · simp -implicitDefEqProofs only [eFn_def, eCons_def, eNil_def, eV_def, eC_def, eOp2_def, List.getElem?_cons_zero, List.getElem?_cons_succ, List.set_cons_zero, List.set_cons_succ, ok_bind, lift_some, w40]
  · simp -implicitDefEqProofs only [eFn_def, eCons_def, eNil_def, eV_def, eC_def, eOp2_def, List.getElem?_cons_zero, List.getElem?_cons_succ, List.set_cons_zero, List.set_cons_succ, ok_bind, lift_some, w4l, opSub_int, w43]
  · simp -implicitDefEqProofs only [eFn_def, eCons_def, eNil_def, eV_def, eC_def, eOp2_def, List.getElem?_cons_zero, List.getElem?_cons_succ, List.set_cons_zero, List.set_cons_succ, ok_bind, lift_some, w41]
  · simp -implicitDefEqProofs only [eFn_def, eCons_def, eNil_def, eV_def, eC_def, eOp2_def, List.getElem?_cons_zero, List.getElem?_cons_succ, List.set_cons_zero, List.set_cons_succ, ok_bind, lift_some, w42]
  refine .seq (.no (tnoG (a := [97, 104, 101, 97, 100]) (b := [98, 101, 104, 105, 110, 100]) rfl (by decide)) .nil) (.fst (.yes (tyesG (a := [97, 104, 101, 97, 100]) rfl (by decide)) (.ret ?_)))
  simp -implicitDefEqProofs (disch := ((try simp only [List.length_append]); omega)) only [eFn_def, eCons_def, eNil_def, eV_def, eC_def, eOp2_def, List.getElem?_cons_zero, List.getElem?_cons_succ, List.set_cons_zero, List.set_cons_succ, ok_bind, lift_some, hU1, hcat, hQ1, cat, fTup_def, List.length_cons, List.length_nil]
  rw [if_pos (by omega)]
  rfl
theorem patt_ahead (m : D) {x u v y : List Nat} (hx : x.length ≤ 12) (hu : u.length ≤ 12) (hv : v.length ≤ 12) (hy : y.length ≤ 12) {k c : Nat} (hk : c = k + 1) (hc : c ≤ 4) : Mpair_of_pattern [m, ni k, .tup [.str [97, 104, 101, 97, 100], W4 x u v y]] = .ok (.tup [.str (x ++ pw u c ++ v), .str (x ++ pw u c ++ y)]) := by
  have := made_ahead hx hu hv  hy hc
  have e0 : opIx true (.tup [.str [97, 104, 101, 97, 100], W4 x u v y]) (.int 0) = some (.str [97, 104, 101, 97, 100]) := ixt _ 0 rfl
  have e1 : opIx true (.tup [.str [97, 104, 101, 97, 100], W4 x u v y]) (.int 1) = some (W4 x u v y) := ixt _ 1 rfl
  have e2 : (k : Int) + 1 = ((c : Nat) : Int) := by omega
  unfold Mpair_of_pattern Bpair_of_pattern
  refine ret_of ?_
  show Ret _ [oD m, oD (ni k), oD (.tup [.str [97, 104, 101, 97, 100], W4 x u v y])] _
  refine .ret ?_
  simp -implicitDefEqProofs only [eFn_def, eCons_def, eNil_def, eV_def, eC_def, eOp2_def, List.getElem?_cons_zero, List.getElem?_cons_succ, List.set_cons_zero, List.set_cons_succ, ok_bind, lift_some, eCall_def, e0, e1, opAdd_int, e2, this, noX_ok]
theorem pair_ahead {x u v y : List Nat} (hx : x.length ≤ 12) (hu : u.length ≤ 12) (hv : v.length ≤ 12) (hy : y.length ≤ 12) {c : Nat} (hc : c ≤ 4) : MLpair [.tup [.str [97, 104, 101, 97, 100], W4 x u v y], ni c] = .ok (.tup [.str (x ++ pw u c ++ v), .str (x ++ pw u c ++ y)]) := by
  have hU := mul_pw (u := u) (c := c) (by omega) (by omega)
  have hQ := mul_pw (u := u ++ v) (c := c) (by simp; omega) (by omega)
  have hcat : opAdd true true (.str u) (.str v) = some (.str (u ++ v)) := cat (by omega)
  obtain ⟨hU1, hU2⟩ := hU
  obtain ⟨hQ1, hQ2⟩ := hQ
  have e0 : opIx true (.tup [.str [97, 104, 101, 97, 100], W4 x u v y]) (.int 0) = some (.str [97, 104, 101, 97, 100]) := ixt _ 0 rfl
  have e1 : opIx true (.tup [.str [97, 104, 101, 97, 100], W4 x u v y]) (.int 1) = some (W4 x u v y) := ixt _ 1 rfl
  unfold MLpair BLpair
  refine ret_of ?_
  show Ret _ [oD (.tup [.str [97, 104, 101, 97, 100], W4 x u v y]), oD (ni c), none, none, none, none, none, none, none] _
  refine .seq (.set (d := .str [97, 104, 101, 97, 100]) ?_) (.seq (.set (d := W4 x u v y) ?_) (.seq (.set (d := .str x) ?_) (.seq (.set (d := .str u) ?_) (.seq (.set (d := .str v) ?_) (.seq (.set (d := .str y) ?_) ?_)))))
  · simp -implicitDefEqProofs only [eFn_def, eCons_def, eNil_def, eV_def, eC_def, eOp2_def, List.getElem?_cons_zero, List.getElem?_cons_succ, List.set_cons_zero, List.set_cons_succ, ok_bind, lift_some, e0]
  · simp -implicitDefEqProofs only [eFn_def, eCons_def, eNil_def, eV_def, eC_def, eOp2_def, List.getElem?_cons_zero, List.getElem?_cons_succ, List.set_cons_zero, List.set_cons_succ, ok_bind, lift_some, e1]
  · simp -implicitDefEqProofs only [eFn_def, eCons_def, eNil_def, eV_def, eC_def, eOp2_def, List.getElem?_cons_zero, List.getElem?_cons_succ, List.set_cons_zero, List.set_cons_succ, ok_bind, lift_some, w40]
  · simp -implicitDefEqProofs only [eFn_def, eCons_def, eNil_def, eV_def, eC_def, eOp2_def, List.getElem?_cons_zero, List.getElem?_cons_succ, List.set_cons_zero, List.set_cons_succ, ok_bind, lift_some, w41]
  · simp -implicitDefEqProofs only [eFn_def, eCons_def, eNil_def, eV_def, eC_def, eOp2_def, List.getElem?_cons_zero, List.getElem?_cons_succ, List.set_cons_zero, List.set_cons_succ, ok_bind, lift_some, w42]
  · simp -implicitDefEqProofs only [eFn_def, eCons_def, eNil_def, eV_def, eC_def, eOp2_def, List.getElem?_cons_zero, List.getElem?_cons_succ, List.set_cons_zero, List.set_cons_succ, ok_bind, lift_some, w4l, opSub_int, w43]
  refine .seq (.no (tnoG (a := [97, 104, 101, 97, 100]) (b := [98, 101, 104, 105, 110, 100]) rfl (by decide)) .nil) (.fst (.yes (tyesG (a := [97, 104, 101, 97, 100]) rfl (by decide)) (.ret ?_)))
  simp -implicitDefEqProofs (disch := ((try simp only [List.length_append]); omega)) only [eFn_def, eCons_def, eNil_def, eV_def, eC_def, eOp2_def, List.getElem?_cons_zero, List.getElem?_cons_succ, List.set_cons_zero, List.set_cons_succ, ok_bind, lift_some, hU1, hcat, hQ1, cat, fTup_def, List.length_cons, List.length_nil]
  rw [if_pos (by omega)]
  rfl
theorem made_between {x u v y : List Nat} (hx : x.length ≤ 12) (hu : u.length ≤ 12) (hv : v.length ≤ 12) (hy : y.length ≤ 12) {c : Nat} (hc : c ≤ 4) : Mmade_words [.str [98, 101, 116, 119, 101, 101, 110], W4 x u v y, ni c] = .ok (.tup [.str (x ++ pw u c ++ v ++ pw u c ++ y), .str (x ++ pw u c ++ y)]) := by
  have hU := mul_pw (u := u) (c := c) (by omega) (by omega)
  have hQ := mul_pw (u := u ++ v) (c := c) (by simp; omega) (by omega)
  have hcat : opAdd true true (.str u) (.str v) = some (.str (u ++ v)) := cat (by omega)
  obtain ⟨hU1, hU2⟩ := hU
  obtain ⟨hQ1, hQ2⟩ := hQ
  unfold Mmade_words Bmade_words
  refine ret_of ?_
  show Ret _ [oD (.str [98, 101, 116, 119, 101, 101, 110]), oD (W4 x u v y), oD (ni c), none, none, none, none] _
  refine .seq (.set (d := .str x) ?_) (.seq (.set (d := .str y) ?_) (.seq (.set (d := .str u) ?_) (.seq (.set (d := .str v) ?_) ?_)))
  · simp -implicitDefEqProofs only [eFn_def, eCons_def, eNil_def, eV_def, eC_def, eOp2_def, List.getElem?_cons_zero, List.getElem?_cons_succ, List.set_cons_zero, List.set_cons_succ, ok_bind, lift_some, w40]
  · simp -implicitDefEqProofs only [eFn_def, eCons_def, eNil_def, eV_def, eC_def, eOp2_def, List.getElem?_cons_zero, List.getElem?_cons_succ, List.set_cons_zero, List.set_cons_succ, ok_bind, lift_some, w4l, opSub_int, w43]
  · simp -implicitDefEqProofs only [eFn_def, eCons_def, eNil_def, eV_def, eC_def, eOp2_def, List.getElem?_cons_zero, List.getElem?_cons_succ, List.set_cons_zero, List.set_cons_succ, ok_bind, lift_some, w41]
  · simp -implicitDefEqProofs only [eFn_def, eCons_def, eNil_def, eV_def, eC_def, eOp2_def, List.getElem?_cons_zero, List.getElem?_cons_succ, List.set_cons_zero, List.set_cons_succ, ok_bind, lift_some, w42]
  refine .seq (.no (tnoG (a := [98, 101, 116, 119, 101, 101, 110]) (b := [98, 101, 104, 105, 110, 100]) rfl (by decide)) .nil) (.seq (.no (tnoG (a := [98, 101, 116, 119, 101, 101, 110]) (b := [97, 104, 101, 97, 100]) rfl (by decide)) .nil) (.fst (.yes (tyesG (a := [98, 101, 116, 119, 101, 101, 110]) rfl (by decide)) (.ret ?_))))
  simp -implicitDefEqProofs (disch := ((try simp only [List.length_append]); omega)) only [eFn_def, eCons_def, eNil_def, eV_def, eC_def, eOp2_def, List.getElem?_cons_zero, List.getElem?_cons_succ, List.set_cons_zero, List.set_cons_succ, ok_bind, lift_some, hU1, hcat, hQ1, cat, fTup_def, List.length_cons, List.length_nil]
  rw [if_pos (by omega)]
  rfl
theorem patt_between (m : D) {x u v y : List Nat} (hx : x.length ≤ 12) (hu : u.length ≤ 12) (hv : v.length ≤ 12) (hy : y.length ≤ 12) {k c : Nat} (hk : c = k + 1) (hc : c ≤ 4) : Mpair_of_pattern [m, ni k, .tup [.str [98, 101, 116, 119, 101, 101, 110], W4 x u v y]] = .ok (.tup [.str (x ++ pw u c ++ v ++ pw u c ++ y), .str (x ++ pw u c ++ y)]) := by
  have := made_between hx hu hv  hy hc
  have e0 : opIx true (.tup [.str [98, 101, 116, 119, 101, 101, 110], W4 x u v y]) (.int 0) = some (.str [98, 101, 116, 119, 101, 101, 110]) := ixt _ 0 rfl
  have e1 : opIx true (.tup [.str [98, 101, 116, 119, 101, 101, 110], W4 x u v y]) (.int 1) = some (W4 x u v y) := ixt _ 1 rfl
  have e2 : (k : Int) + 1 = ((c : Nat) : Int) := by omega
  unfold Mpair_of_pattern Bpair_of_pattern
  refine ret_of ?_
  show Ret _ [oD m, oD (ni k), oD (.tup [.str [98, 101, 116, 119, 101, 101, 110], W4 x u v y])] _
  refine .ret ?_
  simp -implicitDefEqProofs only [eFn_def, eCons_def, eNil_def, eV_def, eC_def, eOp2_def, List.getElem?_cons_zero, List.getElem?_cons_succ, List.set_cons_zero, List.set_cons_succ, ok_bind, lift_some, eCall_def, e0, e1, opAdd_int, e2, this, noX_ok]
theorem pair_between {x u v y : List Nat} (hx : x.length ≤ 12) (hu : u.length ≤ 12) (hv : v.length ≤ 12) (hy : y.length ≤ 12) {c : Nat} (hc : c ≤ 4) : MLpair [.tup [.str [98, 101, 116, 119, 101, 101, 110], W4 x u v y], ni c] = .ok (.tup [.str (x ++ pw u c ++ v ++ pw u c ++ y), .str (x ++ pw u c ++ y)]) := by
  have hU := mul_pw (u := u) (c := c) (by omega) (by omega)
  have hQ := mul_pw (u := u ++ v) (c := c) (by simp; omega) (by omega)
  have hcat : opAdd true true (.str u) (.str v) = some (.str (u ++ v)) := cat (by omega)
  obtain ⟨hU1, hU2⟩ := hU
  obtain ⟨hQ1, hQ2⟩ := hQ
  have e0 : opIx true (.tup [.str [98, 101, 116, 119, 101, 101, 110], W4 x u v y]) (.int 0) = some (.str [98, 101, 116, 119, 101, 101, 110]) := ixt _ 0 rfl
  have e1 : opIx true (.tup [.str [98, 101, 116, 119, 101, 101, 110], W4 x u v y]) (.int 1) = some (W4 x u v y) := ixt _ 1 rfl
  unfold MLpair BLpair
  refine ret_of ?_
  show Ret _ [oD (.tup [.str [98, 101, 116, 119, 101, 101, 110], W4 x u v y]), oD (ni c), none, none, none, none, none, none, none] _
  refine .seq (.set (d := .str [98, 101, 116, 119, 101, 101, 110]) ?_) (.seq (.set (d := W4 x u v y) ?_) (.seq (.set (d := .str x) ?_) (.seq (.set (d := .str u) ?_) (.seq (.set (d := .str v) ?_) (.seq (.set (d := .str y) ?_) ?_)))))
  · simp -implicitDefEqProofs only [eFn_def, eCons_def, eNil_def, eV_def, eC_def, eOp2_def, List.getElem?_cons_zero, List.getElem?_cons_succ, List.set_cons_zero, List.set_cons_succ, ok_bind, lift_some, e0]
  · simp -implicitDefEqProofs only [eFn_def, eCons_def, eNil_def, eV_def, eC_def, eOp2_def, List.getElem?_cons_zero, List.getElem?_cons_succ, List.set_cons_zero, List.set_cons_succ, ok_bind, lift_some, e1]
  · simp -implicitDefEqProofs only [eFn_def, eCons_def, eNil_def, eV_def, eC_def, eOp2_def, List.getElem?_cons_zero, List.getElem?_cons_succ, List.set_cons_zero, List.set_cons_succ, ok_bind, lift_some, w40]
  · simp -implicitDefEqProofs only [eFn_def, eCons_def, eNil_def, eV_def, eC_def, eOp2_def, List.getElem?_cons_zero, List.getElem?_cons_succ, List.set_cons_zero, List.set_cons_succ, ok_bind, lift_some, w41]
  · simp -implicitDefEqProofs only [eFn_def, eCons_def, eNil_def, eV_def, eC_def, eOp2_def, List.getElem?_cons_zero, List.getElem?_cons_succ, List.set_cons_zero, List.set_cons_succ, ok_bind, lift_some, w42]
  · simp -implicitDefEqProofs only [eFn_def, eCons_def, eNil_def, eV_def, eC_def, eOp2_def, List.getElem?_cons_zero, List.getElem?_cons_succ, List.set_cons_zero, List.set_cons_succ, ok_bind, lift_some, w4l, opSub_int, w43]
  refine .seq (.no (tnoG (a := [98, 101, 116, 119, 101, 101, 110]) (b := [98, 101, 104, 105, 110, 100]) rfl (by decide)) .nil) (.seq (.no (tnoG (a := [98, 101, 116, 119, 101, 101, 110]) (b := [97, 104, 101, 97, 100]) rfl (by decide)) .nil) (.fst (.yes (tyesG (a := [98, 101, 116, 119, 101, 101, 110]) rfl (by decide)) (.ret ?_))))
  simp -implicitDefEqProofs (disch := ((try simp only [List.length_append]); omega)) only [eFn_def, eCons_def, eNil_def, eV_def, eC_def, eOp2_def, List.getElem?_cons_zero, List.getElem?_cons_succ, List.set_cons_zero, List.set_cons_succ, ok_bind, lift_some, hU1, hcat, hQ1, cat, fTup_def, List.length_cons, List.length_nil]
  rw [if_pos (by omega)]
  rfl
theorem made_twice {x u v y : List Nat} (hx : x.length ≤ 12) (hu : u.length ≤ 12) (hv : v.length ≤ 12) (hy : y.length ≤ 12) {c : Nat} (hc : c ≤ 4) : Mmade_words [.str [116, 119, 105, 99, 101], W4 x u v y, ni c] = .ok (.tup [.str (x ++ pw u c ++ v ++ pw u c ++ y), .str (x ++ pw u c ++ v ++ pw u c ++ v ++ pw u c ++ y)]) := by
  have hU := mul_pw (u := u) (c := c) (by omega) (by omega)
  have hQ := mul_pw (u := u ++ v) (c := c) (by simp; omega) (by omega)
  have hcat : opAdd true true (.str u) (.str v) = some (.str (u ++ v)) := cat (by omega)
  obtain ⟨hU1, hU2⟩ := hU
  obtain ⟨hQ1, hQ2⟩ := hQ
  unfold Mmade_words Bmade_words
  refine ret_of ?_
  show Ret _ [oD (.str [116, 119, 105, 99, 101]), oD (W4 x u v y), oD (ni c), none, none, none, none] _
  refine .seq (.set (d := .str x) ?_) (.seq (.set (d := .str y) ?_) (.seq (.set (d := .str u) ?_) (.seq (.set (d := .str v) ?_) ?_)))
  · simp -implicitDefEqProofs only [eFn_def, eCons_def, eNil_def, eV_def, eC_def, eOp2_def, List.getElem?_cons_zero, List.getElem?_cons_succ, List.set_cons_zero, List.set_cons_succ, ok_bind, lift_some, w40]
  · simp -implicitDefEqProofs only [eFn_def, eCons_def, eNil_def, eV_def, eC_def, eOp2_def, List.getElem?_cons_zero, List.getElem?_cons_succ, List.set_cons_zero, List.set_cons_succ, ok_bind, lift_some, w4l, opSub_int, w43]
  · simp -implicitDefEqProofs only [eFn_def, eCons_def, eNil_def, eV_def, eC_def, eOp2_def, List.getElem?_cons_zero, List.getElem?_cons_succ, List.set_cons_zero, List.set_cons_succ, ok_bind, lift_some, w41]
  · simp -implicitDefEqProofs only [eFn_def, eCons_def, eNil_def, eV_def, eC_def, eOp2_def, List.getElem?_cons_zero, List.getElem?_cons_succ, List.set_cons_zero, List.set_cons_succ, ok_bind, lift_some, w42]
  refine .seq (.no (tnoG (a := [116, 119, 105, 99, 101]) (b := [98, 101, 104, 105, 110, 100]) rfl (by decide)) .nil) (.seq (.no (tnoG (a := [116, 119, 105, 99, 101]) (b := [97, 104, 101, 97, 100]) rfl (by decide)) .nil) (.seq (.no (tnoG (a := [116, 119, 105, 99, 101]) (b := [98, 101, 116, 119, 101, 101, 110]) rfl (by decide)) .nil) (.fst (.yes (tyesG (a := [116, 119, 105, 99, 101]) rfl (by decide)) (.ret ?_)))))
  simp -implicitDefEqProofs (disch := ((try simp only [List.length_append]); omega)) only [eFn_def, eCons_def, eNil_def, eV_def, eC_def, eOp2_def, List.getElem?_cons_zero, List.getElem?_cons_succ, List.set_cons_zero, List.set_cons_succ, ok_bind, lift_some, hU1, hcat, hQ1, cat, fTup_def, List.length_cons, List.length_nil]
  rw [if_pos (by omega)]
  rfl
theorem patt_twice (m : D) {x u v y : List Nat} (hx : x.length ≤ 12) (hu : u.length ≤ 12) (hv : v.length ≤ 12) (hy : y.length ≤ 12) {k c : Nat} (hk : c = k + 1) (hc : c ≤ 4) : Mpair_of_pattern [m, ni k, .tup [.str [116, 119, 105, 99, 101], W4 x u v y]] = .ok (.tup [.str (x ++ pw u c ++ v ++ pw u c ++ y), .str (x ++ pw u c ++ v ++ pw u c ++ v ++ pw u c ++ y)]) := by
  have := made_twice hx hu hv  hy hc
  have e0 : opIx true (.tup [.str [116, 119, 105, 99, 101], W4 x u v y]) (.int 0) = some (.str [116, 119, 105, 99, 101]) := ixt _ 0 rfl
  have e1 : opIx true (.tup [.str [116, 119, 105, 99, 101], W4 x u v y]) (.int 1) = some (W4 x u v y) := ixt _ 1 rfl
  have e2 : (k : Int) + 1 = ((c : Nat) : Int) := by omega
  unfold Mpair_of_pattern Bpair_of_pattern
  refine ret_of ?_
  show Ret _ [oD m, oD (ni k), oD (.tup [.str [116, 119, 105, 99, 101], W4 x u v y])] _
  refine .ret ?_
  simp -implicitDefEqProofs only [eFn_def, eCons_def, eNil_def, eV_def, eC_def, eOp2_def, List.getElem?_cons_zero, List.getElem?_cons_succ, List.set_cons_zero, List.set_cons_succ, ok_bind, lift_some, eCall_def, e0, e1, opAdd_int, e2, this, noX_ok]
theorem pair_twice {x u v y : List Nat} (hx : x.length ≤ 12) (hu : u.length ≤ 12) (hv : v.length ≤ 12) (hy : y.length ≤ 12) {c : Nat} (hc : c ≤ 4) : MLpair [.tup [.str [116, 119, 105, 99, 101], W4 x u v y], ni c] = .ok (.tup [.str (x ++ pw u c ++ v ++ pw u c ++ y), .str (x ++ pw u c ++ v ++ pw u c ++ v ++ pw u c ++ y)]) := by
  have hU := mul_pw (u := u) (c := c) (by omega) (by omega)
  have hQ := mul_pw (u := u ++ v) (c := c) (by simp; omega) (by omega)
  have hcat : opAdd true true (.str u) (.str v) = some (.str (u ++ v)) := cat (by omega)
  obtain ⟨hU1, hU2⟩ := hU
  obtain ⟨hQ1, hQ2⟩ := hQ
  have e0 : opIx true (.tup [.str [116, 119, 105, 99, 101], W4 x u v y]) (.int 0) = some (.str [116, 119, 105, 99, 101]) := ixt _ 0 rfl
  have e1 : opIx true (.tup [.str [116, 119, 105, 99, 101], W4 x u v y]) (.int 1) = some (W4 x u v y) := ixt _ 1 rfl
  unfold MLpair BLpair
  refine ret_of ?_
  show Ret _ [oD (.tup [.str [116, 119, 105, 99, 101], W4 x u v y]), oD (ni c), none, none, none, none, none, none, none] _
  refine .seq (.set (d := .str [116, 119, 105, 99, 101]) ?_) (.seq (.set (d := W4 x u v y) ?_) (.seq (.set (d := .str x) ?_) (.seq (.set (d := .str u) ?_) (.seq (.set (d := .str v) ?_) (.seq (.set (d := .str y) ?_) ?_)))))
  · simp -implicitDefEqProofs only [eFn_def, eCons_def, eNil_def, eV_def, eC_def, eOp2_def, List.getElem?_cons_zero, List.getElem?_cons_succ, List.set_cons_zero, List.set_cons_succ, ok_bind, lift_some, e0]
  · simp -implicitDefEqProofs only [eFn_def, eCons_def, eNil_def, eV_def, eC_def, eOp2_def, List.getElem?_cons_zero, List.getElem?_cons_succ, List.set_cons_zero, List.set_cons_succ, ok_bind, lift_some, e1]
  · simp -implicitDefEqProofs only [eFn_def, eCons_def, eNil_def, eV_def, eC_def, eOp2_def, List.getElem?_cons_zero, List.getElem?_cons_succ, List.set_cons_zero, List.set_cons_succ, ok_bind, lift_some, w40]
  · simp -implicitDefEqProofs only [eFn_def, eCons_def, eNil_def, eV_def, eC_def, eOp2_def, List.getElem?_cons_zero, List.getElem?_cons_succ, List.set_cons_zero, List.set_cons_succ, ok_bind, lift_some, w41]
  · simp -implicitDefEqProofs only [eFn_def, eCons_def, eNil_def, eV_def, eC_def, eOp2_def, List.getElem?_cons_zero, List.getElem?_cons_succ, List.set_cons_zero, List.set_cons_succ, ok_bind, lift_some, w42]
  · simp -implicitDefEqProofs only [eFn_def, eCons_def, eNil_def, eV_def, eC_def, eOp2_def, List.getElem?_cons_zero, List.getElem?_cons_succ, List.set_cons_zero, List.set_cons_succ, ok_bind, lift_some, w4l, opSub_int, w43]
  refine .seq (.no (tnoG (a := [116, 119, 105, 99, 101]) (b := [98, 101, 104, 105, 110, 100]) rfl (by decide)) .nil) (.seq (.no (tnoG (a := [116, 119, 105, 99, 101]) (b := [97, 104, 101, 97, 100]) rfl (by decide)) .nil) (.seq (.no (tnoG (a := [116, 119, 105, 99, 101]) (b := [98, 101, 116, 119, 101, 101, 110]) rfl (by decide)) .nil) (.fst (.yes (tyesG (a := [116, 119, 105, 99, 101]) rfl (by decide)) (.ret ?_)))))
  simp -implicitDefEqProofs (disch := ((try simp only [List.length_append]); omega)) only [eFn_def, eCons_def, eNil_def, eV_def, eC_def, eOp2_def, List.getElem?_cons_zero, List.getElem?_cons_succ, List.set_cons_zero, List.set_cons_succ, ok_bind, lift_some, hU1, hcat, hQ1, cat, fTup_def, List.length_cons, List.length_nil]
  rw [if_pos (by omega)]
  rfl
theorem ordered_spec {x u v z y : List Nat} (hx : x.length ≤ 12) (hu : u.length ≤ 12) (hv : v.length ≤ 12) (hz : z.length ≤ 12) (hy : y.length ≤ 12) {c : Nat} (hc : c ≤ 4) : Mordered_words [W5 x u v z y, ni c] = .ok (.tup [.str (x ++ pw u c ++ v ++ pw u c ++ z ++ pw u c ++ y), .str (x ++ pw u c ++ z ++ pw u c ++ v ++ pw u c ++ y)]) := by
  have hU := mul_pw (u := u) (c := c) (by omega) (by omega)
  have hQ := mul_pw (u := u ++ v) (c := c) (by simp; omega) (by omega)
  have hcat : opAdd true true (.str u) (.str v) = some (.str (u ++ v)) := cat (by omega)
  obtain ⟨hU1, hU2⟩ := hU
  obtain ⟨hQ1, hQ2⟩ := hQ
  unfold Mordered_words Bordered_words
  refine ret_of ?_
  show Ret _ [oD (W5 x u v z y), oD (ni c), none, none, none, none, none, none] _
  refine .seq (c' := [oD (W5 x u v z y), oD (ni c), oD (.str x), oD (.str u), oD (.str v), oD (.str z), oD (.str y), none]) ?_ (.seq (.set (d := .str (x ++ pw u c ++ v ++ pw u c ++ z ++ pw u c ++ y)) ?_) (.ret ?_))
  · unfold Nx W5
    simp -implicitDefEqProofs
  · simp -implicitDefEqProofs (disch := ((try simp only [List.length_append]); omega)) only [eFn_def, eCons_def, eNil_def, eV_def, eC_def, eOp2_def, List.getElem?_cons_zero, List.getElem?_cons_succ, List.set_cons_zero, List.set_cons_succ, ok_bind, lift_some, hU1, hcat, hQ1, cat]
  · simp -implicitDefEqProofs (disch := ((try simp only [List.length_append]); omega)) only [eFn_def, eCons_def, eNil_def, eV_def, eC_def, eOp2_def, List.getElem?_cons_zero, List.getElem?_cons_succ, List.set_cons_zero, List.set_cons_succ, ok_bind, lift_some, hU1, hcat, hQ1, cat, fTup_def, List.length_cons, List.length_nil]
    rw [if_pos (by omega)]
    rfl
theorem made_order {x u v z y : List Nat} (hx : x.length ≤ 12) (hu : u.length ≤ 12) (hv : v.length ≤ 12) (hz : z.length ≤ 12) (hy : y.length ≤ 12) {c : Nat} (hc : c ≤ 4) : Mmade_words [.str [111, 114, 100, 101, 114], W5 x u v z y, ni c] = .ok (.tup [.str (x ++ pw u c ++ v ++ pw u c ++ z ++ pw u c ++ y), .str (x ++ pw u c ++ z ++ pw u c ++ v ++ pw u c ++ y)]) := by
  have hU := mul_pw (u := u) (c := c) (by omega) (by omega)
  have hQ := mul_pw (u := u ++ v) (c := c) (by simp; omega) (by omega)
  have hcat : opAdd true true (.str u) (.str v) = some (.str (u ++ v)) := cat (by omega)
  obtain ⟨hU1, hU2⟩ := hU
  obtain ⟨hQ1, hQ2⟩ := hQ
  unfold Mmade_words Bmade_words
  refine ret_of ?_
  show Ret _ [oD (.str [111, 114, 100, 101, 114]), oD (W5 x u v z y), oD (ni c), none, none, none, none] _
  refine .seq (.set (d := .str x) ?_) (.seq (.set (d := .str y) ?_) (.seq (.set (d := .str u) ?_) (.seq (.set (d := .str v) ?_) ?_)))
  · simp -implicitDefEqProofs only [eFn_def, eCons_def, eNil_def, eV_def, eC_def, eOp2_def, List.getElem?_cons_zero, List.getElem?_cons_succ, List.set_cons_zero, List.set_cons_succ, ok_bind, lift_some, w50]
  · simp -implicitDefEqProofs only [eFn_def, eCons_def, eNil_def, eV_def, eC_def, eOp2_def, List.getElem?_cons_zero, List.getElem?_cons_succ, List.set_cons_zero, List.set_cons_succ, ok_bind, lift_some, w5l, opSub_int, w54]
  · simp -implicitDefEqProofs only [eFn_def, eCons_def, eNil_def, eV_def, eC_def, eOp2_def, List.getElem?_cons_zero, List.getElem?_cons_succ, List.set_cons_zero, List.set_cons_succ, ok_bind, lift_some, w51]
  · simp -implicitDefEqProofs only [eFn_def, eCons_def, eNil_def, eV_def, eC_def, eOp2_def, List.getElem?_cons_zero, List.getElem?_cons_succ, List.set_cons_zero, List.set_cons_succ, ok_bind, lift_some, w52]
  refine .seq (.no (tnoG (a := [111, 114, 100, 101, 114]) (b := [98, 101, 104, 105, 110, 100]) rfl (by decide)) .nil) (.seq (.no (tnoG (a := [111, 114, 100, 101, 114]) (b := [97, 104, 101, 97, 100]) rfl (by decide)) .nil) (.seq (.no (tnoG (a := [111, 114, 100, 101, 114]) (b := [98, 101, 116, 119, 101, 101, 110]) rfl (by decide)) .nil) (.seq (.no (tnoG (a := [111, 114, 100, 101, 114]) (b := [116, 119, 105, 99, 101]) rfl (by decide)) .nil) (.fst (.yes (tyesG (a := [111, 114, 100, 101, 114]) rfl (by decide)) (.ret ?_))))))
  have := ordered_spec hx hu hv hz hy hc
  simp -implicitDefEqProofs [this]
theorem patt_order (m : D) {x u v z y : List Nat} (hx : x.length ≤ 12) (hu : u.length ≤ 12) (hv : v.length ≤ 12) (hz : z.length ≤ 12) (hy : y.length ≤ 12) {k c : Nat} (hk : c = k + 1) (hc : c ≤ 4) : Mpair_of_pattern [m, ni k, .tup [.str [111, 114, 100, 101, 114], W5 x u v z y]] = .ok (.tup [.str (x ++ pw u c ++ v ++ pw u c ++ z ++ pw u c ++ y), .str (x ++ pw u c ++ z ++ pw u c ++ v ++ pw u c ++ y)]) := by
  have := made_order hx hu hv hz hy hc
  have e0 : opIx true (.tup [.str [111, 114, 100, 101, 114], W5 x u v z y]) (.int 0) = some (.str [111, 114, 100, 101, 114]) := ixt _ 0 rfl
  have e1 : opIx true (.tup [.str [111, 114, 100, 101, 114], W5 x u v z y]) (.int 1) = some (W5 x u v z y) := ixt _ 1 rfl
  have e2 : (k : Int) + 1 = ((c : Nat) : Int) := by omega
  unfold Mpair_of_pattern Bpair_of_pattern
  refine ret_of ?_
  show Ret _ [oD m, oD (ni k), oD (.tup [.str [111, 114, 100, 101, 114], W5 x u v z y])] _
  refine .ret ?_
  simp -implicitDefEqProofs only [eFn_def, eCons_def, eNil_def, eV_def, eC_def, eOp2_def, List.getElem?_cons_zero, List.getElem?_cons_succ, List.set_cons_zero, List.set_cons_succ, ok_bind, lift_some, eCall_def, e0, e1, opAdd_int, e2, this, noX_ok]
theorem pair_order {x u v z y : List Nat} (hx : x.length ≤ 12) (hu : u.length ≤ 12) (hv : v.length ≤ 12) (hz : z.length ≤ 12) (hy : y.length ≤ 12) {c : Nat} (hc : c ≤ 4) : MLpair [.tup [.str [111, 114, 100, 101, 114], W5 x u v z y], ni c] = .ok (.tup [.str (x ++ pw u c ++ v ++ pw u c ++ z ++ pw u c ++ y), .str (x ++ pw u c ++ z ++ pw u c ++ v ++ pw u c ++ y)]) := by
  have hU := mul_pw (u := u) (c := c) (by omega) (by omega)
  have hQ := mul_pw (u := u ++ v) (c := c) (by simp; omega) (by omega)
  have hcat : opAdd true true (.str u) (.str v) = some (.str (u ++ v)) := cat (by omega)
  obtain ⟨hU1, hU2⟩ := hU
  obtain ⟨hQ1, hQ2⟩ := hQ
  have e0 : opIx true (.tup [.str [111, 114, 100, 101, 114], W5 x u v z y]) (.int 0) = some (.str [111, 114, 100, 101, 114]) := ixt _ 0 rfl
  have e1 : opIx true (.tup [.str [111, 114, 100, 101, 114], W5 x u v z y]) (.int 1) = some (W5 x u v z y) := ixt _ 1 rfl
  unfold MLpair BLpair
  refine ret_of ?_
  show Ret _ [oD (.tup [.str [111, 114, 100, 101, 114], W5 x u v z y]), oD (ni c), none, none, none, none, none, none, none] _
  refine .seq (.set (d := .str [111, 114, 100, 101, 114]) ?_) (.seq (.set (d := W5 x u v z y) ?_) (.seq (.set (d := .str x) ?_) (.seq (.set (d := .str u) ?_) (.seq (.set (d := .str v) ?_) (.seq (.set (d := .str y) ?_) ?_)))))
  · simp -implicitDefEqProofs only [eFn_def, eCons_def, eNil_def, eV_def, eC_def, eOp2_def, List.getElem?_cons_zero, List.getElem?_cons_succ, List.set_cons_zero, List.set_cons_succ, ok_bind, lift_some, e0]
  · simp -implicitDefEqProofs only [eFn_def, eCons_def, eNil_def, eV_def, eC_def, eOp2_def, List.getElem?_cons_zero, List.getElem?_cons_succ, List.set_cons_zero, List.set_cons_succ, ok_bind, lift_some, e1]
  · simp -implicitDefEqProofs only [eFn_def, eCons_def, eNil_def, eV_def, eC_def, eOp2_def, List.getElem?_cons_zero, List.getElem?_cons_succ, List.set_cons_zero, List.set_cons_succ, ok_bind, lift_some, w50]
  · simp -implicitDefEqProofs only [eFn_def, eCons_def, eNil_def, eV_def, eC_def, eOp2_def, List.getElem?_cons_zero, List.getElem?_cons_succ, List.set_cons_zero, List.set_cons_succ, ok_bind, lift_some, w51]
  · simp -implicitDefEqProofs only [eFn_def, eCons_def, eNil_def, eV_def, eC_def, eOp2_def, List.getElem?_cons_zero, List.getElem?_cons_succ, List.set_cons_zero, List.set_cons_succ, ok_bind, lift_some, w52]
  · simp -implicitDefEqProofs only [eFn_def, eCons_def, eNil_def, eV_def, eC_def, eOp2_def, List.getElem?_cons_zero, List.getElem?_cons_succ, List.set_cons_zero, List.set_cons_succ, ok_bind, lift_some, w5l, opSub_int, w54]
  refine .seq (.no (tnoG (a := [111, 114, 100, 101, 114]) (b := [98, 101, 104, 105, 110, 100]) rfl (by decide)) .nil) (.seq (.no (tnoG (a := [111, 114, 100, 101, 114]) (b := [97, 104, 101, 97, 100]) rfl (by decide)) .nil) (.seq (.no (tnoG (a := [111, 114, 100, 101, 114]) (b := [98, 101, 116, 119, 101, 101, 110]) rfl (by decide)) .nil) (.seq (.no (tnoG (a := [111, 114, 100, 101, 114]) (b := [116, 119, 105, 99, 101]) rfl (by decide)) .nil) (.fst (.yes (tyesG (a := [111, 114, 100, 101, 114]) rfl (by decide)) (.seq (.set (d := .str z) ?_) (.ret ?_)))))))
  · simp -implicitDefEqProofs only [eFn_def, eCons_def, eNil_def, eV_def, eC_def, eOp2_def, List.getElem?_cons_zero, List.getElem?_cons_succ, List.set_cons_zero, List.set_cons_succ, ok_bind, lift_some, w53]
  · simp -implicitDefEqProofs (disch := ((try simp only [List.length_append]); omega)) only [eFn_def, eCons_def, eNil_def, eV_def, eC_def, eOp2_def, List.getElem?_cons_zero, List.getElem?_cons_succ, List.set_cons_zero, List.set_cons_succ, ok_bind, lift_some, hU1, hcat, hQ1, cat, fTup_def, List.length_cons, List.length_nil]
    rw [if_pos (by omega)]
    rfl
theorem made_right {x u v y : List Nat} (hx : x.length ≤ 12) (hu : u.length ≤ 12) (hv : v.length ≤ 12) (hy : y.length ≤ 12) {c : Nat} (hc : c ≤ 4) : Mmade_words [.str [114, 105, 103, 104, 116], W4 x u v y, ni c] = .ok (.tup [.str (x ++ pw (u ++ v) c ++ y), .str (x ++ pw (u ++ v) c ++ u ++ y)]) := by
  have hU := mul_pw (u := u) (c := c) (by omega) (by omega)
  have hQ := mul_pw (u := u ++ v) (c := c) (by simp; omega) (by omega)
  have hcat : opAdd true true (.str u) (.str v) = some (.str (u ++ v)) := cat (by omega)
  obtain ⟨hU1, hU2⟩ := hU
  obtain ⟨hQ1, hQ2⟩ := hQ
  unfold Mmade_words Bmade_words
  refine ret_of ?_
  show Ret _ [oD (.str [114, 105, 103, 104, 116]), oD (W4 x u v y), oD (ni c), none, none, none, none] _
  refine .seq (.set (d := .str x) ?_) (.seq (.set (d := .str y) ?_) (.seq (.set (d := .str u) ?_) (.seq (.set (d := .str v) ?_) ?_)))
  · simp -implicitDefEqProofs only [eFn_def, eCons_def, eNil_def, eV_def, eC_def, eOp2_def, List.getElem?_cons_zero, List.getElem?_cons_succ, List.set_cons_zero, List.set_cons_succ, ok_bind, lift_some, w40]
  · simp -implicitDefEqProofs only [eFn_def, eCons_def, eNil_def, eV_def, eC_def, eOp2_def, List.getElem?_cons_zero, List.getElem?_cons_succ, List.set_cons_zero, List.set_cons_succ, ok_bind, lift_some, w4l, opSub_int, w43]
  · simp -implicitDefEqProofs only [eFn_def, eCons_def, eNil_def, eV_def, eC_def, eOp2_def, List.getElem?_cons_zero, List.getElem?_cons_succ, List.set_cons_zero, List.set_cons_succ, ok_bind, lift_some, w41]
  · simp -implicitDefEqProofs only [eFn_def, eCons_def, eNil_def, eV_def, eC_def, eOp2_def, List.getElem?_cons_zero, List.getElem?_cons_succ, List.set_cons_zero, List.set_cons_succ, ok_bind, lift_some, w42]
  refine .seq (.no (tnoG (a := [114, 105, 103, 104, 116]) (b := [98, 101, 104, 105, 110, 100]) rfl (by decide)) .nil) (.seq (.no (tnoG (a := [114, 105, 103, 104, 116]) (b := [97, 104, 101, 97, 100]) rfl (by decide)) .nil) (.seq (.no (tnoG (a := [114, 105, 103, 104, 116]) (b := [98, 101, 116, 119, 101, 101, 110]) rfl (by decide)) .nil) (.seq (.no (tnoG (a := [114, 105, 103, 104, 116]) (b := [116, 119, 105, 99, 101]) rfl (by decide)) .nil) (.seq (.no (tnoG (a := [114, 105, 103, 104, 116]) (b := [111, 114, 100, 101, 114]) rfl (by decide)) .nil) (.fst (.yes (tyesG (a := [114, 105, 103, 104, 116]) rfl (by decide)) (.ret ?_)))))))
  simp -implicitDefEqProofs (disch := ((try simp only [List.length_append]); omega)) only [eFn_def, eCons_def, eNil_def, eV_def, eC_def, eOp2_def, List.getElem?_cons_zero, List.getElem?_cons_succ, List.set_cons_zero, List.set_cons_succ, ok_bind, lift_some, hU1, hcat, hQ1, cat, fTup_def, List.length_cons, List.length_nil]
  rw [if_pos (by omega)]
  rfl
theorem patt_right (m : D) {x u v y : List Nat} (hx : x.length ≤ 12) (hu : u.length ≤ 12) (hv : v.length ≤ 12) (hy : y.length ≤ 12) {k c : Nat} (hk : c = k + 1) (hc : c ≤ 4) : Mpair_of_pattern [m, ni k, .tup [.str [114, 105, 103, 104, 116], W4 x u v y]] = .ok (.tup [.str (x ++ pw (u ++ v) c ++ y), .str (x ++ pw (u ++ v) c ++ u ++ y)]) := by
  have := made_right hx hu hv  hy hc
  have e0 : opIx true (.tup [.str [114, 105, 103, 104, 116], W4 x u v y]) (.int 0) = some (.str [114, 105, 103, 104, 116]) := ixt _ 0 rfl
  have e1 : opIx true (.tup [.str [114, 105, 103, 104, 116], W4 x u v y]) (.int 1) = some (W4 x u v y) := ixt _ 1 rfl
  have e2 : (k : Int) + 1 = ((c : Nat) : Int) := by omega
  unfold Mpair_of_pattern Bpair_of_pattern
  refine ret_of ?_
  show Ret _ [oD m, oD (ni k), oD (.tup [.str [114, 105, 103, 104, 116], W4 x u v y])] _
  refine .ret ?_
  simp -implicitDefEqProofs only [eFn_def, eCons_def, eNil_def, eV_def, eC_def, eOp2_def, List.getElem?_cons_zero, List.getElem?_cons_succ, List.set_cons_zero, List.set_cons_succ, ok_bind, lift_some, eCall_def, e0, e1, opAdd_int, e2, this, noX_ok]
theorem pair_right {x u v y : List Nat} (hx : x.length ≤ 12) (hu : u.length ≤ 12) (hv : v.length ≤ 12) (hy : y.length ≤ 12) {c : Nat} (hc : c ≤ 4) : MLpair [.tup [.str [114, 105, 103, 104, 116], W4 x u v y], ni c] = .ok (.tup [.str (x ++ pw (u ++ v) c ++ y), .str (x ++ pw (u ++ v) c ++ u ++ y)]) := by
  have hU := mul_pw (u := u) (c := c) (by omega) (by omega)
  have hQ := mul_pw (u := u ++ v) (c := c) (by simp; omega) (by omega)
  have hcat : opAdd true true (.str u) (.str v) = some (.str (u ++ v)) := cat (by omega)
  obtain ⟨hU1, hU2⟩ := hU
  obtain ⟨hQ1, hQ2⟩ := hQ
  have e0 : opIx true (.tup [.str [114, 105, 103, 104, 116], W4 x u v y]) (.int 0) = some (.str [114, 105, 103, 104, 116]) := ixt _ 0 rfl
  have e1 : opIx true (.tup [.str [114, 105, 103, 104, 116], W4 x u v y]) (.int 1) = some (W4 x u v y) := ixt _ 1 rfl
  unfold MLpair BLpair
  refine ret_of ?_
  show Ret _ [oD (.tup [.str [114, 105, 103, 104, 116], W4 x u v y]), oD (ni c), none, none, none, none, none, none, none] _
  refine .seq (.set (d := .str [114, 105, 103, 104, 116]) ?_) (.seq (.set (d := W4 x u v y) ?_) (.seq (.set (d := .str x) ?_) (.seq (.set (d := .str u) ?_) (.seq (.set (d := .str v) ?_) (.seq (.set (d := .str y) ?_) ?_)))))
  · simp -implicitDefEqProofs only [eFn_def, eCons_def, eNil_def, eV_def, eC_def, eOp2_def, List.getElem?_cons_zero, List.getElem?_cons_succ, List.set_cons_zero, List.set_cons_succ, ok_bind, lift_some, e0]
  · simp -implicitDefEqProofs only [eFn_def, eCons_def, eNil_def, eV_def, eC_def, eOp2_def, List.getElem?_cons_zero, List.getElem?_cons_succ, List.set_cons_zero, List.set_cons_succ, ok_bind, lift_some, e1]
  · simp -implicitDefEqProofs only [eFn_def, eCons_def, eNil_def, eV_def, eC_def, eOp2_def, List.getElem?_cons_zero, List.getElem?_cons_succ, List.set_cons_zero, List.set_cons_succ, ok_bind, lift_some, w40]
  · simp -implicitDefEqProofs only [eFn_def, eCons_def, eNil_def, eV_def, eC_def, eOp2_def, List.getElem?_cons_zero, List.getElem?_cons_succ, List.set_cons_zero, List.set_cons_succ, ok_bind, lift_some, w41]
  · simp -implicitDefEqProofs only [eFn_def, eCons_def, eNil_def, eV_def, eC_def, eOp2_def, List.getElem?_cons_zero, List.getElem?_cons_succ, List.set_cons_zero, List.set_cons_succ, ok_bind, lift_some, w42]
  · simp -implicitDefEqProofs only [eFn_def, eCons_def, eNil_def, eV_def, eC_def, eOp2_def, List.getElem?_cons_zero, List.getElem?_cons_succ, List.set_cons_zero, List.set_cons_succ, ok_bind, lift_some, w4l, opSub_int, w43]
  refine .seq (.no (tnoG (a := [114, 105, 103, 104, 116]) (b := [98, 101, 104, 105, 110, 100]) rfl (by decide)) .nil) (.seq (.no (tnoG (a := [114, 105, 103, 104, 116]) (b := [97, 104, 101, 97, 100]) rfl (by decide)) .nil) (.seq (.no (tnoG (a := [114, 105, 103, 104, 116]) (b := [98, 101, 116, 119, 101, 101, 110]) rfl (by decide)) .nil) (.seq (.no (tnoG (a := [114, 105, 103, 104, 116]) (b := [116, 119, 105, 99, 101]) rfl (by decide)) .nil) (.seq (.no (tnoG (a := [114, 105, 103, 104, 116]) (b := [111, 114, 100, 101, 114]) rfl (by decide)) .nil) (.fst (.yes (tyesG (a := [114, 105, 103, 104, 116]) rfl (by decide)) (.ret ?_)))))))
  simp -implicitDefEqProofs (disch := ((try simp only [List.length_append]); omega)) only [eFn_def, eCons_def, eNil_def, eV_def, eC_def, eOp2_def, List.getElem?_cons_zero, List.getElem?_cons_succ, List.set_cons_zero, List.set_cons_succ, ok_bind, lift_some, hU1, hcat, hQ1, cat, fTup_def, List.length_cons, List.length_nil]
  rw [if_pos (by omega)]
  rfl
theorem made_left {x u v y : List Nat} (hx : x.length ≤ 12) (hu : u.length ≤ 12) (hv : v.length ≤ 12) (hy : y.length ≤ 12) {c : Nat} (hc : c ≤ 4) : Mmade_words [.str [108, 101, 102, 116], W4 x u v y, ni c] = .ok (.tup [.str (x ++ pw (u ++ v) c ++ y), .str (x ++ v ++ pw (u ++ v) c ++ y)]) := by
  have hU := mul_pw (u := u) (c := c) (by omega) (by omega)
  have hQ := mul_pw (u := u ++ v) (c := c) (by simp; omega) (by omega)
  have hcat : opAdd true true (.str u) (.str v) = some (.str (u ++ v)) := cat (by omega)
  obtain ⟨hU1, hU2⟩ := hU
  obtain ⟨hQ1, hQ2⟩ := hQ
  unfold Mmade_words Bmade_words
  refine ret_of ?_
  show Ret _ [oD (.str [108, 101, 102, 116]), oD (W4 x u v y), oD (ni c), none, none, none, none] _
  refine .seq (.set (d := .str x) ?_) (.seq (.set (d := .str y) ?_) (.seq (.set (d := .str u) ?_) (.seq (.set (d := .str v) ?_) ?_)))
  · simp -implicitDefEqProofs only [eFn_def, eCons_def, eNil_def, eV_def, eC_def, eOp2_def, List.getElem?_cons_zero, List.getElem?_cons_succ, List.set_cons_zero, List.set_cons_succ, ok_bind, lift_some, w40]
  · simp -implicitDefEqProofs only [eFn_def, eCons_def, eNil_def, eV_def, eC_def, eOp2_def, List.getElem?_cons_zero, List.getElem?_cons_succ, List.set_cons_zero, List.set_cons_succ, ok_bind, lift_some, w4l, opSub_int, w43]
  · simp -implicitDefEqProofs only [eFn_def, eCons_def, eNil_def, eV_def, eC_def, eOp2_def, List.getElem?_cons_zero, List.getElem?_cons_succ, List.set_cons_zero, List.set_cons_succ, ok_bind, lift_some, w41]
  · simp -implicitDefEqProofs only [eFn_def, eCons_def, eNil_def, eV_def, eC_def, eOp2_def, List.getElem?_cons_zero, List.getElem?_cons_succ, List.set_cons_zero, List.set_cons_succ, ok_bind, lift_some, w42]
  refine .seq (.no (tnoG (a := [108, 101, 102, 116]) (b := [98, 101, 104, 105, 110, 100]) rfl (by decide)) .nil) (.seq (.no (tnoG (a := [108, 101, 102, 116]) (b := [97, 104, 101, 97, 100]) rfl (by decide)) .nil) (.seq (.no (tnoG (a := [108, 101, 102, 116]) (b := [98, 101, 116, 119, 101, 101, 110]) rfl (by decide)) .nil) (.seq (.no (tnoG (a := [108, 101, 102, 116]) (b := [116, 119, 105, 99, 101]) rfl (by decide)) .nil) (.seq (.no (tnoG (a := [108, 101, 102, 116]) (b := [111, 114, 100, 101, 114]) rfl (by decide)) .nil) (.seq (.no (tnoG (a := [108, 101, 102, 116]) (b := [114, 105, 103, 104, 116]) rfl (by decide)) .nil) (.fst (.yes (tyesG (a := [108, 101, 102, 116]) rfl (by decide)) (.ret ?_))))))))
  simp -implicitDefEqProofs (disch := ((try simp only [List.length_append]); omega)) only [eFn_def, eCons_def, eNil_def, eV_def, eC_def, eOp2_def, List.getElem?_cons_zero, List.getElem?_cons_succ, List.set_cons_zero, List.set_cons_succ, ok_bind, lift_some, hU1, hcat, hQ1, cat, fTup_def, List.length_cons, List.length_nil]
  rw [if_pos (by omega)]
  rfl
theorem patt_left (m : D) {x u v y : List Nat} (hx : x.length ≤ 12) (hu : u.length ≤ 12) (hv : v.length ≤ 12) (hy : y.length ≤ 12) {k c : Nat} (hk : c = k + 1) (hc : c ≤ 4) : Mpair_of_pattern [m, ni k, .tup [.str [108, 101, 102, 116], W4 x u v y]] = .ok (.tup [.str (x ++ pw (u ++ v) c ++ y), .str (x ++ v ++ pw (u ++ v) c ++ y)]) := by
  have := made_left hx hu hv  hy hc
  have e0 : opIx true (.tup [.str [108, 101, 102, 116], W4 x u v y]) (.int 0) = some (.str [108, 101, 102, 116]) := ixt _ 0 rfl
  have e1 : opIx true (.tup [.str [108, 101, 102, 116], W4 x u v y]) (.int 1) = some (W4 x u v y) := ixt _ 1 rfl
  have e2 : (k : Int) + 1 = ((c : Nat) : Int) := by omega
  unfold Mpair_of_pattern Bpair_of_pattern
  refine ret_of ?_
  show Ret _ [oD m, oD (ni k), oD (.tup [.str [108, 101, 102, 116], W4 x u v y])] _
  refine .ret ?_
  simp -implicitDefEqProofs only [eFn_def, eCons_def, eNil_def, eV_def, eC_def, eOp2_def, List.getElem?_cons_zero, List.getElem?_cons_succ, List.set_cons_zero, List.set_cons_succ, ok_bind, lift_some, eCall_def, e0, e1, opAdd_int, e2, this, noX_ok]
theorem pair_left {x u v y : List Nat} (hx : x.length ≤ 12) (hu : u.length ≤ 12) (hv : v.length ≤ 12) (hy : y.length ≤ 12) {c : Nat} (hc : c ≤ 4) : MLpair [.tup [.str [108, 101, 102, 116], W4 x u v y], ni c] = .ok (.tup [.str (x ++ pw (u ++ v) c ++ y), .str (x ++ v ++ pw (u ++ v) c ++ y)]) := by
  have hU := mul_pw (u := u) (c := c) (by omega) (by omega)
  have hQ := mul_pw (u := u ++ v) (c := c) (by simp; omega) (by omega)
  have hcat : opAdd true true (.str u) (.str v) = some (.str (u ++ v)) := cat (by omega)
  obtain ⟨hU1, hU2⟩ := hU
  obtain ⟨hQ1, hQ2⟩ := hQ
  have e0 : opIx true (.tup [.str [108, 101, 102, 116], W4 x u v y]) (.int 0) = some (.str [108, 101, 102, 116]) := ixt _ 0 rfl
  have e1 : opIx true (.tup [.str [108, 101, 102, 116], W4 x u v y]) (.int 1) = some (W4 x u v y) := ixt _ 1 rfl
  unfold MLpair BLpair
  refine ret_of ?_
  show Ret _ [oD (.tup [.str [108, 101, 102, 116], W4 x u v y]), oD (ni c), none, none, none, none, none, none, none] _
  refine .seq (.set (d := .str [108, 101, 102, 116]) ?_) (.seq (.set (d := W4 x u v y) ?_) (.seq (.set (d := .str x) ?_) (.seq (.set (d := .str u) ?_) (.seq (.set (d := .str v) ?_) (.seq (.set (d := .str y) ?_) ?_)))))
  · simp -implicitDefEqProofs only [eFn_def, eCons_def, eNil_def, eV_def, eC_def, eOp2_def, List.getElem?_cons_zero, List.getElem?_cons_succ, List.set_cons_zero, List.set_cons_succ, ok_bind, lift_some, e0]
  · simp -implicitDefEqProofs only [eFn_def, eCons_def, eNil_def, eV_def, eC_def, eOp2_def, List.getElem?_cons_zero, List.getElem?_cons_succ, List.set_cons_zero, List.set_cons_succ, ok_bind, lift_some, e1]
  · simp -implicitDefEqProofs only [eFn_def, eCons_def, eNil_def, eV_def, eC_def, eOp2_def, List.getElem?_cons_zero, List.getElem?_cons_succ, List.set_cons_zero, List.set_cons_succ, ok_bind, lift_some, w40]
  · simp -implicitDefEqProofs only [eFn_def, eCons_def, eNil_def, eV_def, eC_def, eOp2_def, List.getElem?_cons_zero, List.getElem?_cons_succ, List.set_cons_zero, List.set_cons_succ, ok_bind, lift_some, w41]
  · simp -implicitDefEqProofs only [eFn_def, eCons_def, eNil_def, eV_def, eC_def, eOp2_def, List.getElem?_cons_zero, List.getElem?_cons_succ, List.set_cons_zero, List.set_cons_succ, ok_bind, lift_some, w42]
  · simp -implicitDefEqProofs only [eFn_def, eCons_def, eNil_def, eV_def, eC_def, eOp2_def, List.getElem?_cons_zero, List.getElem?_cons_succ, List.set_cons_zero, List.set_cons_succ, ok_bind, lift_some, w4l, opSub_int, w43]
  refine .seq (.no (tnoG (a := [108, 101, 102, 116]) (b := [98, 101, 104, 105, 110, 100]) rfl (by decide)) .nil) (.seq (.no (tnoG (a := [108, 101, 102, 116]) (b := [97, 104, 101, 97, 100]) rfl (by decide)) .nil) (.seq (.no (tnoG (a := [108, 101, 102, 116]) (b := [98, 101, 116, 119, 101, 101, 110]) rfl (by decide)) .nil) (.seq (.no (tnoG (a := [108, 101, 102, 116]) (b := [116, 119, 105, 99, 101]) rfl (by decide)) .nil) (.seq (.no (tnoG (a := [108, 101, 102, 116]) (b := [111, 114, 100, 101, 114]) rfl (by decide)) .nil) (.seq (.no (tnoG (a := [108, 101, 102, 116]) (b := [114, 105, 103, 104, 116]) rfl (by decide)) .nil) (.fst (.yes (tyesG (a := [108, 101, 102, 116]) rfl (by decide)) (.ret ?_))))))))
  simp -implicitDefEqProofs (disch := ((try simp only [List.length_append]); omega)) only [eFn_def, eCons_def, eNil_def, eV_def, eC_def, eOp2_def, List.getElem?_cons_zero, List.getElem?_cons_succ, List.set_cons_zero, List.set_cons_succ, ok_bind, lift_some, hU1, hcat, hQ1, cat, fTup_def, List.length_cons, List.length_nil]
  rw [if_pos (by omega)]
  rfl
theorem made_swap {x u v y : List Nat} (hx : x.length ≤ 12) (hu : u.length ≤ 12) (hv : v.length ≤ 12) (hy : y.length ≤ 12) {c : Nat} (hc : c ≤ 4) : Mmade_words [.str [115, 119, 97, 112], W4 x u v y, ni c] = .ok (.tup [.str (x ++ u ++ v ++ y), .str (x ++ v ++ u ++ y)]) := by
  have hU := mul_pw (u := u) (c := c) (by omega) (by omega)
  have hQ := mul_pw (u := u ++ v) (c := c) (by simp; omega) (by omega)
  have hcat : opAdd true true (.str u) (.str v) = some (.str (u ++ v)) := cat (by omega)
  obtain ⟨hU1, hU2⟩ := hU
  obtain ⟨hQ1, hQ2⟩ := hQ
  unfold Mmade_words Bmade_words
  refine ret_of ?_
  show Ret _ [oD (.str [115, 119, 97, 112]), oD (W4 x u v y), oD (ni c), none, none, none, none] _
  refine .seq (.set (d := .str x) ?_) (.seq (.set (d := .str y) ?_) (.seq (.set (d := .str u) ?_) (.seq (.set (d := .str v) ?_) ?_)))
  · simp -implicitDefEqProofs only [eFn_def, eCons_def, eNil_def, eV_def, eC_def, eOp2_def, List.getElem?_cons_zero, List.getElem?_cons_succ, List.set_cons_zero, List.set_cons_succ, ok_bind, lift_some, w40]
  · simp -implicitDefEqProofs only [eFn_def, eCons_def, eNil_def, eV_def, eC_def, eOp2_def, List.getElem?_cons_zero, List.getElem?_cons_succ, List.set_cons_zero, List.set_cons_succ, ok_bind, lift_some, w4l, opSub_int, w43]
  · simp -implicitDefEqProofs only [eFn_def, eCons_def, eNil_def, eV_def, eC_def, eOp2_def, List.getElem?_cons_zero, List.getElem?_cons_succ, List.set_cons_zero, List.set_cons_succ, ok_bind, lift_some, w41]
  · simp -implicitDefEqProofs only [eFn_def, eCons_def, eNil_def, eV_def, eC_def, eOp2_def, List.getElem?_cons_zero, List.getElem?_cons_succ, List.set_cons_zero, List.set_cons_succ, ok_bind, lift_some, w42]
  refine .seq (.no (tnoG (a := [115, 119, 97, 112]) (b := [98, 101, 104, 105, 110, 100]) rfl (by decide)) .nil) (.seq (.no (tnoG (a := [115, 119, 97, 112]) (b := [97, 104, 101, 97, 100]) rfl (by decide)) .nil) (.seq (.no (tnoG (a := [115, 119, 97, 112]) (b := [98, 101, 116, 119, 101, 101, 110]) rfl (by decide)) .nil) (.seq (.no (tnoG (a := [115, 119, 97, 112]) (b := [116, 119, 105, 99, 101]) rfl (by decide)) .nil) (.seq (.no (tnoG (a := [115, 119, 97, 112]) (b := [111, 114, 100, 101, 114]) rfl (by decide)) .nil) (.seq (.no (tnoG (a := [115, 119, 97, 112]) (b := [114, 105, 103, 104, 116]) rfl (by decide)) .nil) (.seq (.no (tnoG (a := [115, 119, 97, 112]) (b := [108, 101, 102, 116]) rfl (by decide)) .nil) (.fst (.yes (tyesG (a := [115, 119, 97, 112]) rfl (by decide)) (.ret ?_)))))))))
  simp -implicitDefEqProofs (disch := ((try simp only [List.length_append]); omega)) only [eFn_def, eCons_def, eNil_def, eV_def, eC_def, eOp2_def, List.getElem?_cons_zero, List.getElem?_cons_succ, List.set_cons_zero, List.set_cons_succ, ok_bind, lift_some, hU1, hcat, hQ1, cat, fTup_def, List.length_cons, List.length_nil]
  rw [if_pos (by omega)]
  rfl
theorem patt_swap (m : D) {x u v y : List Nat} (hx : x.length ≤ 12) (hu : u.length ≤ 12) (hv : v.length ≤ 12) (hy : y.length ≤ 12) {k c : Nat} (hk : c = k + 1) (hc : c ≤ 4) : Mpair_of_pattern [m, ni k, .tup [.str [115, 119, 97, 112], W4 x u v y]] = .ok (.tup [.str (x ++ u ++ v ++ y), .str (x ++ v ++ u ++ y)]) := by
  have := made_swap hx hu hv  hy hc
  have e0 : opIx true (.tup [.str [115, 119, 97, 112], W4 x u v y]) (.int 0) = some (.str [115, 119, 97, 112]) := ixt _ 0 rfl
  have e1 : opIx true (.tup [.str [115, 119, 97, 112], W4 x u v y]) (.int 1) = some (W4 x u v y) := ixt _ 1 rfl
  have e2 : (k : Int) + 1 = ((c : Nat) : Int) := by omega
  unfold Mpair_of_pattern Bpair_of_pattern
  refine ret_of ?_
  show Ret _ [oD m, oD (ni k), oD (.tup [.str [115, 119, 97, 112], W4 x u v y])] _
  refine .ret ?_
  simp -implicitDefEqProofs only [eFn_def, eCons_def, eNil_def, eV_def, eC_def, eOp2_def, List.getElem?_cons_zero, List.getElem?_cons_succ, List.set_cons_zero, List.set_cons_succ, ok_bind, lift_some, eCall_def, e0, e1, opAdd_int, e2, this, noX_ok]
theorem pair_swap {x u v y : List Nat} (hx : x.length ≤ 12) (hu : u.length ≤ 12) (hv : v.length ≤ 12) (hy : y.length ≤ 12) {c : Nat} (hc : c ≤ 4) : MLpair [.tup [.str [115, 119, 97, 112], W4 x u v y], ni c] = .ok (.tup [.str (x ++ u ++ v ++ y), .str (x ++ v ++ u ++ y)]) := by
  have hU := mul_pw (u := u) (c := c) (by omega) (by omega)
  have hQ := mul_pw (u := u ++ v) (c := c) (by simp; omega) (by omega)
  have hcat : opAdd true true (.str u) (.str v) = some (.str (u ++ v)) := cat (by omega)
  obtain ⟨hU1, hU2⟩ := hU
  obtain ⟨hQ1, hQ2⟩ := hQ
  have e0 : opIx true (.tup [.str [115, 119, 97, 112], W4 x u v y]) (.int 0) = some (.str [115, 119, 97, 112]) := ixt _ 0 rfl
  have e1 : opIx true (.tup [.str [115, 119, 97, 112], W4 x u v y]) (.int 1) = some (W4 x u v y) := ixt _ 1 rfl
  unfold MLpair BLpair
  refine ret_of ?_
  show Ret _ [oD (.tup [.str [115, 119, 97, 112], W4 x u v y]), oD (ni c), none, none, none, none, none, none, none] _
  refine .seq (.set (d := .str [115, 119, 97, 112]) ?_) (.seq (.set (d := W4 x u v y) ?_) (.seq (.set (d := .str x) ?_) (.seq (.set (d := .str u) ?_) (.seq (.set (d := .str v) ?_) (.seq (.set (d := .str y) ?_) ?_)))))
  · simp -implicitDefEqProofs only [eFn_def, eCons_def, eNil_def, eV_def, eC_def, eOp2_def, List.getElem?_cons_zero, List.getElem?_cons_succ, List.set_cons_zero, List.set_cons_succ, ok_bind, lift_some, e0]
  · simp -implicitDefEqProofs only [eFn_def, eCons_def, eNil_def, eV_def, eC_def, eOp2_def, List.getElem?_cons_zero, List.getElem?_cons_succ, List.set_cons_zero, List.set_cons_succ, ok_bind, lift_some, e1]
  · simp -implicitDefEqProofs only [eFn_def, eCons_def, eNil_def, eV_def, eC_def, eOp2_def, List.getElem?_cons_zero, List.getElem?_cons_succ, List.set_cons_zero, List.set_cons_succ, ok_bind, lift_some, w40]
  · simp -implicitDefEqProofs only [eFn_def, eCons_def, eNil_def, eV_def, eC_def, eOp2_def, List.getElem?_cons_zero, List.getElem?_cons_succ, List.set_cons_zero, List.set_cons_succ, ok_bind, lift_some, w41]
  · simp -implicitDefEqProofs only [eFn_def, eCons_def, eNil_def, eV_def, eC_def, eOp2_def, List.getElem?_cons_zero, List.getElem?_cons_succ, List.set_cons_zero, List.set_cons_succ, ok_bind, lift_some, w42]
  · simp -implicitDefEqProofs only [eFn_def, eCons_def, eNil_def, eV_def, eC_def, eOp2_def, List.getElem?_cons_zero, List.getElem?_cons_succ, List.set_cons_zero, List.set_cons_succ, ok_bind, lift_some, w4l, opSub_int, w43]
  refine .seq (.no (tnoG (a := [115, 119, 97, 112]) (b := [98, 101, 104, 105, 110, 100]) rfl (by decide)) .nil) (.seq (.no (tnoG (a := [115, 119, 97, 112]) (b := [97, 104, 101, 97, 100]) rfl (by decide)) .nil) (.seq (.no (tnoG (a := [115, 119, 97, 112]) (b := [98, 101, 116, 119, 101, 101, 110]) rfl (by decide)) .nil) (.seq (.no (tnoG (a := [115, 119, 97, 112]) (b := [116, 119, 105, 99, 101]) rfl (by decide)) .nil) (.seq (.no (tnoG (a := [115, 119, 97, 112]) (b := [111, 114, 100, 101, 114]) rfl (by decide)) .nil) (.seq (.no (tnoG (a := [115, 119, 97, 112]) (b := [114, 105, 103, 104, 116]) rfl (by decide)) .nil) (.seq (.no (tnoG (a := [115, 119, 97, 112]) (b := [108, 101, 102, 116]) rfl (by decide)) .nil) (.fst (.yes (tyesG (a := [115, 119, 97, 112]) rfl (by decide)) (.ret ?_)))))))))
  simp -implicitDefEqProofs (disch := ((try simp only [List.length_append]); omega)) only [eFn_def, eCons_def, eNil_def, eV_def, eC_def, eOp2_def, List.getElem?_cons_zero, List.getElem?_cons_succ, List.set_cons_zero, List.set_cons_succ, ok_bind, lift_some, hU1, hcat, hQ1, cat, fTup_def, List.length_cons, List.length_nil]
  rw [if_pos (by omega)]
  rfl
theorem made_grow {x u v y : List Nat} (hx : x.length ≤ 12) (hu : u.length ≤ 12) (hv : v.length ≤ 12) (hy : y.length ≤ 12) {c : Nat} (hc : c ≤ 4) : Mmade_words [.str [103, 114, 111, 119], W4 x u v y, ni c] = .ok (.tup [.str (x ++ pw u c ++ y), .str (x ++ pw u c ++ v ++ y)]) := by
  have hU := mul_pw (u := u) (c := c) (by omega) (by omega)
  have hQ := mul_pw (u := u ++ v) (c := c) (by simp; omega) (by omega)
  have hcat : opAdd true true (.str u) (.str v) = some (.str (u ++ v)) := cat (by omega)
  obtain ⟨hU1, hU2⟩ := hU
  obtain ⟨hQ1, hQ2⟩ := hQ
  unfold Mmade_words Bmade_words
  refine ret_of ?_
  show Ret _ [oD (.str [103, 114, 111, 119]), oD (W4 x u v y), oD (ni c), none, none, none, none] _
  refine .seq (.set (d := .str x) ?_) (.seq (.set (d := .str y) ?_) (.seq (.set (d := .str u) ?_) (.seq (.set (d := .str v) ?_) ?_)))
  · simp -implicitDefEqProofs only [eFn_def, eCons_def, eNil_def, eV_def, eC_def, eOp2_def, List.getElem?_cons_zero, List.getElem?_cons_succ, List.set_cons_zero, List.set_cons_succ, ok_bind, lift_some, w40]
  · simp -implicitDefEqProofs only [eFn_def, eCons_def, eNil_def, eV_def, eC_def, eOp2_def, List.getElem?_cons_zero, List.getElem?_cons_succ, List.set_cons_zero, List.set_cons_succ, ok_bind, lift_some, w4l, opSub_int, w43]
  · simp -implicitDefEqProofs only [eFn_def, eCons_def, eNil_def, eV_def, eC_def, eOp2_def, List.getElem?_cons_zero, List.getElem?_cons_succ, List.set_cons_zero, List.set_cons_succ, ok_bind, lift_some, w41]
  · simp -implicitDefEqProofs only [eFn_def, eCons_def, eNil_def, eV_def, eC_def, eOp2_def, List.getElem?_cons_zero, List.getElem?_cons_succ, List.set_cons_zero, List.set_cons_succ, ok_bind, lift_some, w42]
  refine .seq (.no (tnoG (a := [103, 114, 111, 119]) (b := [98, 101, 104, 105, 110, 100]) rfl (by decide)) .nil) (.seq (.no (tnoG (a := [103, 114, 111, 119]) (b := [97, 104, 101, 97, 100]) rfl (by decide)) .nil) (.seq (.no (tnoG (a := [103, 114, 111, 119]) (b := [98, 101, 116, 119, 101, 101, 110]) rfl (by decide)) .nil) (.seq (.no (tnoG (a := [103, 114, 111, 119]) (b := [116, 119, 105, 99, 101]) rfl (by decide)) .nil) (.seq (.no (tnoG (a := [103, 114, 111, 119]) (b := [111, 114, 100, 101, 114]) rfl (by decide)) .nil) (.seq (.no (tnoG (a := [103, 114, 111, 119]) (b := [114, 105, 103, 104, 116]) rfl (by decide)) .nil) (.seq (.no (tnoG (a := [103, 114, 111, 119]) (b := [108, 101, 102, 116]) rfl (by decide)) .nil) (.seq (.no (tnoG (a := [103, 114, 111, 119]) (b := [115, 119, 97, 112]) rfl (by decide)) .nil) (.ret ?_))))))))
  simp -implicitDefEqProofs (disch := ((try simp only [List.length_append]); omega)) only [eFn_def, eCons_def, eNil_def, eV_def, eC_def, eOp2_def, List.getElem?_cons_zero, List.getElem?_cons_succ, List.set_cons_zero, List.set_cons_succ, ok_bind, lift_some, hU1, hcat, hQ1, cat, fTup_def, List.length_cons, List.length_nil]
  rw [if_pos (by omega)]
  rfl
theorem patt_grow (m : D) {x u v y : List Nat} (hx : x.length ≤ 12) (hu : u.length ≤ 12) (hv : v.length ≤ 12) (hy : y.length ≤ 12) {k c : Nat} (hk : c = k + 1) (hc : c ≤ 4) : Mpair_of_pattern [m, ni k, .tup [.str [103, 114, 111, 119], W4 x u v y]] = .ok (.tup [.str (x ++ pw u c ++ y), .str (x ++ pw u c ++ v ++ y)]) := by
  have := made_grow hx hu hv  hy hc
  have e0 : opIx true (.tup [.str [103, 114, 111, 119], W4 x u v y]) (.int 0) = some (.str [103, 114, 111, 119]) := ixt _ 0 rfl
  have e1 : opIx true (.tup [.str [103, 114, 111, 119], W4 x u v y]) (.int 1) = some (W4 x u v y) := ixt _ 1 rfl
  have e2 : (k : Int) + 1 = ((c : Nat) : Int) := by omega
  unfold Mpair_of_pattern Bpair_of_pattern
  refine ret_of ?_
  show Ret _ [oD m, oD (ni k), oD (.tup [.str [103, 114, 111, 119], W4 x u v y])] _
  refine .ret ?_
  simp -implicitDefEqProofs only [eFn_def, eCons_def, eNil_def, eV_def, eC_def, eOp2_def, List.getElem?_cons_zero, List.getElem?_cons_succ, List.set_cons_zero, List.set_cons_succ, ok_bind, lift_some, eCall_def, e0, e1, opAdd_int, e2, this, noX_ok]
theorem pair_grow {x u v y : List Nat} (hx : x.length ≤ 12) (hu : u.length ≤ 12) (hv : v.length ≤ 12) (hy : y.length ≤ 12) {c : Nat} (hc : c ≤ 4) : MLpair [.tup [.str [103, 114, 111, 119], W4 x u v y], ni c] = .ok (.tup [.str (x ++ pw u c ++ y), .str (x ++ pw u c ++ v ++ y)]) := by
  have hU := mul_pw (u := u) (c := c) (by omega) (by omega)
  have hQ := mul_pw (u := u ++ v) (c := c) (by simp; omega) (by omega)
  have hcat : opAdd true true (.str u) (.str v) = some (.str (u ++ v)) := cat (by omega)
  obtain ⟨hU1, hU2⟩ := hU
  obtain ⟨hQ1, hQ2⟩ := hQ
  have e0 : opIx true (.tup [.str [103, 114, 111, 119], W4 x u v y]) (.int 0) = some (.str [103, 114, 111, 119]) := ixt _ 0 rfl
  have e1 : opIx true (.tup [.str [103, 114, 111, 119], W4 x u v y]) (.int 1) = some (W4 x u v y) := ixt _ 1 rfl
  unfold MLpair BLpair
  refine ret_of ?_
  show Ret _ [oD (.tup [.str [103, 114, 111, 119], W4 x u v y]), oD (ni c), none, none, none, none, none, none, none] _
  refine .seq (.set (d := .str [103, 114, 111, 119]) ?_) (.seq (.set (d := W4 x u v y) ?_) (.seq (.set (d := .str x) ?_) (.seq (.set (d := .str u) ?_) (.seq (.set (d := .str v) ?_) (.seq (.set (d := .str y) ?_) ?_)))))
  · simp -implicitDefEqProofs only [eFn_def, eCons_def, eNil_def, eV_def, eC_def, eOp2_def, List.getElem?_cons_zero, List.getElem?_cons_succ, List.set_cons_zero, List.set_cons_succ, ok_bind, lift_some, e0]
  · simp -implicitDefEqProofs only [eFn_def, eCons_def, eNil_def, eV_def, eC_def, eOp2_def, List.getElem?_cons_zero, List.getElem?_cons_succ, List.set_cons_zero, List.set_cons_succ, ok_bind, lift_some, e1]
  · simp -implicitDefEqProofs only [eFn_def, eCons_def, eNil_def, eV_def, eC_def, eOp2_def, List.getElem?_cons_zero, List.getElem?_cons_succ, List.set_cons_zero, List.set_cons_succ, ok_bind, lift_some, w40]
  · simp -implicitDefEqProofs only [eFn_def, eCons_def, eNil_def, eV_def, eC_def, eOp2_def, List.getElem?_cons_zero, List.getElem?_cons_succ, List.set_cons_zero, List.set_cons_succ, ok_bind, lift_some, w41]
  · simp -implicitDefEqProofs only [eFn_def, eCons_def, eNil_def, eV_def, eC_def, eOp2_def, List.getElem?_cons_zero, List.getElem?_cons_succ, List.set_cons_zero, List.set_cons_succ, ok_bind, lift_some, w42]
  · simp -implicitDefEqProofs only [eFn_def, eCons_def, eNil_def, eV_def, eC_def, eOp2_def, List.getElem?_cons_zero, List.getElem?_cons_succ, List.set_cons_zero, List.set_cons_succ, ok_bind, lift_some, w4l, opSub_int, w43]
  refine .seq (.no (tnoG (a := [103, 114, 111, 119]) (b := [98, 101, 104, 105, 110, 100]) rfl (by decide)) .nil) (.seq (.no (tnoG (a := [103, 114, 111, 119]) (b := [97, 104, 101, 97, 100]) rfl (by decide)) .nil) (.seq (.no (tnoG (a := [103, 114, 111, 119]) (b := [98, 101, 116, 119, 101, 101, 110]) rfl (by decide)) .nil) (.seq (.no (tnoG (a := [103, 114, 111, 119]) (b := [116, 119, 105, 99, 101]) rfl (by decide)) .nil) (.seq (.no (tnoG (a := [103, 114, 111, 119]) (b := [111, 114, 100, 101, 114]) rfl (by decide)) .nil) (.seq (.no (tnoG (a := [103, 114, 111, 119]) (b := [114, 105, 103, 104, 116]) rfl (by decide)) .nil) (.seq (.no (tnoG (a := [103, 114, 111, 119]) (b := [108, 101, 102, 116]) rfl (by decide)) .nil) (.seq (.no (tnoG (a := [103, 114, 111, 119]) (b := [115, 119, 97, 112]) rfl (by decide)) .nil) (.ret ?_))))))))
  simp -implicitDefEqProofs (disch := ((try simp only [List.length_append]); omega)) only [eFn_def, eCons_def, eNil_def, eV_def, eC_def, eOp2_def, List.getElem?_cons_zero, List.getElem?_cons_succ, List.set_cons_zero, List.set_cons_succ, ok_bind, lift_some, hU1, hcat, hQ1, cat, fTup_def, List.length_cons, List.length_nil]
  rw [if_pos (by omega)]
  rfl
end GW

namespace GW
open PySem PySem.Spec PyProof.Rows L2 VS
/-! the views of a pair are the same -/
theorem okw_app {a b : List Nat} (ha : Okw a) (hb : Okw b) : Okw (a ++ b) := by
  unfold Okw at *; rw [List.all_append, ha, hb]; rfl
theorem okw_pw {a : List Nat} (ha : Okw a) : ∀ c, Okw (pw a c)
  | 0 => rfl
  | c + 1 => by
    unfold pw
    rw [List.replicate_succ, List.flatten_cons]
    exact okw_app ha (okw_pw ha c)
theorem drop_end (X S : List Nat) {k : Nat} (h : k ≤ S.length) : (X ++ S).drop ((X ++ S).length - k) = S.drop (S.length - k) := by
  rw [List.length_append, show X.length + S.length - k = X.length + (S.length - k) by omega, List.drop_length_add_append]
theorem take_beg (S X : List Nat) {k : Nat} (h : k ≤ S.length) : (S ++ X).take k = S.take k := List.take_append_of_le_length h
def VE (man : List Nat) (k lt : Nat) (A B : List Nat) : Prop := ∃ d, MLview [.str man, ni k, ni lt, .str A] = .ok d ∧ MLview [.str man, ni k, ni lt, .str B] = .ok d ∧ D.pln 64 d = true
structure Ps (x u v z y : List Nat) : Prop where
  x : x.length ≤ 3 ∧ Okw x
  u : u.length ≤ 4 ∧ Okw u
  v : v.length ≤ 3 ∧ Okw v
  z : z.length ≤ 3 ∧ Okw z
  y : y.length ≤ 3 ∧ Okw y
section
variable {x u v z y : List Nat} {k lt : Nat}
theorem U_len (h : Ps x u v z y) (hu : u ≠ []) (hk : k < 3) : k + 1 ≤ (pw u (k + 1)).length ∧ (pw u (k + 1)).length ≤ 12 := by
  rw [pw_len]
  have h1 : 1 ≤ u.length := List.length_pos_iff.mpr hu
  have h2 := Nat.mul_le_mul_left (k + 1) h1
  have h3 := Nat.mul_le_mul (show k + 1 ≤ 3 by omega) h.u.1
  omega
theorem ve_last (h : Ps x u v z y) (hu : u ≠ []) (hk : k < 3) : VE [108, 97, 115, 116] k lt (x ++ pw u (k + 1) ++ y) (v ++ pw u (k + 1) ++ y) := by
  have hU := U_len h hu hk
  have oU := okw_pw h.u.2 (k + 1)
  have o1 := okw_app (okw_app h.x.2 oU) h.y.2
  have o2 := okw_app (okw_app h.v.2 oU) h.y.2
  have l1 := h.x.1; have l3 := h.v.1; have l4 := h.y.1
  have e1 := view_last (k := k) (lt := lt) o1 (by simp only [List.length_append]; omega)
  have e2 := view_last (k := k) (lt := lt) o2 (by simp only [List.length_append]; omega)
  rw [List.append_assoc x, drop_end x _ (by simp only [List.length_append]; omega)] at e1
  rw [List.append_assoc v, drop_end v _ (by simp only [List.length_append]; omega)] at e2
  refine ⟨_, by rw [List.append_assoc x]; exact e1, by rw [List.append_assoc v]; exact e2, ?_⟩
  rw [pln_str]
  exact (okw_app oU h.y.2).drop _
theorem ve_first (h : Ps x u v z y) (hu : u ≠ []) (hk : k < 3) : VE [102, 105, 114, 115, 116] k lt (x ++ pw u (k + 1) ++ v) (x ++ pw u (k + 1) ++ y) := by
  have hU := U_len h hu hk
  have oU := okw_pw h.u.2 (k + 1)
  have o1 := okw_app (okw_app h.x.2 oU) h.v.2
  have o2 := okw_app (okw_app h.x.2 oU) h.y.2
  have l1 := h.x.1; have l3 := h.v.1; have l4 := h.y.1
  have e1 := view_first (k := k) (lt := lt) o1 (by simp only [List.length_append]; omega)
  have e2 := view_first (k := k) (lt := lt) o2 (by simp only [List.length_append]; omega)
  rw [take_beg _ _ (by simp only [List.length_append]; omega)] at e1 e2
  refine ⟨_, e1, e2, ?_⟩
  rw [pln_str]
  exact (okw_app h.x.2 oU).take _
theorem ve_ends (h : Ps x u v z y) (hu : u ≠ []) (hk : k < 3) : VE [101, 110, 100, 115] k lt (x ++ pw u (k + 1) ++ v ++ pw u (k + 1) ++ y) (x ++ pw u (k + 1) ++ y) := by
  have hU := U_len h hu hk
  have oU := okw_pw h.u.2 (k + 1)
  have l1 := h.x.1; have l3 := h.v.1; have l4 := h.y.1
  generalize pw u (k + 1) = U at hU oU ⊢
  have o1 := okw_app (okw_app (okw_app (okw_app h.x.2 oU) h.v.2) oU) h.y.2
  have o2 := okw_app (okw_app h.x.2 oU) h.y.2
  have e1 := view_ends (k := k) (lt := lt) o1 (by simp only [List.length_append]; omega) (by simp only [List.length_append]; omega)
  have e2 := view_ends (k := k) (lt := lt) o2 (by simp only [List.length_append]; omega) (by simp only [List.length_append]; omega)
  have t1 : (x ++ U ++ v ++ U ++ y).take k = (x ++ U).take k := by
    rw [show x ++ U ++ v ++ U ++ y = (x ++ U) ++ (v ++ U ++ y) by simp]; exact take_beg _ _ (by simp only [List.length_append]; omega)
  have t2 : (x ++ U ++ y).take k = (x ++ U).take k := take_beg _ _ (by simp only [List.length_append]; omega)
  have d1 : (x ++ U ++ v ++ U ++ y).drop ((x ++ U ++ v ++ U ++ y).length - k) = (U ++ y).drop ((U ++ y).length - k) := by
    rw [show x ++ U ++ v ++ U ++ y = (x ++ U ++ v) ++ (U ++ y) by simp]; exact drop_end _ _ (by simp only [List.length_append]; omega)
  have d2 : (x ++ U ++ y).drop ((x ++ U ++ y).length - k) = (U ++ y).drop ((U ++ y).length - k) := by
    rw [show x ++ U ++ y = x ++ (U ++ y) by simp]; exact drop_end _ _ (by simp only [List.length_append]; omega)
  rw [t1, d1] at e1
  rw [t2, d2] at e2
  refine ⟨_, e1, e2, ?_⟩
  rw [pln_tup]
  have a := (okw_app h.x.2 oU).take k
  have b := (okw_app oU h.y.2).drop ((U ++ y).length - k)
  unfold Okw at a b
  rw [D.plns, D.plns, D.plns, pln_str, pln_str, a, b]
  rfl
/-- the slit view -/
theorem ve_slit {A B : List Nat} (oA : Okw A) (oB : Okw B) (lA : A.length ≤ 60) (lB : B.length ≤ 60) (kA : k ≤ A.length) (kB : k ≤ B.length)
    (hw : ∀ t, 1 ≤ k → (Win k A t ↔ Win k B t)) (ht : 1 ≤ k → A.take (k - 1) = B.take (k - 1)) (hd : 1 ≤ k → A.drop (A.length - (k - 1)) = B.drop (B.length - (k - 1))) : VE [115, 108, 105, 116] k lt A B := by
  by_cases h0 : k = 0
  · exact ⟨_, view_slit0 oA lA h0, view_slit0 oB lB h0, by rw [pln_str]; rfl⟩
  · have h1 : 1 ≤ k := by omega
    have e1 := view_slit (lt := lt) oA lA h1 kA
    have e2 := view_slit (lt := lt) oB lB h1 kB
    rw [sort_same kA kB fun t => hw t h1, ht h1, show A.length - k + 1 = A.length - (k - 1) by omega, hd h1] at e1
    rw [show B.length - k + 1 = B.length - (k - 1) by omega] at e2
    refine ⟨_, e1, e2, ?_⟩
    have a := oB.take (k - 1)
    have b := oB.drop (B.length - (k - 1))
    have c : D.pln 63 (tS (sortS (uq (wins k B)))) = true := by
      have sok : ∀ t ∈ sortS (uq (wins k B)), Okw t := by
        intro t ht
        unfold sortS at ht
        split at ht
        · rename_i e
          have := (e.choose_spec.1).mem_iff.mp ht
          rw [uq_mem] at this
          exact wins_ok oB t this
        · exact absurd ht (by simp)
      unfold tS
      rw [pln_tup, plns_all, List.all_map, List.all_eq_true]
      intro t ht
      simp only [Function.comp_def, pln_str]
      exact sok t ht
    rw [pln_tup]
    unfold Okw at a b
    rw [D.plns, D.plns, D.plns, D.plns, pln_str, pln_str, a, b, c]
    rfl
theorem ve_twice (h : Ps x u v z y) (hu : u ≠ []) (hk : k < 3) : VE [115, 108, 105, 116] k lt (x ++ pw u (k + 1) ++ v ++ pw u (k + 1) ++ y) (x ++ pw u (k + 1) ++ v ++ pw u (k + 1) ++ v ++ pw u (k + 1) ++ y) := by
  have hU := U_len h hu hk
  have oU := okw_pw h.u.2 (k + 1)
  have l1 := h.x.1; have l3 := h.v.1; have l4 := h.y.1
  generalize pw u (k + 1) = U at hU oU ⊢
  have o1 := okw_app (okw_app (okw_app (okw_app h.x.2 oU) h.v.2) oU) h.y.2
  have o2 := okw_app (okw_app (okw_app (okw_app (okw_app (okw_app h.x.2 oU) h.v.2) oU) h.v.2) oU) h.y.2
  refine ve_slit o1 o2 (by simp only [List.length_append]; omega) (by simp only [List.length_append]; omega) (by simp only [List.length_append]; omega) (by simp only [List.length_append]; omega) ?_ ?_ ?_
  · intro t h1
    have cut : ∀ A B, Win k (A ++ U ++ B) t ↔ Win k (A ++ U) t ∨ Win k (U ++ B) t := fun A B => win_cut A U B t (by omega)
    have a1 := cut x (v ++ U ++ y)
    have a2 := cut (U ++ v) y
    have a3 := cut x (v ++ U ++ v ++ U ++ y)
    have a4 := cut (U ++ v) (v ++ U ++ y)
    simp only [List.append_assoc] at a1 a2 a3 a4 ⊢
    rw [a1, a2, a3, a4, a2]
    constructor
    · rintro (h | h | h)
      · exact .inl h
      · exact .inr (.inl h)
      · exact .inr (.inr (.inr h))
    · rintro (h | h | h | h)
      · exact .inl h
      · exact .inr (.inl h)
      · exact .inr (.inl h)
      · exact .inr (.inr h)
  · intro _
    rw [show x ++ U ++ v ++ U ++ y = (x ++ U) ++ (v ++ U ++ y) by simp, show x ++ U ++ v ++ U ++ v ++ U ++ y = (x ++ U) ++ (v ++ U ++ v ++ U ++ y) by simp, take_beg (x ++ U) _ (by simp only [List.length_append]; omega), take_beg (x ++ U) _ (by simp only [List.length_append]; omega)]
  · intro _
    rw [show x ++ U ++ v ++ U ++ y = (x ++ U ++ v) ++ (U ++ y) by simp, show x ++ U ++ v ++ U ++ v ++ U ++ y = (x ++ U ++ v ++ U ++ v) ++ (U ++ y) by simp, drop_end _ (U ++ y) (by simp only [List.length_append]; omega), drop_end _ (U ++ y) (by simp only [List.length_append]; omega)]
theorem ve_order (h : Ps x u v z y) (hu : u ≠ []) (hk : k < 3) : VE [115, 108, 105, 116] k lt (x ++ pw u (k + 1) ++ v ++ pw u (k + 1) ++ z ++ pw u (k + 1) ++ y) (x ++ pw u (k + 1) ++ z ++ pw u (k + 1) ++ v ++ pw u (k + 1) ++ y) := by
  have hU := U_len h hu hk
  have oU := okw_pw h.u.2 (k + 1)
  have l1 := h.x.1; have l3 := h.v.1; have l4 := h.y.1; have l5 := h.z.1
  generalize pw u (k + 1) = U at hU oU ⊢
  have o1 := okw_app (okw_app (okw_app (okw_app (okw_app (okw_app h.x.2 oU) h.v.2) oU) h.z.2) oU) h.y.2
  have o2 := okw_app (okw_app (okw_app (okw_app (okw_app (okw_app h.x.2 oU) h.z.2) oU) h.v.2) oU) h.y.2
  refine ve_slit o1 o2 (by simp only [List.length_append]; omega) (by simp only [List.length_append]; omega) (by simp only [List.length_append]; omega) (by simp only [List.length_append]; omega) ?_ ?_ ?_
  · intro t h1
    have cut : ∀ A B, Win k (A ++ U ++ B) t ↔ Win k (A ++ U) t ∨ Win k (U ++ B) t := fun A B => win_cut A U B t (by omega)
    have a1 := cut x (v ++ U ++ z ++ U ++ y)
    have a2 := cut (U ++ v) (z ++ U ++ y)
    have a3 := cut (U ++ z) y
    have b1 := cut x (z ++ U ++ v ++ U ++ y)
    have b2 := cut (U ++ z) (v ++ U ++ y)
    have b3 := cut (U ++ v) y
    simp only [List.append_assoc] at a1 a2 a3 b1 b2 b3 ⊢
    rw [a1, a2, a3, b1, b2, b3]
    constructor
    · rintro (h | h | h | h)
      · exact .inl h
      · exact .inr (.inr (.inl h))
      · exact .inr (.inl h)
      · exact .inr (.inr (.inr h))
    · rintro (h | h | h | h)
      · exact .inl h
      · exact .inr (.inr (.inl h))
      · exact .inr (.inl h)
      · exact .inr (.inr (.inr h))
  · intro _
    rw [show x ++ U ++ v ++ U ++ z ++ U ++ y = (x ++ U) ++ (v ++ U ++ z ++ U ++ y) by simp, show x ++ U ++ z ++ U ++ v ++ U ++ y = (x ++ U) ++ (z ++ U ++ v ++ U ++ y) by simp, take_beg (x ++ U) _ (by simp only [List.length_append]; omega), take_beg (x ++ U) _ (by simp only [List.length_append]; omega)]
  · intro _
    rw [show x ++ U ++ v ++ U ++ z ++ U ++ y = (x ++ U ++ v ++ U ++ z) ++ (U ++ y) by simp, show x ++ U ++ z ++ U ++ v ++ U ++ y = (x ++ U ++ z ++ U ++ v) ++ (U ++ y) by simp, drop_end _ (U ++ y) (by simp only [List.length_append]; omega), drop_end _ (U ++ y) (by simp only [List.length_append]; omega)]
theorem Q_len (h : Ps x u v z y) (hk : k < 3) : (pw (u ++ v) (k + 1)).length ≤ 21 := by
  rw [pw_len]
  have a := h.u.1; have b := h.v.1
  have h3 := Nat.mul_le_mul (show k + 1 ≤ 3 by omega) (show (u ++ v).length ≤ 7 by simp; omega)
  omega
theorem tS_pln' {l : List (List Nat)} (h : ∀ t ∈ l, Okw t) : D.pln 63 (tS l) = true := by
  unfold tS
  rw [pln_tup, plns_all, List.all_map, List.all_eq_true]
  intro t ht
  simp only [Function.comp_def, pln_str]
  exact h t ht
theorem ve_sc {A B : List Nat} (oA : Okw A) (oB : Okw B) (lA : A.length ≤ 60) (lB : B.length ≤ 60) (hk : k < 3) (h : Alk k A B) : VE [115, 99, 97, 116, 116, 101, 114, 101, 100] k lt A B := by
  have e1 := view_scattered (lt := lt) oA lA (k := k) (by omega)
  have e2 := view_scattered (lt := lt) oB lB (k := k) (by omega)
  rw [subs_alk h] at e1
  exact ⟨_, e1, e2, tS_pln subs_ok⟩
theorem ve_row {A B man : List Nat} {fl : Bool} (hman : opEq (.str man) (.str [102, 97, 108, 108, 105, 110, 103]) = some (.bl fl)) (h1 : Okw man) (hn : ∀ b ∈ ([[108, 97, 115, 116], [102, 105, 114, 115, 116], [99, 111, 117, 110, 116, 115], [101, 110, 100, 115], [115, 108, 105, 116], [115, 99, 97, 116, 116, 101, 114, 101, 100]] : List (List Nat)), Okw b ∧ (man == b) = false)
    (oA : Okw A) (oB : Okw B) (lA : A.length ≤ 60) (lB : B.length ≤ 60) (hk : k < 3) (h : rowv fl k lt A = rowv fl k lt B) : VE man k lt A B := by
  have e1 := view_row (lt := lt) hman (k := k) (by omega) oA lA h1 hn
  have e2 := view_row (lt := lt) hman (k := k) (by omega) oB lB h1 hn
  rw [h] at e1
  refine ⟨_, e1, e2, ?_⟩
  rw [pln_tup, plns_all, List.all_map, List.all_eq_true]
  intro v hv
  refine tS_pln' ?_
  have main : ∀ (l : List (List (List Nat))) (r : List (List (List Nat))), (∀ x ∈ r, ∀ t ∈ x, Okw t) → (∀ x ∈ l, ∀ t ∈ x, Okw t) → ∀ x ∈ l.foldl ddF r, ∀ t ∈ x, Okw t := by
    intro l
    induction l with
    | nil => exact fun r hr _ => hr
    | cons a l ih => exact fun r hr hl => ih _ (ddF_ok hr (hl a List.mem_cons_self)) fun x hx => hl x (List.mem_cons_of_mem _ hx)
  refine main _ [] (by simp) ?_ v hv
  intro x hx
  obtain ⟨w, _, rfl⟩ := List.mem_map.mp hx
  exact subs_ok
theorem alk_right (k : Nat) : Alk k (x ++ pw (u ++ v) (k + 1) ++ y) (x ++ pw (u ++ v) (k + 1) ++ u ++ y) := fun t ht => ((alk_mid (k := k) (c := k + 1) (by omega) x y (u ++ v) u fun a ha => List.mem_append_left _ ha).1 t ht).symm
theorem alk_left (k : Nat) : Alk k (x ++ pw (u ++ v) (k + 1) ++ y) (x ++ v ++ pw (u ++ v) (k + 1) ++ y) := fun t ht => ((alk_mid (k := k) (c := k + 1) (by omega) x y (u ++ v) v fun a ha => List.mem_append_right _ ha).2 t ht).symm
theorem row_right (k lt : Nat) : rowv false k lt (x ++ pw (u ++ v) (k + 1) ++ y) = rowv false k lt (x ++ pw (u ++ v) (k + 1) ++ u ++ y) :=
  (rise (subs k lt) (k := k) (c := k + 1) (by omega) (fun w z h => subs_alk h) x y (u ++ v) u fun a ha => List.mem_append_left _ ha).symm
theorem row_left (k lt : Nat) : rowv true k lt (x ++ pw (u ++ v) (k + 1) ++ y) = rowv true k lt (x ++ v ++ pw (u ++ v) (k + 1) ++ y) :=
  (fall (subs k lt) (k := k) (c := k + 1) (by omega) (fun w z h => subs_alk h) x y (u ++ v) v fun a ha => List.mem_append_right _ ha).symm
theorem ve_counts {A B : List Nat} (oA : Okw A) (oB : Okw B) (lA : A.length ≤ 60) (lB : B.length ≤ 60) (h : ∀ c, min k (A.count c) = min k (B.count c)) : VE [99, 111, 117, 110, 116, 115] k lt A B := by
  have e1 := view_counts (k := k) (lt := lt) oA lA
  have e2 := view_counts (k := k) (lt := lt) oB lB
  simp only [h] at e1
  refine ⟨_, e1, e2, ?_⟩
  rw [pln_tup, plns_all, List.all_map, List.all_eq_true]
  intro c _
  simp
end
end GW

namespace GW
open PySem PySem.Spec PyProof.Rows L2 VS
/-! the kinds, the patterns made, the law -/
theorem lix (xs : List (List Nat)) (k : List Nat) (i : Nat) (h : xs.idxOf k = i) (h2 : i < xs.length) : fLIx (xs.map D.str) [.str k] = some (.int (i : Int)) := by
  unfold fLIx
  rw [asSs_strs]
  show (if xs.idxOf k < xs.length then some (D.int (xs.idxOf k : Nat)) else none) = _
  rw [h, if_pos h2]
theorem kinds_scattered : MLkinds [.str [115, 99, 97, 116, 116, 101, 114, 101, 100]] = .ok (.lst ([[114, 105, 103, 104, 116], [108, 101, 102, 116]].map D.str)) := by
  unfold MLkinds BLkinds
  refine ret_of ?_
  show Ret _ [oD (.str [115, 99, 97, 116, 116, 101, 114, 101, 100])] _
  refine .fst (.yes (tyesG (a := [115, 99, 97, 116, 116, 101, 114, 101, 100]) rfl (by decide)) (.ret ?_))
  simp -implicitDefEqProofs only [eFn_def, eCons_def, eNil_def, eV_def, eC_def, eOp2_def, List.getElem?_cons_zero, List.getElem?_cons_succ, List.set_cons_zero, List.set_cons_succ, ok_bind, lift_some, fLst_def, List.map_cons, List.map_nil, List.length_cons, List.length_nil]
  rw [if_pos (by omega)]
  rfl
theorem kinds_slit : MLkinds [.str [115, 108, 105, 116]] = .ok (.lst ([[116, 119, 105, 99, 101], [111, 114, 100, 101, 114]].map D.str)) := by
  unfold MLkinds BLkinds
  refine ret_of ?_
  show Ret _ [oD (.str [115, 108, 105, 116])] _
  refine .seq (.no (tnoG (a := [115, 108, 105, 116]) (b := [115, 99, 97, 116, 116, 101, 114, 101, 100]) rfl (by decide)) .nil) (.fst (.yes (tyesG (a := [115, 108, 105, 116]) rfl (by decide)) (.ret ?_)))
  simp -implicitDefEqProofs only [eFn_def, eCons_def, eNil_def, eV_def, eC_def, eOp2_def, List.getElem?_cons_zero, List.getElem?_cons_succ, List.set_cons_zero, List.set_cons_succ, ok_bind, lift_some, fLst_def, List.map_cons, List.map_nil, List.length_cons, List.length_nil]
  rw [if_pos (by omega)]
  rfl
theorem kinds_counts : MLkinds [.str [99, 111, 117, 110, 116, 115]] = .ok (.lst ([[115, 119, 97, 112], [103, 114, 111, 119]].map D.str)) := by
  unfold MLkinds BLkinds
  refine ret_of ?_
  show Ret _ [oD (.str [99, 111, 117, 110, 116, 115])] _
  refine .seq (.no (tnoG (a := [99, 111, 117, 110, 116, 115]) (b := [115, 99, 97, 116, 116, 101, 114, 101, 100]) rfl (by decide)) .nil) (.seq (.no (tnoG (a := [99, 111, 117, 110, 116, 115]) (b := [115, 108, 105, 116]) rfl (by decide)) .nil) (.fst (.yes (tyesG (a := [99, 111, 117, 110, 116, 115]) rfl (by decide)) (.ret ?_))))
  simp -implicitDefEqProofs only [eFn_def, eCons_def, eNil_def, eV_def, eC_def, eOp2_def, List.getElem?_cons_zero, List.getElem?_cons_succ, List.set_cons_zero, List.set_cons_succ, ok_bind, lift_some, fLst_def, List.map_cons, List.map_nil, List.length_cons, List.length_nil]
  rw [if_pos (by omega)]
  rfl
theorem kinds_last : MLkinds [.str [108, 97, 115, 116]] = .ok (.lst ([[98, 101, 104, 105, 110, 100]].map D.str)) := by
  unfold MLkinds BLkinds
  refine ret_of ?_
  show Ret _ [oD (.str [108, 97, 115, 116])] _
  have e1 := lix [[108, 97, 115, 116], [102, 105, 114, 115, 116], [101, 110, 100, 115], [114, 105, 115, 105, 110, 103], [102, 97, 108, 108, 105, 110, 103]] [108, 97, 115, 116] 0 (by decide) (by decide)
  have e2 : opIx true (.lst [.str [98, 101, 104, 105, 110, 100], .str [97, 104, 101, 97, 100], .str [98, 101, 116, 119, 101, 101, 110], .str [114, 105, 103, 104, 116], .str [108, 101, 102, 116]]) (.int 0) = some (.str [98, 101, 104, 105, 110, 100]) := ixl _ 0 rfl
  have e1' : fLIx [.str [108, 97, 115, 116], .str [102, 105, 114, 115, 116], .str [101, 110, 100, 115], .str [114, 105, 115, 105, 110, 103], .str [102, 97, 108, 108, 105, 110, 103]] [.str [108, 97, 115, 116]] = some (.int 0) := e1
  refine .seq (.no (tnoG (a := [108, 97, 115, 116]) (b := [115, 99, 97, 116, 116, 101, 114, 101, 100]) rfl (by decide)) .nil) (.seq (.no (tnoG (a := [108, 97, 115, 116]) (b := [115, 108, 105, 116]) rfl (by decide)) .nil) (.seq (.no (tnoG (a := [108, 97, 115, 116]) (b := [99, 111, 117, 110, 116, 115]) rfl (by decide)) .nil) (.ret ?_)))
  have l5 : ∀ a b c d e : D, fLst [a, b, c, d, e] = some (.lst [a, b, c, d, e]) := fun a b c d e => by rw [fLst_def, if_pos (by simp)]
  have l1 : ∀ a : D, fLst [a] = some (.lst [a]) := fun a => by rw [fLst_def, if_pos (by simp)]
  simp -implicitDefEqProofs only [eFn_def, eCons_def, eNil_def, eV_def, eC_def, eOp2_def, List.getElem?_cons_zero, List.getElem?_cons_succ, List.set_cons_zero, List.set_cons_succ, ok_bind, lift_some, eLIx_def, l5, l1, e1', e2, List.map_cons, List.map_nil]
theorem kinds_first : MLkinds [.str [102, 105, 114, 115, 116]] = .ok (.lst ([[97, 104, 101, 97, 100]].map D.str)) := by
  unfold MLkinds BLkinds
  refine ret_of ?_
  show Ret _ [oD (.str [102, 105, 114, 115, 116])] _
  have e1 := lix [[108, 97, 115, 116], [102, 105, 114, 115, 116], [101, 110, 100, 115], [114, 105, 115, 105, 110, 103], [102, 97, 108, 108, 105, 110, 103]] [102, 105, 114, 115, 116] 1 (by decide) (by decide)
  have e2 : opIx true (.lst [.str [98, 101, 104, 105, 110, 100], .str [97, 104, 101, 97, 100], .str [98, 101, 116, 119, 101, 101, 110], .str [114, 105, 103, 104, 116], .str [108, 101, 102, 116]]) (.int 1) = some (.str [97, 104, 101, 97, 100]) := ixl _ 1 rfl
  have e1' : fLIx [.str [108, 97, 115, 116], .str [102, 105, 114, 115, 116], .str [101, 110, 100, 115], .str [114, 105, 115, 105, 110, 103], .str [102, 97, 108, 108, 105, 110, 103]] [.str [102, 105, 114, 115, 116]] = some (.int 1) := e1
  refine .seq (.no (tnoG (a := [102, 105, 114, 115, 116]) (b := [115, 99, 97, 116, 116, 101, 114, 101, 100]) rfl (by decide)) .nil) (.seq (.no (tnoG (a := [102, 105, 114, 115, 116]) (b := [115, 108, 105, 116]) rfl (by decide)) .nil) (.seq (.no (tnoG (a := [102, 105, 114, 115, 116]) (b := [99, 111, 117, 110, 116, 115]) rfl (by decide)) .nil) (.ret ?_)))
  have l5 : ∀ a b c d e : D, fLst [a, b, c, d, e] = some (.lst [a, b, c, d, e]) := fun a b c d e => by rw [fLst_def, if_pos (by simp)]
  have l1 : ∀ a : D, fLst [a] = some (.lst [a]) := fun a => by rw [fLst_def, if_pos (by simp)]
  simp -implicitDefEqProofs only [eFn_def, eCons_def, eNil_def, eV_def, eC_def, eOp2_def, List.getElem?_cons_zero, List.getElem?_cons_succ, List.set_cons_zero, List.set_cons_succ, ok_bind, lift_some, eLIx_def, l5, l1, e1', e2, List.map_cons, List.map_nil]
theorem kinds_ends : MLkinds [.str [101, 110, 100, 115]] = .ok (.lst ([[98, 101, 116, 119, 101, 101, 110]].map D.str)) := by
  unfold MLkinds BLkinds
  refine ret_of ?_
  show Ret _ [oD (.str [101, 110, 100, 115])] _
  have e1 := lix [[108, 97, 115, 116], [102, 105, 114, 115, 116], [101, 110, 100, 115], [114, 105, 115, 105, 110, 103], [102, 97, 108, 108, 105, 110, 103]] [101, 110, 100, 115] 2 (by decide) (by decide)
  have e2 : opIx true (.lst [.str [98, 101, 104, 105, 110, 100], .str [97, 104, 101, 97, 100], .str [98, 101, 116, 119, 101, 101, 110], .str [114, 105, 103, 104, 116], .str [108, 101, 102, 116]]) (.int 2) = some (.str [98, 101, 116, 119, 101, 101, 110]) := ixl _ 2 rfl
  have e1' : fLIx [.str [108, 97, 115, 116], .str [102, 105, 114, 115, 116], .str [101, 110, 100, 115], .str [114, 105, 115, 105, 110, 103], .str [102, 97, 108, 108, 105, 110, 103]] [.str [101, 110, 100, 115]] = some (.int 2) := e1
  refine .seq (.no (tnoG (a := [101, 110, 100, 115]) (b := [115, 99, 97, 116, 116, 101, 114, 101, 100]) rfl (by decide)) .nil) (.seq (.no (tnoG (a := [101, 110, 100, 115]) (b := [115, 108, 105, 116]) rfl (by decide)) .nil) (.seq (.no (tnoG (a := [101, 110, 100, 115]) (b := [99, 111, 117, 110, 116, 115]) rfl (by decide)) .nil) (.ret ?_)))
  have l5 : ∀ a b c d e : D, fLst [a, b, c, d, e] = some (.lst [a, b, c, d, e]) := fun a b c d e => by rw [fLst_def, if_pos (by simp)]
  have l1 : ∀ a : D, fLst [a] = some (.lst [a]) := fun a => by rw [fLst_def, if_pos (by simp)]
  simp -implicitDefEqProofs only [eFn_def, eCons_def, eNil_def, eV_def, eC_def, eOp2_def, List.getElem?_cons_zero, List.getElem?_cons_succ, List.set_cons_zero, List.set_cons_succ, ok_bind, lift_some, eLIx_def, l5, l1, e1', e2, List.map_cons, List.map_nil]
theorem kinds_rising : MLkinds [.str [114, 105, 115, 105, 110, 103]] = .ok (.lst ([[114, 105, 103, 104, 116]].map D.str)) := by
  unfold MLkinds BLkinds
  refine ret_of ?_
  show Ret _ [oD (.str [114, 105, 115, 105, 110, 103])] _
  have e1 := lix [[108, 97, 115, 116], [102, 105, 114, 115, 116], [101, 110, 100, 115], [114, 105, 115, 105, 110, 103], [102, 97, 108, 108, 105, 110, 103]] [114, 105, 115, 105, 110, 103] 3 (by decide) (by decide)
  have e2 : opIx true (.lst [.str [98, 101, 104, 105, 110, 100], .str [97, 104, 101, 97, 100], .str [98, 101, 116, 119, 101, 101, 110], .str [114, 105, 103, 104, 116], .str [108, 101, 102, 116]]) (.int 3) = some (.str [114, 105, 103, 104, 116]) := ixl _ 3 rfl
  have e1' : fLIx [.str [108, 97, 115, 116], .str [102, 105, 114, 115, 116], .str [101, 110, 100, 115], .str [114, 105, 115, 105, 110, 103], .str [102, 97, 108, 108, 105, 110, 103]] [.str [114, 105, 115, 105, 110, 103]] = some (.int 3) := e1
  refine .seq (.no (tnoG (a := [114, 105, 115, 105, 110, 103]) (b := [115, 99, 97, 116, 116, 101, 114, 101, 100]) rfl (by decide)) .nil) (.seq (.no (tnoG (a := [114, 105, 115, 105, 110, 103]) (b := [115, 108, 105, 116]) rfl (by decide)) .nil) (.seq (.no (tnoG (a := [114, 105, 115, 105, 110, 103]) (b := [99, 111, 117, 110, 116, 115]) rfl (by decide)) .nil) (.ret ?_)))
  have l5 : ∀ a b c d e : D, fLst [a, b, c, d, e] = some (.lst [a, b, c, d, e]) := fun a b c d e => by rw [fLst_def, if_pos (by simp)]
  have l1 : ∀ a : D, fLst [a] = some (.lst [a]) := fun a => by rw [fLst_def, if_pos (by simp)]
  simp -implicitDefEqProofs only [eFn_def, eCons_def, eNil_def, eV_def, eC_def, eOp2_def, List.getElem?_cons_zero, List.getElem?_cons_succ, List.set_cons_zero, List.set_cons_succ, ok_bind, lift_some, eLIx_def, l5, l1, e1', e2, List.map_cons, List.map_nil]
theorem kinds_falling : MLkinds [.str [102, 97, 108, 108, 105, 110, 103]] = .ok (.lst ([[108, 101, 102, 116]].map D.str)) := by
  unfold MLkinds BLkinds
  refine ret_of ?_
  show Ret _ [oD (.str [102, 97, 108, 108, 105, 110, 103])] _
  have e1 := lix [[108, 97, 115, 116], [102, 105, 114, 115, 116], [101, 110, 100, 115], [114, 105, 115, 105, 110, 103], [102, 97, 108, 108, 105, 110, 103]] [102, 97, 108, 108, 105, 110, 103] 4 (by decide) (by decide)
  have e2 : opIx true (.lst [.str [98, 101, 104, 105, 110, 100], .str [97, 104, 101, 97, 100], .str [98, 101, 116, 119, 101, 101, 110], .str [114, 105, 103, 104, 116], .str [108, 101, 102, 116]]) (.int 4) = some (.str [108, 101, 102, 116]) := ixl _ 4 rfl
  have e1' : fLIx [.str [108, 97, 115, 116], .str [102, 105, 114, 115, 116], .str [101, 110, 100, 115], .str [114, 105, 115, 105, 110, 103], .str [102, 97, 108, 108, 105, 110, 103]] [.str [102, 97, 108, 108, 105, 110, 103]] = some (.int 4) := e1
  refine .seq (.no (tnoG (a := [102, 97, 108, 108, 105, 110, 103]) (b := [115, 99, 97, 116, 116, 101, 114, 101, 100]) rfl (by decide)) .nil) (.seq (.no (tnoG (a := [102, 97, 108, 108, 105, 110, 103]) (b := [115, 108, 105, 116]) rfl (by decide)) .nil) (.seq (.no (tnoG (a := [102, 97, 108, 108, 105, 110, 103]) (b := [99, 111, 117, 110, 116, 115]) rfl (by decide)) .nil) (.ret ?_)))
  have l5 : ∀ a b c d e : D, fLst [a, b, c, d, e] = some (.lst [a, b, c, d, e]) := fun a b c d e => by rw [fLst_def, if_pos (by simp)]
  have l1 : ∀ a : D, fLst [a] = some (.lst [a]) := fun a => by rw [fLst_def, if_pos (by simp)]
  simp -implicitDefEqProofs only [eFn_def, eCons_def, eNil_def, eV_def, eC_def, eOp2_def, List.getElem?_cons_zero, List.getElem?_cons_succ, List.set_cons_zero, List.set_cons_succ, ok_bind, lift_some, eLIx_def, l5, l1, e1', e2, List.map_cons, List.map_nil]
/-! the pattern made -/
def uu (b : Bool) (u v : List Nat) : List Nat := if (b && u == []) || (u ++ v == []) then [97] else u
theorem uu_ok {b : Bool} {u v : List Nat} (hu : u.length ≤ 3 ∧ Okw u) : ((uu b u v).length ≤ 4 ∧ Okw (uu b u v)) ∧ (b = true → uu b u v ≠ []) := by
  unfold uu
  split
  · exact ⟨⟨by simp, by decide⟩, fun _ => by simp⟩
  · rename_i h
    refine ⟨⟨by omega, hu.2⟩, fun hb e => h ?_⟩
    rw [hb, e]; rfl
abbrev wl (x u v z y : List Nat) : D := .lst [.str x, .str u, .str v, .str z, .str y]
theorem made_head {K x u v z y : List Nat} {b : Bool} (hb : opNotInS (.str K) (.tup [.str [114, 105, 103, 104, 116], .str [108, 101, 102, 116]]) = some (.bl b)) (hu : u.length ≤ 3 ∧ Okw u) (hv : v.length ≤ 3 ∧ Okw v) (g : VS.Env → Rs) (d : D) (r : Ret g [oD (.str K), oD (wl x u v z y), oD (.str (uu b u v))] d) :
    Ret (sSeq (sSet 2 (eOp2 (opIx true) (eV 1) (eC (.int 1))))
    (sSeq (sIf (tOr' (tAnd' (eB (eOp2 (opNotInS) (eV 0) (eFn fTup (eCons (eC (.str [114, 105, 103, 104, 116])) (eCons (eC (.str [108, 101, 102, 116])) eNil))))) (eB (eOp2 (opEq) (eV 2) (eC (.str []))))) (eB (eOp2 (opEq) (eOp2 (opAdd true true) (eV 2) (eOp2 (opIx true) (eV 1) (eC (.int 2)))) (eC (.str [])))))
    (sSet 2 (eC (.str [97])))
    sNil) g)) [oD (.str K), oD (wl x u v z y), none] d := by
  have e1 : opIx true (wl x u v z y) (.int 1) = some (.str u) := ixl _ 1 rfl
  have e2 : opIx true (wl x u v z y) (.int 2) = some (.str v) := ixl _ 2 rfl
  have ec : opAdd true true (.str u) (.str v) = some (.str (u ++ v)) := cat (by omega)
  have q1 := str_eq hu.2 (show Okw [] from rfl)
  have q2 := str_eq (okw_app hu.2 hv.2) (show Okw [] from rfl)
  have tst : tOr' (tAnd' (eB (eOp2 (opNotInS) (eV 0) (eFn fTup (eCons (eC (.str [114, 105, 103, 104, 116])) (eCons (eC (.str [108, 101, 102, 116])) eNil))))) (eB (eOp2 (opEq) (eV 2) (eC (.str []))))) (eB (eOp2 (opEq) (eOp2 (opAdd true true) (eV 2) (eOp2 (opIx true) (eV 1) (eC (.int 2)))) (eC (.str [])))) [oD (.str K), oD (wl x u v z y), oD (.str u)] = .ok ((b && u == []) || (u ++ v == [])) := by
    have l2 : ∀ a b : D, fTup [a, b] = some (.tup [a, b]) := fun a b => by rw [fTup_def, if_pos (by simp)]
    cases b
    · simp -implicitDefEqProofs only [tOr_def, tAnd_def, eB_def, asB_bl, eFn_def, eCons_def, eNil_def, eV_def, eC_def, eOp2_def, List.getElem?_cons_zero, List.getElem?_cons_succ, List.set_cons_zero, List.set_cons_succ, ok_bind, lift_some, l2, hb, q1, e2, ec, q2, Bool.false_and, Bool.false_or, if_false, Bool.false_eq_true]
    · cases hq : (u == [])
      · rw [hq] at q1
        simp -implicitDefEqProofs only [tOr_def, tAnd_def, eB_def, asB_bl, eFn_def, eCons_def, eNil_def, eV_def, eC_def, eOp2_def, List.getElem?_cons_zero, List.getElem?_cons_succ, List.set_cons_zero, List.set_cons_succ, ok_bind, lift_some, l2, hb, q1, e2, ec, q2, Bool.true_and, Bool.false_or, if_true, if_false, Bool.false_eq_true]
      · rw [hq] at q1
        simp -implicitDefEqProofs only [tOr_def, tAnd_def, eB_def, asB_bl, eFn_def, eCons_def, eNil_def, eV_def, eC_def, eOp2_def, List.getElem?_cons_zero, List.getElem?_cons_succ, List.set_cons_zero, List.set_cons_succ, ok_bind, lift_some, l2, hb, q1, e2, ec, q2, Bool.true_and, Bool.true_or, if_true]
  refine .seq (c' := [oD (.str K), oD (wl x u v z y), oD (.str u)]) ?_ (.seq (c' := [oD (.str K), oD (wl x u v z y), oD (.str (uu b u v))]) ?_ r)
  · exact (Nx.set (d := .str u) (by simp -implicitDefEqProofs only [eFn_def, eCons_def, eNil_def, eV_def, eC_def, eOp2_def, List.getElem?_cons_zero, List.getElem?_cons_succ, List.set_cons_zero, List.set_cons_succ, ok_bind, lift_some, e1])).to rfl
  · cases hc : ((b && u == []) || (u ++ v == []))
    · rw [hc] at tst
      have : uu b u v = u := by unfold uu; rw [hc]; rfl
      rw [this]
      exact .no tst .nil
    · rw [hc] at tst
      have : uu b u v = [97] := by unfold uu; rw [hc]; rfl
      rw [this]
      exact .yes tst ((Nx.set (d := .str [97]) (by simp -implicitDefEqProofs)).to rfl)
theorem made_gen {K x u v z y : List Nat} {b : Bool} (hb : opNotInS (.str K) (.tup [.str [114, 105, 103, 104, 116], .str [108, 101, 102, 116]]) = some (.bl b)) (hu : u.length ≤ 3 ∧ Okw u) (hv : v.length ≤ 3 ∧ Okw v)
    (h1 : (Okw K ∧ Okw [111, 114, 100, 101, 114]) ∧ (K == [111, 114, 100, 101, 114]) = false) (h2 : (Okw K ∧ Okw [103, 114, 111, 119]) ∧ (K == [103, 114, 111, 119]) = false) : MLmade [.str K, wl x u v z y] = .ok (.tup [.str K, W4 x (uu b u v) v y]) := by
  have e0 : opIx true (wl x u v z y) (.int 0) = some (.str x) := ixl _ 0 rfl
  have e2 : opIx true (wl x u v z y) (.int 2) = some (.str v) := ixl _ 2 rfl
  have e3 : opIx true (wl x u v z y) (.int 3) = some (.str z) := ixl _ 3 rfl
  have e4 : opIx true (wl x u v z y) (.int 4) = some (.str y) := ixl _ 4 rfl
  have l2 : ∀ a b : D, fTup [a, b] = some (.tup [a, b]) := fun a b => by rw [fTup_def, if_pos (by simp)]
  have l4 : ∀ a b c d : D, fTup [a, b, c, d] = some (.tup [a, b, c, d]) := fun a b c d => by rw [fTup_def, if_pos (by simp)]
  have l5 : ∀ a b c d e : D, fTup [a, b, c, d, e] = some (.tup [a, b, c, d, e]) := fun a b c d e => by rw [fTup_def, if_pos (by simp)]
  unfold MLmade BLmade
  refine ret_of ?_
  show Ret _ [oD (.str K), oD (wl x u v z y), none] _
  refine made_head hb hu hv _ _ (.seq (.no (tnoG rfl h1) .nil) (.seq (.no (tnoG rfl h2) .nil) (.ret ?_)))
  simp -implicitDefEqProofs only [eFn_def, eCons_def, eNil_def, eV_def, eC_def, eOp2_def, List.getElem?_cons_zero, List.getElem?_cons_succ, List.set_cons_zero, List.set_cons_succ, ok_bind, lift_some, e0, e2, e4, l2, l4]
  rfl
theorem made_ord {x u v z y : List Nat} {b : Bool} (hb : opNotInS (.str [111, 114, 100, 101, 114]) (.tup [.str [114, 105, 103, 104, 116], .str [108, 101, 102, 116]]) = some (.bl b)) (hu : u.length ≤ 3 ∧ Okw u) (hv : v.length ≤ 3 ∧ Okw v) : MLmade [.str [111, 114, 100, 101, 114], wl x u v z y] = .ok (.tup [.str [111, 114, 100, 101, 114], W5 x (uu b u v) v z y]) := by
  have e0 : opIx true (wl x u v z y) (.int 0) = some (.str x) := ixl _ 0 rfl
  have e2 : opIx true (wl x u v z y) (.int 2) = some (.str v) := ixl _ 2 rfl
  have e3 : opIx true (wl x u v z y) (.int 3) = some (.str z) := ixl _ 3 rfl
  have e4 : opIx true (wl x u v z y) (.int 4) = some (.str y) := ixl _ 4 rfl
  have l2 : ∀ a b : D, fTup [a, b] = some (.tup [a, b]) := fun a b => by rw [fTup_def, if_pos (by simp)]
  have l4 : ∀ a b c d : D, fTup [a, b, c, d] = some (.tup [a, b, c, d]) := fun a b c d => by rw [fTup_def, if_pos (by simp)]
  have l5 : ∀ a b c d e : D, fTup [a, b, c, d, e] = some (.tup [a, b, c, d, e]) := fun a b c d e => by rw [fTup_def, if_pos (by simp)]
  unfold MLmade BLmade
  refine ret_of ?_
  show Ret _ [oD (.str [111, 114, 100, 101, 114]), oD (wl x u v z y), none] _
  refine made_head hb hu hv _ _ (.fst (.yes (tyesG (a := [111, 114, 100, 101, 114]) rfl (by decide)) (.ret ?_)))
  simp -implicitDefEqProofs only [eFn_def, eCons_def, eNil_def, eV_def, eC_def, eOp2_def, List.getElem?_cons_zero, List.getElem?_cons_succ, List.set_cons_zero, List.set_cons_succ, ok_bind, lift_some, e0, e2, e3, e4, l2, l5]
  rfl
theorem made_gro {x u v z y : List Nat} {b : Bool} (hb : opNotInS (.str [103, 114, 111, 119]) (.tup [.str [114, 105, 103, 104, 116], .str [108, 101, 102, 116]]) = some (.bl b)) (hu : u.length ≤ 3 ∧ Okw u) (hv : v.length ≤ 3 ∧ Okw v) : MLmade [.str [103, 114, 111, 119], wl x u v z y] = .ok (.tup [.str [103, 114, 111, 119], W4 x (pw ((uu b u v).take 1) (1 + v.length)) ((uu b u v).take 1) y]) := by
  have e0 : opIx true (wl x u v z y) (.int 0) = some (.str x) := ixl _ 0 rfl
  have e2 : opIx true (wl x u v z y) (.int 2) = some (.str v) := ixl _ 2 rfl
  have e3 : opIx true (wl x u v z y) (.int 3) = some (.str z) := ixl _ 3 rfl
  have e4 : opIx true (wl x u v z y) (.int 4) = some (.str y) := ixl _ 4 rfl
  have l2 : ∀ a b : D, fTup [a, b] = some (.tup [a, b]) := fun a b => by rw [fTup_def, if_pos (by simp)]
  have l4 : ∀ a b c d : D, fTup [a, b, c, d] = some (.tup [a, b, c, d]) := fun a b c d => by rw [fTup_def, if_pos (by simp)]
  have l5 : ∀ a b c d e : D, fTup [a, b, c, d, e] = some (.tup [a, b, c, d, e]) := fun a b c d e => by rw [fTup_def, if_pos (by simp)]
  have hlu := (uu_ok (b := b) (u := u) (v := v) hu).1.1
  have lu : (uu b u v).length ≤ 16777216 := by omega
  have lv : v.length ≤ 16777216 := by omega
  have ct : cutD (uu b u v) none (some 1) = (uu b u v).take 1 := cut_to _ 1
  have hm := (mul_pw (u := (uu b u v).take 1) (c := 1 + v.length) (by rw [List.length_take]; omega) (by omega)).1
  have ec : ((1 + v.length : Nat) : Int) = 1 + (v.length : Int) := by push_cast; rfl
  rw [ni, ec] at hm
  unfold MLmade BLmade
  refine ret_of ?_
  show Ret _ [oD (.str [103, 114, 111, 119]), oD (wl x u v z y), none] _
  refine made_head hb hu hv _ _ (.seq (.no (tnoG (a := [103, 114, 111, 119]) rfl (by decide)) .nil) (.fst (.yes (tyesG (a := [103, 114, 111, 119]) rfl (by decide)) (.ret ?_))))
  simp -implicitDefEqProofs only [eFn_def, eCons_def, eNil_def, eV_def, eC_def, eOp2_def, List.getElem?_cons_zero, List.getElem?_cons_succ, List.set_cons_zero, List.set_cons_succ, ok_bind, lift_some, e0, e2, e4, l2, l4, eSl_def, eNoO_def, eO_def, opSl_str, if_pos lu, ct, fLen_str, if_pos lv, opAdd_int, hm]
  rfl
end GW

namespace GW
open PySem PySem.Spec PyProof.Rows L2 VS
noncomputable abbrev bodyM : VS.Env → Rs := (sSeq (sSet 8 (eCall Mpair_of_pattern (eCons (eV 4) (eCons (eV 7) (eCons (eV 6) eNil)))))
    (sSeq (sIf (tNot' (eTru (eCall MLsame (eCons (eV 8) (eCons (eCall MLpair (eCons (eV 6) (eCons (eOp2 (opAdd true true) (eV 7) (eC (.int 1))) eNil))) eNil)))))
    (sRet (eC (.bl false)))
    sNil)
    (sIf (tAnd' (eB (eOp2 (opRel fun i j => decide (i < j)) (eV 7) (eC (.int 3)))) (eB (eOp2 (opNe) (eCall MLview (eCons (eV 4) (eCons (eV 7) (eCons (eV 2) (eCons (eOp2 (opIx true) (eV 8) (eC (.int 0))) eNil))))) (eCall MLview (eCons (eV 4) (eCons (eV 7) (eCons (eV 2) (eCons (eOp2 (opIx true) (eV 8) (eC (.int 1))) eNil))))))))
    (sRet (eC (.bl false)))
    sNil)))
noncomputable abbrev bodyK : VS.Env → Rs := (sSeq (sSet 6 (eCall MLmade (eCons (eV 5) (eCons (eV 3) eNil))))
    (sSeq (sIf (tAnd' (eB (eOp2 (opEq) (eV 5) (eC (.str [103, 114, 111, 119])))) (eB (eOp2 (opEq) (eOp2 (opIx true) (eOp2 (opIx true) (eV 6) (eC (.int 1))) (eC (.int 2))) (eC (.str [])))))
    (sRet (eC (.bl false)))
    sNil)
    (sFor 7 (eItR (eC (.int 0)) (eC (.int 4))) bodyM)))
/-- what a manner and a kind need -/
def Good (lt : Nat) (ws : D) (man K : List Nat) : Prop := ∃ (P : D) (A B : Nat → List Nat), Okw K ∧ MLmade [.str K, ws] = .ok P ∧
  ((K == [103, 114, 111, 119]) = false ∨ ∃ X s, opIx true P (.int 1) = some X ∧ opIx true X (.int 2) = some (.str s) ∧ Okw s ∧ s ≠ []) ∧
  (∀ k c, c = k + 1 → c ≤ 4 → Mpair_of_pattern [.str man, ni k, P] = .ok (.tup [.str (A c), .str (B c)]) ∧ MLpair [P, ni c] = .ok (.tup [.str (A c), .str (B c)])) ∧
  (∀ c, Okw (A c) ∧ Okw (B c)) ∧ (∀ k, k < 3 → VE man k lt (A (k + 1)) (B (k + 1)))
theorem kturn {lt : Nat} {ws s1 : D} {scr : D} {man K : List Nat} (h : Good lt ws man K) (x6 x7 x8 x9 : Option O) :
    ∃ y6 y7 y8, Nx bodyK [oD scr, oD s1, oD (ni lt), oD ws, oD (.str man), oD (.str K), x6, x7, x8, x9] [oD scr, oD s1, oD (ni lt), oD ws, oD (.str man), oD (.str K), y6, y7, y8, x9] := by
  obtain ⟨P, A, B, hK, hm, hg, hp, hok, hv⟩ := h
  obtain ⟨c', e, y7, y8, rfl⟩ := forL_rg 7 bodyM 4 (fun j c => ∃ y7 y8, c = [oD scr, oD s1, oD (ni lt), oD ws, oD (.str man), oD (.str K), oD P, y7, y8, x9])
    [oD scr, oD s1, oD (ni lt), oD ws, oD (.str man), oD (.str K), oD P, x7, x8, x9] (by
      rintro k c1 hk ⟨y7, y8, rfl⟩
      obtain ⟨hp1, hp2⟩ := hp k (k + 1) rfl (by omega)
      have ec : ((k + 1 : Nat) : Int) = (k : Int) + 1 := by push_cast; rfl
      rw [ni, ec] at hp2
      obtain ⟨oA, oB⟩ := hok (k + 1)
      have sm := Lsame_ok (d := .tup [.str (A (k + 1)), .str (B (k + 1))]) (.tup _ (by simp) (by
        intro d hd
        simp only [List.mem_cons, List.not_mem_nil, or_false] at hd
        rcases hd with rfl | rfl
        · exact .str _ oA
        · exact .str _ oB))
      have i0 : opIx true (.tup [.str (A (k + 1)), .str (B (k + 1))]) (.int 0) = some (.str (A (k + 1))) := ixt _ 0 rfl
      have i1 : opIx true (.tup [.str (A (k + 1)), .str (B (k + 1))]) (.int 1) = some (.str (B (k + 1))) := ixt _ 1 rfl
      generalize D.tup [.str (A (k + 1)), .str (B (k + 1))] = told at hp1 hp2 sm i0 i1
      have s8 : Nx (sSet 8 (eCall Mpair_of_pattern (eCons (eV 4) (eCons (eV 7) (eCons (eV 6) eNil))))) [oD scr, oD s1, oD (ni lt), oD ws, oD (.str man), oD (.str K), oD P, oD (ni k), y8, x9] [oD scr, oD s1, oD (ni lt), oD ws, oD (.str man), oD (.str K), oD P, oD (ni k), oD told, x9] := by
        refine (Nx.set (d := told) ?_).to rfl
        simp -implicitDefEqProofs [hp1]
      have s9 : Nx (sIf (tNot' (eTru (eCall MLsame (eCons (eV 8) (eCons (eCall MLpair (eCons (eV 6) (eCons (eOp2 (opAdd true true) (eV 7) (eC (.int 1))) eNil))) eNil))))) (sRet (eC (.bl false))) sNil) [oD scr, oD s1, oD (ni lt), oD ws, oD (.str man), oD (.str K), oD P, oD (ni k), oD told, x9] [oD scr, oD s1, oD (ni lt), oD ws, oD (.str man), oD (.str K), oD P, oD (ni k), oD told, x9] := by
        refine .no ?_ .nil
        simp -implicitDefEqProofs [hp2, sm]
      refine ⟨_, Nx.seq s8 (.seq s9 (.no ?_ .nil)), _, _, rfl⟩
      by_cases h3 : k < 3
      · obtain ⟨d, v1, v2, pl⟩ := hv k h3
        have ne : opNe d d = some (.bl false) := by
          unfold opNe
          rw [pl, eqv_self 64 d pl]
          rfl
        simp -implicitDefEqProofs [i0, i1, v1, v2, ne, h3]
      · have h3' : ¬ (k : Int) < 3 := by omega
        simp -implicitDefEqProofs [h3']) ⟨x7, x8, rfl⟩
  refine ⟨oD P, y7, y8, .seq ((Nx.set (d := P) ?_).to rfl) (.seq (.no ?_ .nil) (.for ?_ e))⟩
  · simp -implicitDefEqProofs [hm]
  · have q := str_eq hK (show Okw [103, 114, 111, 119] by decide)
    rcases hg with hg | ⟨X, s, g1, g2, g3, g4⟩
    · rw [hg] at q
      simp -implicitDefEqProofs [q]
    · have q2 := str_eq g3 (show Okw [] from rfl)
      have : (s == []) = false := by simpa using g4
      rw [this] at q2
      cases hk : (K == [103, 114, 111, 119])
      · rw [hk] at q
        simp -implicitDefEqProofs [q]
      · rw [hk] at q
        simp -implicitDefEqProofs [q, g1, g2, q2]
  · simp -implicitDefEqProofs [asI_zero, asI_small (i := 4) (by omega) (by omega)]
section
variable {x u0 v z y : List Nat} {lt : Nat}
structure P0 (x u v z y : List Nat) : Prop where
  x : x.length ≤ 3 ∧ Okw x
  u : u.length ≤ 3 ∧ Okw u
  v : v.length ≤ 3 ∧ Okw v
  z : z.length ≤ 3 ∧ Okw z
  y : y.length ≤ 3 ∧ Okw y
theorem P0.ps (h : P0 x u0 v z y) (b : Bool) : Ps x (uu b u0 v) v z y := ⟨h.x, (uu_ok h.u).1, h.v, h.z, h.y⟩
theorem notin_rl (K : List Nat) (hK : Okw K) : opNotInS (.str K) (.tup [.str [114, 105, 103, 104, 116], .str [108, 101, 102, 116]]) = some (.bl (!([[114, 105, 103, 104, 116], [108, 101, 102, 116]] : List (List Nat)).contains K)) := by
  have hp : (D.pln 64 (.str K) && D.pln 64 (.tup [.str [114, 105, 103, 104, 116], .str [108, 101, 102, 116]])) = true := by
    unfold Okw at hK
    rw [pln_str, hK, pln_tup, D.plns, D.plns, D.plns, pln_str, pln_str]
    rfl
  have := any_str K [[114, 105, 103, 104, 116], [108, 101, 102, 116]]
  unfold opNotInS
  rw [show inS (.str K) (.tup [.str [114, 105, 103, 104, 116], .str [108, 101, 102, 116]]) = if D.pln 64 (.str K) && D.pln 64 (.tup [.str [114, 105, 103, 104, 116], .str [108, 101, 102, 116]]) then some (([[114, 105, 103, 104, 116], [108, 101, 102, 116]].map D.str).any fun z => D.eqv z (.str K)) else none from rfl, if_pos hp, this]
  rfl
theorem good_last_behind (h0 : P0 x u0 v z y) : Good lt (wl x u0 v z y) [108, 97, 115, 116] [98, 101, 104, 105, 110, 100] := by
  have hb : opNotInS (.str [98, 101, 104, 105, 110, 100]) (.tup [.str [114, 105, 103, 104, 116], .str [108, 101, 102, 116]]) = some (.bl true) := notin_rl [98, 101, 104, 105, 110, 100] (by decide)
  have hm := made_gen (x := x) (z := z) (y := y) hb h0.u h0.v (by decide) (by decide)
  have h := h0.ps true
  have hu := (uu_ok (b := true) (u := u0) (v := v) h0.u).2 rfl
  generalize uu true u0 v = u at hm h hu
  refine ⟨_, fun c => x ++ pw u c ++ y, fun c => v ++ pw u c ++ y, by decide, hm, .inl (by decide), fun k c hk hc => ⟨patt_behind _ (by have := h.x.1; omega) (by have := h.u.1; omega) (by have := h.v.1; omega) (by have := h.y.1; omega) hk hc, pair_behind (by have := h.x.1; omega) (by have := h.u.1; omega) (by have := h.v.1; omega) (by have := h.y.1; omega) hc⟩, fun c => ⟨(okw_app (okw_app h.x.2 (okw_pw h.u.2 c)) h.y.2), (okw_app (okw_app h.v.2 (okw_pw h.u.2 c)) h.y.2)⟩, fun k hk => ?_⟩
  exact ve_last h hu hk
theorem good_first_ahead (h0 : P0 x u0 v z y) : Good lt (wl x u0 v z y) [102, 105, 114, 115, 116] [97, 104, 101, 97, 100] := by
  have hb : opNotInS (.str [97, 104, 101, 97, 100]) (.tup [.str [114, 105, 103, 104, 116], .str [108, 101, 102, 116]]) = some (.bl true) := notin_rl [97, 104, 101, 97, 100] (by decide)
  have hm := made_gen (x := x) (z := z) (y := y) hb h0.u h0.v (by decide) (by decide)
  have h := h0.ps true
  have hu := (uu_ok (b := true) (u := u0) (v := v) h0.u).2 rfl
  generalize uu true u0 v = u at hm h hu
  refine ⟨_, fun c => x ++ pw u c ++ v, fun c => x ++ pw u c ++ y, by decide, hm, .inl (by decide), fun k c hk hc => ⟨patt_ahead _ (by have := h.x.1; omega) (by have := h.u.1; omega) (by have := h.v.1; omega) (by have := h.y.1; omega) hk hc, pair_ahead (by have := h.x.1; omega) (by have := h.u.1; omega) (by have := h.v.1; omega) (by have := h.y.1; omega) hc⟩, fun c => ⟨(okw_app (okw_app h.x.2 (okw_pw h.u.2 c)) h.v.2), (okw_app (okw_app h.x.2 (okw_pw h.u.2 c)) h.y.2)⟩, fun k hk => ?_⟩
  exact ve_first h hu hk
theorem good_ends_between (h0 : P0 x u0 v z y) : Good lt (wl x u0 v z y) [101, 110, 100, 115] [98, 101, 116, 119, 101, 101, 110] := by
  have hb : opNotInS (.str [98, 101, 116, 119, 101, 101, 110]) (.tup [.str [114, 105, 103, 104, 116], .str [108, 101, 102, 116]]) = some (.bl true) := notin_rl [98, 101, 116, 119, 101, 101, 110] (by decide)
  have hm := made_gen (x := x) (z := z) (y := y) hb h0.u h0.v (by decide) (by decide)
  have h := h0.ps true
  have hu := (uu_ok (b := true) (u := u0) (v := v) h0.u).2 rfl
  generalize uu true u0 v = u at hm h hu
  refine ⟨_, fun c => x ++ pw u c ++ v ++ pw u c ++ y, fun c => x ++ pw u c ++ y, by decide, hm, .inl (by decide), fun k c hk hc => ⟨patt_between _ (by have := h.x.1; omega) (by have := h.u.1; omega) (by have := h.v.1; omega) (by have := h.y.1; omega) hk hc, pair_between (by have := h.x.1; omega) (by have := h.u.1; omega) (by have := h.v.1; omega) (by have := h.y.1; omega) hc⟩, fun c => ⟨(okw_app (okw_app (okw_app (okw_app h.x.2 (okw_pw h.u.2 c)) h.v.2) (okw_pw h.u.2 c)) h.y.2), (okw_app (okw_app h.x.2 (okw_pw h.u.2 c)) h.y.2)⟩, fun k hk => ?_⟩
  exact ve_ends h hu hk
theorem good_slit_twice (h0 : P0 x u0 v z y) : Good lt (wl x u0 v z y) [115, 108, 105, 116] [116, 119, 105, 99, 101] := by
  have hb : opNotInS (.str [116, 119, 105, 99, 101]) (.tup [.str [114, 105, 103, 104, 116], .str [108, 101, 102, 116]]) = some (.bl true) := notin_rl [116, 119, 105, 99, 101] (by decide)
  have hm := made_gen (x := x) (z := z) (y := y) hb h0.u h0.v (by decide) (by decide)
  have h := h0.ps true
  have hu := (uu_ok (b := true) (u := u0) (v := v) h0.u).2 rfl
  generalize uu true u0 v = u at hm h hu
  refine ⟨_, fun c => x ++ pw u c ++ v ++ pw u c ++ y, fun c => x ++ pw u c ++ v ++ pw u c ++ v ++ pw u c ++ y, by decide, hm, .inl (by decide), fun k c hk hc => ⟨patt_twice _ (by have := h.x.1; omega) (by have := h.u.1; omega) (by have := h.v.1; omega) (by have := h.y.1; omega) hk hc, pair_twice (by have := h.x.1; omega) (by have := h.u.1; omega) (by have := h.v.1; omega) (by have := h.y.1; omega) hc⟩, fun c => ⟨(okw_app (okw_app (okw_app (okw_app h.x.2 (okw_pw h.u.2 c)) h.v.2) (okw_pw h.u.2 c)) h.y.2), (okw_app (okw_app (okw_app (okw_app (okw_app (okw_app h.x.2 (okw_pw h.u.2 c)) h.v.2) (okw_pw h.u.2 c)) h.v.2) (okw_pw h.u.2 c)) h.y.2)⟩, fun k hk => ?_⟩
  exact ve_twice h hu hk
theorem good_slit_order (h0 : P0 x u0 v z y) : Good lt (wl x u0 v z y) [115, 108, 105, 116] [111, 114, 100, 101, 114] := by
  have hb : opNotInS (.str [111, 114, 100, 101, 114]) (.tup [.str [114, 105, 103, 104, 116], .str [108, 101, 102, 116]]) = some (.bl true) := notin_rl [111, 114, 100, 101, 114] (by decide)
  have hm := made_ord (x := x) (z := z) (y := y) hb h0.u h0.v
  have h := h0.ps true
  have hu := (uu_ok (b := true) (u := u0) (v := v) h0.u).2 rfl
  generalize uu true u0 v = u at hm h hu
  refine ⟨_, fun c => x ++ pw u c ++ v ++ pw u c ++ z ++ pw u c ++ y, fun c => x ++ pw u c ++ z ++ pw u c ++ v ++ pw u c ++ y, by decide, hm, .inl (by decide), fun k c hk hc => ⟨patt_order _ (by have := h.x.1; omega) (by have := h.u.1; omega) (by have := h.v.1; omega) (by have := h.z.1; omega) (by have := h.y.1; omega) hk hc, pair_order (by have := h.x.1; omega) (by have := h.u.1; omega) (by have := h.v.1; omega) (by have := h.z.1; omega) (by have := h.y.1; omega) hc⟩, fun c => ⟨(okw_app (okw_app (okw_app (okw_app (okw_app (okw_app h.x.2 (okw_pw h.u.2 c)) h.v.2) (okw_pw h.u.2 c)) h.z.2) (okw_pw h.u.2 c)) h.y.2), (okw_app (okw_app (okw_app (okw_app (okw_app (okw_app h.x.2 (okw_pw h.u.2 c)) h.z.2) (okw_pw h.u.2 c)) h.v.2) (okw_pw h.u.2 c)) h.y.2)⟩, fun k hk => ?_⟩
  exact ve_order h hu hk
theorem good_scattered_right (h0 : P0 x u0 v z y) : Good lt (wl x u0 v z y) [115, 99, 97, 116, 116, 101, 114, 101, 100] [114, 105, 103, 104, 116] := by
  have hb : opNotInS (.str [114, 105, 103, 104, 116]) (.tup [.str [114, 105, 103, 104, 116], .str [108, 101, 102, 116]]) = some (.bl false) := notin_rl [114, 105, 103, 104, 116] (by decide)
  have hm := made_gen (x := x) (z := z) (y := y) hb h0.u h0.v (by decide) (by decide)
  have h := h0.ps false
  generalize uu false u0 v = u at hm h
  refine ⟨_, fun c => x ++ pw (u ++ v) c ++ y, fun c => x ++ pw (u ++ v) c ++ u ++ y, by decide, hm, .inl (by decide), fun k c hk hc => ⟨patt_right _ (by have := h.x.1; omega) (by have := h.u.1; omega) (by have := h.v.1; omega) (by have := h.y.1; omega) hk hc, pair_right (by have := h.x.1; omega) (by have := h.u.1; omega) (by have := h.v.1; omega) (by have := h.y.1; omega) hc⟩, fun c => ⟨(okw_app (okw_app h.x.2 (okw_pw (okw_app h.u.2 h.v.2) c)) h.y.2), (okw_app (okw_app (okw_app h.x.2 (okw_pw (okw_app h.u.2 h.v.2) c)) h.u.2) h.y.2)⟩, fun k hk => ?_⟩
  have hQ := Q_len h hk; have l1 := h.x.1; have l2 := h.u.1; have l3 := h.v.1; have l4 := h.y.1
  exact ve_sc (okw_app (okw_app h.x.2 (okw_pw (okw_app h.u.2 h.v.2) _)) h.y.2) (okw_app (okw_app (okw_app h.x.2 (okw_pw (okw_app h.u.2 h.v.2) _)) h.u.2) h.y.2) (by simp only [List.length_append]; omega) (by simp only [List.length_append]; omega) hk (alk_right k)
theorem good_scattered_left (h0 : P0 x u0 v z y) : Good lt (wl x u0 v z y) [115, 99, 97, 116, 116, 101, 114, 101, 100] [108, 101, 102, 116] := by
  have hb : opNotInS (.str [108, 101, 102, 116]) (.tup [.str [114, 105, 103, 104, 116], .str [108, 101, 102, 116]]) = some (.bl false) := notin_rl [108, 101, 102, 116] (by decide)
  have hm := made_gen (x := x) (z := z) (y := y) hb h0.u h0.v (by decide) (by decide)
  have h := h0.ps false
  generalize uu false u0 v = u at hm h
  refine ⟨_, fun c => x ++ pw (u ++ v) c ++ y, fun c => x ++ v ++ pw (u ++ v) c ++ y, by decide, hm, .inl (by decide), fun k c hk hc => ⟨patt_left _ (by have := h.x.1; omega) (by have := h.u.1; omega) (by have := h.v.1; omega) (by have := h.y.1; omega) hk hc, pair_left (by have := h.x.1; omega) (by have := h.u.1; omega) (by have := h.v.1; omega) (by have := h.y.1; omega) hc⟩, fun c => ⟨(okw_app (okw_app h.x.2 (okw_pw (okw_app h.u.2 h.v.2) c)) h.y.2), (okw_app (okw_app (okw_app h.x.2 h.v.2) (okw_pw (okw_app h.u.2 h.v.2) c)) h.y.2)⟩, fun k hk => ?_⟩
  have hQ := Q_len h hk; have l1 := h.x.1; have l2 := h.u.1; have l3 := h.v.1; have l4 := h.y.1
  exact ve_sc (okw_app (okw_app h.x.2 (okw_pw (okw_app h.u.2 h.v.2) _)) h.y.2) (okw_app (okw_app (okw_app h.x.2 h.v.2) (okw_pw (okw_app h.u.2 h.v.2) _)) h.y.2) (by simp only [List.length_append]; omega) (by simp only [List.length_append]; omega) hk (alk_left k)
theorem good_rising_right (h0 : P0 x u0 v z y) : Good lt (wl x u0 v z y) [114, 105, 115, 105, 110, 103] [114, 105, 103, 104, 116] := by
  have hb : opNotInS (.str [114, 105, 103, 104, 116]) (.tup [.str [114, 105, 103, 104, 116], .str [108, 101, 102, 116]]) = some (.bl false) := notin_rl [114, 105, 103, 104, 116] (by decide)
  have hm := made_gen (x := x) (z := z) (y := y) hb h0.u h0.v (by decide) (by decide)
  have h := h0.ps false
  generalize uu false u0 v = u at hm h
  refine ⟨_, fun c => x ++ pw (u ++ v) c ++ y, fun c => x ++ pw (u ++ v) c ++ u ++ y, by decide, hm, .inl (by decide), fun k c hk hc => ⟨patt_right _ (by have := h.x.1; omega) (by have := h.u.1; omega) (by have := h.v.1; omega) (by have := h.y.1; omega) hk hc, pair_right (by have := h.x.1; omega) (by have := h.u.1; omega) (by have := h.v.1; omega) (by have := h.y.1; omega) hc⟩, fun c => ⟨(okw_app (okw_app h.x.2 (okw_pw (okw_app h.u.2 h.v.2) c)) h.y.2), (okw_app (okw_app (okw_app h.x.2 (okw_pw (okw_app h.u.2 h.v.2) c)) h.u.2) h.y.2)⟩, fun k hk => ?_⟩
  have hQ := Q_len h hk; have l1 := h.x.1; have l2 := h.u.1; have l3 := h.v.1; have l4 := h.y.1
  have hman : opEq (.str [114, 105, 115, 105, 110, 103]) (.str [102, 97, 108, 108, 105, 110, 103]) = some (.bl false) := str_eq (by decide) (by decide)
  exact ve_row hman (by decide) (by decide) (okw_app (okw_app h.x.2 (okw_pw (okw_app h.u.2 h.v.2) _)) h.y.2) (okw_app (okw_app (okw_app h.x.2 (okw_pw (okw_app h.u.2 h.v.2) _)) h.u.2) h.y.2) (by simp only [List.length_append]; omega) (by simp only [List.length_append]; omega) hk (row_right k lt)
theorem good_falling_left (h0 : P0 x u0 v z y) : Good lt (wl x u0 v z y) [102, 97, 108, 108, 105, 110, 103] [108, 101, 102, 116] := by
  have hb : opNotInS (.str [108, 101, 102, 116]) (.tup [.str [114, 105, 103, 104, 116], .str [108, 101, 102, 116]]) = some (.bl false) := notin_rl [108, 101, 102, 116] (by decide)
  have hm := made_gen (x := x) (z := z) (y := y) hb h0.u h0.v (by decide) (by decide)
  have h := h0.ps false
  generalize uu false u0 v = u at hm h
  refine ⟨_, fun c => x ++ pw (u ++ v) c ++ y, fun c => x ++ v ++ pw (u ++ v) c ++ y, by decide, hm, .inl (by decide), fun k c hk hc => ⟨patt_left _ (by have := h.x.1; omega) (by have := h.u.1; omega) (by have := h.v.1; omega) (by have := h.y.1; omega) hk hc, pair_left (by have := h.x.1; omega) (by have := h.u.1; omega) (by have := h.v.1; omega) (by have := h.y.1; omega) hc⟩, fun c => ⟨(okw_app (okw_app h.x.2 (okw_pw (okw_app h.u.2 h.v.2) c)) h.y.2), (okw_app (okw_app (okw_app h.x.2 h.v.2) (okw_pw (okw_app h.u.2 h.v.2) c)) h.y.2)⟩, fun k hk => ?_⟩
  have hQ := Q_len h hk; have l1 := h.x.1; have l2 := h.u.1; have l3 := h.v.1; have l4 := h.y.1
  have hman : opEq (.str [102, 97, 108, 108, 105, 110, 103]) (.str [102, 97, 108, 108, 105, 110, 103]) = some (.bl true) := str_eq (by decide) (by decide)
  exact ve_row hman (by decide) (by decide) (okw_app (okw_app h.x.2 (okw_pw (okw_app h.u.2 h.v.2) _)) h.y.2) (okw_app (okw_app (okw_app h.x.2 h.v.2) (okw_pw (okw_app h.u.2 h.v.2) _)) h.y.2) (by simp only [List.length_append]; omega) (by simp only [List.length_append]; omega) hk (row_left k lt)
theorem good_counts_swap (h0 : P0 x u0 v z y) : Good lt (wl x u0 v z y) [99, 111, 117, 110, 116, 115] [115, 119, 97, 112] := by
  have hb : opNotInS (.str [115, 119, 97, 112]) (.tup [.str [114, 105, 103, 104, 116], .str [108, 101, 102, 116]]) = some (.bl true) := notin_rl [115, 119, 97, 112] (by decide)
  have hm := made_gen (x := x) (z := z) (y := y) hb h0.u h0.v (by decide) (by decide)
  have h := h0.ps true
  have hu := (uu_ok (b := true) (u := u0) (v := v) h0.u).2 rfl
  generalize uu true u0 v = u at hm h hu
  refine ⟨_, fun c => x ++ u ++ v ++ y, fun c => x ++ v ++ u ++ y, by decide, hm, .inl (by decide), fun k c hk hc => ⟨patt_swap _ (by have := h.x.1; omega) (by have := h.u.1; omega) (by have := h.v.1; omega) (by have := h.y.1; omega) hk hc, pair_swap (by have := h.x.1; omega) (by have := h.u.1; omega) (by have := h.v.1; omega) (by have := h.y.1; omega) hc⟩, fun c => ⟨(okw_app (okw_app (okw_app h.x.2 h.u.2) h.v.2) h.y.2), (okw_app (okw_app (okw_app h.x.2 h.v.2) h.u.2) h.y.2)⟩, fun k hk => ?_⟩
  have l1 := h.x.1; have l2 := h.u.1; have l3 := h.v.1; have l4 := h.y.1
  exact ve_counts (okw_app (okw_app (okw_app h.x.2 h.u.2) h.v.2) h.y.2) (okw_app (okw_app (okw_app h.x.2 h.v.2) h.u.2) h.y.2) (by simp only [List.length_append]; omega) (by simp only [List.length_append]; omega) fun c => by simp only [List.count_append]; omega
theorem good_counts_grow (h0 : P0 x u0 v z y) : Good lt (wl x u0 v z y) [99, 111, 117, 110, 116, 115] [103, 114, 111, 119] := by
  have hb : opNotInS (.str [103, 114, 111, 119]) (.tup [.str [114, 105, 103, 104, 116], .str [108, 101, 102, 116]]) = some (.bl true) := notin_rl [103, 114, 111, 119] (by decide)
  have hm := made_gro (x := x) (z := z) (y := y) hb h0.u h0.v
  have h := h0.ps true
  have hu := (uu_ok (b := true) (u := u0) (v := v) h0.u).2 rfl
  generalize uu true u0 v = u at hm h hu
  obtain ⟨a, r, rfl⟩ : ∃ a r, u = a :: r := by
    cases u with
    | nil => exact absurd rfl hu
    | cons a r => exact ⟨a, r, rfl⟩
  rw [show (a :: r).take 1 = [a] from rfl] at hm
  have oa : Okw [a] := by
    have := h.u.2
    unfold Okw at this ⊢
    rw [List.all_cons, Bool.and_eq_true] at this
    simpa using this.1
  obtain ⟨u, hue⟩ : ∃ u, pw [a] (1 + v.length) = u := ⟨_, rfl⟩
  rw [hue] at hm
  have ul : u.length ≤ 4 ∧ Okw u := by
    rw [← hue]
    exact ⟨by rw [pw_len]; have := h0.v.1; simp; omega, okw_pw oa _⟩
  have hua : ∀ b ∈ u, b = a := by
    intro b hb
    rw [← hue] at hb
    have := pw_mem hb
    simpa using this
  have hul : 1 ≤ u.length := by rw [← hue, pw_len]; simp
  have lx := h.x; have ly := h.y
  refine ⟨_, fun c => x ++ pw u c ++ y, fun c => x ++ pw u c ++ [a] ++ y, by decide, hm, .inr ⟨_, [a], ixt _ 1 rfl, w42, oa, by simp⟩, fun k c hk hc => ⟨patt_grow _ (by omega) (by omega) (by simp) (by omega) hk hc, pair_grow (by omega) (by omega) (by simp) (by omega) hc⟩, fun c => ⟨okw_app (okw_app lx.2 (okw_pw ul.2 c)) ly.2, okw_app (okw_app (okw_app lx.2 (okw_pw ul.2 c)) oa) ly.2⟩, fun k hk => ?_⟩
  have hUl : (pw u (k + 1)).length ≤ 12 := by
    rw [pw_len]
    have := Nat.mul_le_mul (show k + 1 ≤ 3 by omega) ul.1
    omega
  have hUg : k + 1 ≤ (pw u (k + 1)).length := by
    rw [pw_len]
    have := Nat.mul_le_mul_left (k + 1) hul
    omega
  have hUa : (pw u (k + 1)).count a = (pw u (k + 1)).length := by
    rw [List.count_eq_length]
    intro b hb
    exact (hua b (pw_mem hb)).symm
  refine ve_counts (okw_app (okw_app lx.2 (okw_pw ul.2 _)) ly.2) (okw_app (okw_app (okw_app lx.2 (okw_pw ul.2 _)) oa) ly.2) (by simp only [List.length_append]; omega) (by simp only [List.length_append, List.length_cons, List.length_nil]; omega) fun c => ?_
  simp only [List.count_append]
  by_cases hca : c = a
  · subst hca
    rw [hUa]
    omega
  · have : [a].count c = 0 := by
      rw [List.count_eq_zero]
      simpa using hca
    omega
end
end GW

namespace GW
open PySem PySem.Spec PyProof.Rows L2 VS
theorem goods {x u v z y : List Nat} {lt : Nat} (h : P0 x u v z y) (man : List Nat) (hm : man ∈ ([[108, 97, 115, 116], [102, 105, 114, 115, 116], [101, 110, 100, 115], [115, 108, 105, 116], [115, 99, 97, 116, 116, 101, 114, 101, 100], [114, 105, 115, 105, 110, 103], [102, 97, 108, 108, 105, 110, 103], [99, 111, 117, 110, 116, 115]] : List (List Nat))) : ∃ ks : List (List Nat), MLkinds [.str man] = .ok (.lst (ks.map D.str)) ∧ ∀ K ∈ ks, Good lt (wl x u v z y) man K := by
  simp only [List.mem_cons, List.not_mem_nil, or_false] at hm
  rcases hm with rfl | rfl | rfl | rfl | rfl | rfl | rfl | rfl
  · refine ⟨_, kinds_last, fun K hK => ?_⟩
    simp only [List.mem_cons, List.not_mem_nil, or_false] at hK
    subst hK
    exact good_last_behind h
  · refine ⟨_, kinds_first, fun K hK => ?_⟩
    simp only [List.mem_cons, List.not_mem_nil, or_false] at hK
    subst hK
    exact good_first_ahead h
  · refine ⟨_, kinds_ends, fun K hK => ?_⟩
    simp only [List.mem_cons, List.not_mem_nil, or_false] at hK
    subst hK
    exact good_ends_between h
  · refine ⟨_, kinds_slit, fun K hK => ?_⟩
    simp only [List.mem_cons, List.not_mem_nil, or_false] at hK
    rcases hK with rfl | rfl
    · exact good_slit_twice h
    · exact good_slit_order h
  · refine ⟨_, kinds_scattered, fun K hK => ?_⟩
    simp only [List.mem_cons, List.not_mem_nil, or_false] at hK
    rcases hK with rfl | rfl
    · exact good_scattered_right h
    · exact good_scattered_left h
  · refine ⟨_, kinds_rising, fun K hK => ?_⟩
    simp only [List.mem_cons, List.not_mem_nil, or_false] at hK
    subst hK
    exact good_rising_right h
  · refine ⟨_, kinds_falling, fun K hK => ?_⟩
    simp only [List.mem_cons, List.not_mem_nil, or_false] at hK
    subst hK
    exact good_falling_left h
  · refine ⟨_, kinds_counts, fun K hK => ?_⟩
    simp only [List.mem_cons, List.not_mem_nil, or_false] at hK
    rcases hK with rfl | rfl
    · exact good_counts_swap h
    · exact good_counts_grow h
theorem mturn {x u v z y : List Nat} {lt : Nat} (h : P0 x u v z y) (scr s1 : D) (x9 : Option O) :
    ∃ y4 y5 y6 y7 y8, Nx (sFor 4 (eIt true (eFn fLst (eCons (eC (.str [108, 97, 115, 116])) (eCons (eC (.str [102, 105, 114, 115, 116])) (eCons (eC (.str [101, 110, 100, 115])) (eCons (eC (.str [115, 108, 105, 116])) (eCons (eC (.str [115, 99, 97, 116, 116, 101, 114, 101, 100])) (eCons (eC (.str [114, 105, 115, 105, 110, 103])) (eCons (eC (.str [102, 97, 108, 108, 105, 110, 103])) (eCons (eC (.str [99, 111, 117, 110, 116, 115])) eNil)))))))))) (sFor 5 (eIt true (eCall MLkinds (eCons (eV 4) eNil))) bodyK)) [oD scr, oD s1, oD (ni lt), oD (wl x u v z y), none, none, none, none, none, x9] [oD scr, oD s1, oD (ni lt), oD (wl x u v z y), y4, y5, y6, y7, y8, x9] := by
  obtain ⟨c', e, y4, y5, y6, y7, y8, hc⟩ := forL_ex 4 (sFor 5 (eIt true (eCall MLkinds (eCons (eV 4) eNil))) bodyK) (fun j c => ∃ y4 y5 y6 y7 y8, c = [oD scr, oD s1, oD (ni lt), oD (wl x u v z y), y4, y5, y6, y7, y8, x9]) (([[108, 97, 115, 116], [102, 105, 114, 115, 116], [101, 110, 100, 115], [115, 108, 105, 116], [115, 99, 97, 116, 116, 101, 114, 101, 100], [114, 105, 115, 105, 110, 103], [102, 97, 108, 108, 105, 110, 103], [99, 111, 117, 110, 116, 115]] : List (List Nat)).map D.str)
    [oD scr, oD s1, oD (ni lt), oD (wl x u v z y), none, none, none, none, none, x9] (by
      rintro j d c hd ⟨y4, y5, y6, y7, y8, rfl⟩
      rw [List.getElem?_map] at hd
      obtain ⟨man, hman, rfl⟩ := Option.map_eq_some_iff.mp hd
      obtain ⟨ks, ek, hk⟩ := goods (lt := lt) h man (List.mem_of_getElem? hman)
      obtain ⟨c2, e2, z5, z6, z7, z8, hc2⟩ := forL_ex 5 bodyK (fun j c => ∃ y5 y6 y7 y8, c = [oD scr, oD s1, oD (ni lt), oD (wl x u v z y), oD (.str man), y5, y6, y7, y8, x9]) (ks.map D.str)
        [oD scr, oD s1, oD (ni lt), oD (wl x u v z y), oD (.str man), y5, y6, y7, y8, x9] (by
          rintro j d c hd ⟨y5, y6, y7, y8, rfl⟩
          rw [List.getElem?_map] at hd
          obtain ⟨K, hK, rfl⟩ := Option.map_eq_some_iff.mp hd
          obtain ⟨z6, z7, z8, E⟩ := kturn (s1 := s1) (scr := scr) (hk K (List.mem_of_getElem? hK)) y6 y7 y8 x9
          exact ⟨_, E, _, _, _, _, rfl⟩) ⟨y5, y6, y7, y8, rfl⟩
      exact ⟨_, Nx.for (by simp -implicitDefEqProofs [ek]) (e2.trans (by rw [hc2])), _, _, _, _, _, rfl⟩) ⟨none, none, none, none, none, rfl⟩
  refine ⟨y4, y5, y6, y7, y8, .for ?_ (e.trans (by rw [hc]))⟩
  have l8 : ∀ a b c d e f g i : D, fLst [a, b, c, d, e, f, g, i] = some (.lst [a, b, c, d, e, f, g, i]) := fun a b c d e f g i => by rw [fLst_def, if_pos (by simp)]
  simp -implicitDefEqProofs only [eIt_def, eFn_def, eCons_def, eNil_def, eC_def, ok_bind, l8, lift_some, asA_lst, okEl_t, if_true, List.map_cons, List.map_nil]
theorem six {l : List Int} (h : l.length = 6) : ∃ a b c d e f, l = [a, b, c, d, e, f] := by
  match l, h with
  | [a, b, c, d, e, f], _ => exact ⟨a, b, c, d, e, f, rfl⟩
theorem law_ok (ns : List Int) : Mlaw [.lst (ns.map D.int)] = .ok (.bl true) := by
  obtain ⟨l, e, hl, hx⟩ := Ldraws_spec ns 0 6 720 (by omega) (by omega) (by omega)
  have e' : MLdraws [.lst (ns.map D.int), .int 0, .int 6, .int 720] = .ok (.lst (l.map D.int)) := e
  have hget : ∀ i : Nat, i < 6 → ∃ a : Int, opIx true (.lst (l.map D.int)) (.int (i : Int)) = some (.int a) ∧ 0 ≤ a := by
    intro i hi
    have hil : i < l.length := by omega
    exact ⟨l[i], ixl _ i (by rw [List.getElem?_map, List.getElem?_eq_getElem hil]; rfl), (hx _ (List.getElem_mem hil)).1⟩
  obtain ⟨a0, ha0, hp0⟩ := hget 0 (by omega)
  obtain ⟨lt, hlt⟩ := nat_of (x := 1 + a0 % 3) (by omega)
  have ex : ∀ j : Nat, ∃ w : List Nat, j < 5 → (w.length ≤ 3 ∧ Okw w) ∧ eCall MLword (eCons (eCall MLdraws (eCons (eV 0) (eCons (eOp2 (opAdd true true) (eC (.int 1)) (eV 9)) (eCons (eOp2 (opMod) (eOp2 (opIx true) (eV 1) (eOp2 (opAdd true true) (eC (.int 1)) (eV 9))) (eC (.int 4))) (eCons (eC (.int 5040)) eNil))))) (eCons (eV 2) eNil)) [oD (.lst (ns.map D.int)), oD (.lst (l.map D.int)), oD (ni lt), none, none, none, none, none, none, oD (ni j)] = .ok (.str w) := by
    intro j
    by_cases hj : j < 5
    · obtain ⟨a, ha, hp⟩ := hget (1 + j) (by omega)
      obtain ⟨k, hk⟩ := nat_of (x := a % 4) (Int.emod_nonneg _ (by omega))
      have hk4 : a % 4 < 4 := Int.emod_lt_of_pos _ (by omega)
      obtain ⟨q, eq, hq, _⟩ := Ldraws_spec ns (1 + j) k 5040 (by omega) (by omega) (by omega)
      obtain ⟨w, ew, hw1, hw2⟩ := Lword_spec (lt := lt) q (by omega) (by omega) (by omega)
      have ec : ((1 + j : Nat) : Int) = 1 + (j : Int) := by push_cast; rfl
      rw [ec] at eq ha
      refine ⟨w, fun _ => ⟨⟨by omega, ?_⟩, ?_⟩⟩
      · unfold Okw
        rw [List.all_eq_true]
        intro c hc
        have := hw1 c hc
        simp
        omega
      · generalize D.lst (l.map D.int) = sh at ha ⊢
        simp -implicitDefEqProofs [ha, hk, eq, ew]
    · exact ⟨[], fun h => absurd h hj⟩
  obtain ⟨W, hW⟩ := Classical.axiomOfChoice ex
  have hP : P0 (W 0) (W 1) (W 2) (W 3) (W 4) := ⟨(hW 0 (by omega)).1, (hW 1 (by omega)).1, (hW 2 (by omega)).1, (hW 3 (by omega)).1, (hW 4 (by omega)).1⟩
  have c1 := compL_mapm (eCall MLword (eCons (eCall MLdraws (eCons (eV 0) (eCons (eOp2 (opAdd true true) (eC (.int 1)) (eV 9)) (eCons (eOp2 (opMod) (eOp2 (opIx true) (eV 1) (eOp2 (opAdd true true) (eC (.int 1)) (eV 9))) (eC (.int 4))) (eCons (eC (.int 5040)) eNil))))) (eCons (eV 2) eNil))) 9 [oD (.lst (ns.map D.int)), oD (.lst (l.map D.int)), oD (ni lt), none, none, none, none, none, none, none] ni (fun j => .str (W j)) (List.range 5) (fun j hj => (hW j (List.mem_range.mp hj)).2)
  have er : rangeD 0 5 = (List.range 5).map ni := rangeD_nat 5
  obtain ⟨y4, y5, y6, y7, y8, E⟩ := mturn (lt := lt) hP (.lst (ns.map D.int)) (.lst (l.map D.int)) none
  unfold Mlaw Blaw
  refine ret_of ?_
  show Ret _ [oD (.lst (ns.map D.int)), none, none, none, none, none, none, none, none, none] _
  refine .seq (.set (d := .lst (l.map D.int)) ?a1) (.seq (.set (d := ni lt) ?a2) (.seq (.set (d := wl (W 0) (W 1) (W 2) (W 3) (W 4)) ?a3) (.seq E (.ret ?a4))))
  case a1 => simp -implicitDefEqProofs [e']
  case a2 =>
    have ha0' : opIx true (.lst (l.map D.int)) (.int 0) = some (.int a0) := ha0
    generalize D.lst (l.map D.int) = sh at ha0' ⊢
    simp -implicitDefEqProofs [ha0', hlt]
  case a3 =>
    simp -implicitDefEqProofs only [eLc_def, eLcs_def, eItR_def, eC_def, ok_bind, asI_zero, asI_small (i := 5) (by omega) (by omega), lift_some, er, List.set_cons_zero, List.set_cons_succ]
    rw [c1]
    simp -implicitDefEqProofs only [ok_bind, List.length_map, List.length_range]
    rw [if_pos (by omega)]
    rfl
  case a4 => simp -implicitDefEqProofs
end GW

set_option maxHeartbeats 8000000
/-! the walk of law_k23_pairs_of_patterns, printed by vsgen.py -/
namespace GW
open PySem PySem.Spec PyProof.Rows L2 VS
def topS (i : Nat) : Stmt := PySem.Challenge.pw_viewedwords_k23_pairs_of_patterns.main.body.getD i (.Pass ⟨0, 0, 0, 0⟩)
theorem u65 {A : Around} {k : Nat} (hr : Room k A) : A.units + 65 < cLine := by have := hr.un; omega
/-! ### _law_number -/
abbrev sLnumber : Stmt := topS 6
abbrev nLnumber : List Str := ["script", "k", "number"]
theorem scLnumber : FnScope nLnumber ["script", "k"] (defScope sLnumber) := ⟨rfl, rfl, rfl, by decide +kernel, rfl, by decide +kernel, by decide +kernel⟩
theorem ndLnumber : (nLnumber : List Str).Nodup := scLnumber.nd
/-! ### _law_draws -/
abbrev sLdraws : Stmt := topS 7
abbrev nLdraws : List Str := ["script", "k", "count", "many", "number", "found", "at", "state", "other"]
theorem scLdraws : FnScope nLdraws ["script", "k", "count", "many"] (defScope sLdraws) := ⟨rfl, rfl, rfl, by decide +kernel, rfl, by decide +kernel, by decide +kernel⟩
theorem ndLdraws : (nLdraws : List Str).Nodup := scLdraws.nd
/-! ### _law_word -/
abbrev sLword : Stmt := topS 8
abbrev nLword : List Str := ["picks", "letters", "pick"]
theorem scLword : FnScope nLword ["picks", "letters"] (defScope sLword) := ⟨rfl, rfl, rfl, by decide +kernel, rfl, by decide +kernel, by decide +kernel⟩
theorem ndLword : (nLword : List Str).Nodup := scLword.nd
/-! ### _law_kinds -/
abbrev sLkinds : Stmt := topS 14
abbrev nLkinds : List Str := ["manner"]
theorem scLkinds : FnScope nLkinds ["manner"] (defScope sLkinds) := ⟨rfl, rfl, rfl, by decide +kernel, rfl, by decide +kernel, by decide +kernel⟩
theorem ndLkinds : (nLkinds : List Str).Nodup := scLkinds.nd
/-! ### _law_made -/
abbrev sLmade : Stmt := topS 15
abbrev nLmade : List Str := ["kind", "words", "u"]
theorem scLmade : FnScope nLmade ["kind", "words"] (defScope sLmade) := ⟨rfl, rfl, rfl, by decide +kernel, rfl, by decide +kernel, by decide +kernel⟩
theorem ndLmade : (nLmade : List Str).Nodup := scLmade.nd
/-! ### ordered_words -/
abbrev sordered_words : Stmt := topS 2
abbrev nordered_words : List Str := ["words", "count", "x", "u", "v", "z", "y", "one"]
theorem scordered_words : FnScope nordered_words ["words", "count"] (defScope sordered_words) := ⟨rfl, rfl, rfl, by decide +kernel, rfl, by decide +kernel, by decide +kernel⟩
theorem ndordered_words : (nordered_words : List Str).Nodup := scordered_words.nd
/-! ### made_words -/
abbrev smade_words : Stmt := topS 1
abbrev nmade_words : List Str := ["kind", "words", "count", "x", "y", "u", "v"]
theorem scmade_words : FnScope nmade_words ["kind", "words", "count"] (defScope smade_words) := ⟨rfl, rfl, rfl, by decide +kernel, rfl, by decide +kernel, by decide +kernel⟩
theorem ndmade_words : (nmade_words : List Str).Nodup := scmade_words.nd
/-! ### pair_of_pattern -/
abbrev spair_of_pattern : Stmt := topS 3
abbrev npair_of_pattern : List Str := ["manner", "k", "paper"]
theorem scpair_of_pattern : FnScope npair_of_pattern ["manner", "k", "paper"] (defScope spair_of_pattern) := ⟨rfl, rfl, rfl, by decide +kernel, rfl, by decide +kernel, by decide +kernel⟩
theorem ndpair_of_pattern : (npair_of_pattern : List Str).Nodup := scpair_of_pattern.nd
/-! ### _law_same -/
abbrev sLsame : Stmt := topS 5
abbrev nLsame : List Str := ["told", "due", "k"]
theorem scLsame : FnScope nLsame ["told", "due"] (defScope sLsame) := ⟨rfl, rfl, rfl, by decide +kernel, rfl, by decide +kernel, by decide +kernel⟩
theorem ndLsame : (nLsame : List Str).Nodup := scLsame.nd
/-! ### _law_pair -/
abbrev sLpair : Stmt := topS 13
abbrev nLpair : List Str := ["pattern", "count", "kind", "w", "x", "u", "v", "y", "z"]
theorem scLpair : FnScope nLpair ["pattern", "count"] (defScope sLpair) := ⟨rfl, rfl, rfl, by decide +kernel, rfl, by decide +kernel, by decide +kernel⟩
theorem ndLpair : (nLpair : List Str).Nodup := scLpair.nd
/-! ### _law_slit -/
abbrev sLslit : Stmt := topS 11
abbrev nLslit : List Str := ["k", "word", "row", "different", "j"]
theorem scLslit : FnScope nLslit ["k", "word"] (defScope sLslit) := ⟨rfl, rfl, rfl, by decide +kernel, rfl, by decide +kernel, by decide +kernel⟩
theorem ndLslit : (nLslit : List Str).Nodup := scLslit.nd
/-! ### _law_scattered -/
abbrev sLscattered : Stmt := topS 9
abbrev nLscattered : List Str := ["word", "text", "at", "letter"]
theorem scLscattered : FnScope nLscattered ["word", "text"] (defScope sLscattered) := ⟨rfl, rfl, rfl, by decide +kernel, rfl, by decide +kernel, by decide +kernel⟩
theorem ndLscattered : (nLscattered : List Str).Nodup := scLscattered.nd
/-! ### _law_subwords -/
abbrev sLsubwords : Stmt := topS 12
abbrev nLsubwords : List Str := ["k", "letters", "word", "found", "level", "j", "longer", "begun", "letter"]
theorem scLsubwords : FnScope nLsubwords ["k", "letters", "word"] (defScope sLsubwords) := ⟨rfl, rfl, rfl, by decide +kernel, rfl, by decide +kernel, by decide +kernel⟩
theorem ndLsubwords : (nLsubwords : List Str).Nodup := scLsubwords.nd
/-! ### _law_view -/
abbrev sLview : Stmt := topS 10
abbrev nLview : List Str := ["manner", "k", "letters", "word", "row", "j", "part", "seen", "letter", "x"]
theorem scLview : FnScope nLview ["manner", "k", "letters", "word"] (defScope sLview) := ⟨rfl, rfl, rfl, by decide +kernel, rfl, by decide +kernel, by decide +kernel⟩
theorem ndLview : (nLview : List Str).Nodup := scLview.nd
/-! ### law -/
abbrev slaw : Stmt := topS 16
abbrev nlaw : List Str := ["script", "shape", "letters", "words", "manner", "kind", "pattern", "k", "told", "j"]
theorem sclaw : FnScope nlaw ["script"] (defScope slaw) := ⟨rfl, rfl, rfl, by decide +kernel, rfl, by decide +kernel, by decide +kernel⟩
theorem ndlaw : (nlaw : List Str).Nodup := sclaw.nd
/-! ### the text -/
structure Txt (K : PySem.W.Frag) (mg : Str → Option Value) : Prop where
  d_Lnumber : Def K mg "_law_number" sLnumber
  d_Ldraws : Def K mg "_law_draws" sLdraws
  d_Lword : Def K mg "_law_word" sLword
  d_Lkinds : Def K mg "_law_kinds" sLkinds
  d_Lmade : Def K mg "_law_made" sLmade
  d_ordered_words : Def K mg "ordered_words" sordered_words
  d_made_words : Def K mg "made_words" smade_words
  d_pair_of_pattern : Def K mg "pair_of_pattern" spair_of_pattern
  d_Lsame : Def K mg "_law_same" sLsame
  d_Lpair : Def K mg "_law_pair" sLpair
  d_Lslit : Def K mg "_law_slit" sLslit
  d_Lscattered : Def K mg "_law_scattered" sLscattered
  d_Lsubwords : Def K mg "_law_subwords" sLsubwords
  d_Lview : Def K mg "_law_view" sLview
  d_law : Def K mg "law" slaw
  z_abs : mg "abs" = none
  z_bool : mg "bool" = none
  z_int : mg "int" = none
  z_isinstance : mg "isinstance" = none
  z_len : mg "len" = none
  z_list : mg "list" = none
  z_max : mg "max" = none
  z_min : mg "min" = none
  z_range : mg "range" = none
  z_sorted : mg "sorted" = none
  z_str : mg "str" = none
  z_sum : mg "sum" = none
  z_tuple : mg "tuple" = none
variable {P : Program} {w : World} {K : PySem.W.Frag} {mg : Str → Option Value} {base : Heap}
theorem okLnumber (T : Txt K mg)  : Cal P w K mg base 1 "_law_number" ["script", "k"] MLnumber :=
  cal_of T.d_Lnumber scLnumber (fun _ _ _ _ _ _ us hl => match us, hl with | [_, _], _ => rfl) fun f cdv A outer s H E hr =>
    (pxs_cons (pxs_set 2 (px_op op_addD ok_add (px_op (op_mul.or op_mulS) ok_mul (px_fn (cr_sum rfl) ok_sum T.z_sum (pxa_cons (px_v 0) pxa_nil)) px_int) (px_op (op_mul.or op_mulS) ok_mul px_int (px_op op_addD ok_add (px_v 1) px_int))) ndLnumber)
    (pxs_cons (pxs_if (pxt_cmp op_lt (ok_rel (f := fun i j => decide (i < j))) (px_v 1) (px_fn call_lenA ok_len T.z_len (pxa_cons (px_v 0) pxa_nil)) (nomark _))
    (pxs_one (pxs_set 2 (px_ix (px_v 0) (px_v 1)) ndLnumber))
    pxs_nil)
    (pxs_one (pxs_ret (px_fn call_abs ok_abs T.z_abs (pxa_cons (px_v 2) pxa_nil))))))
theorem okLdraws (T : Txt K mg) (CLnumber : Cal P w K mg base 1 "_law_number" ["script", "k"] MLnumber) : Cal P w K mg base 2 "_law_draws" ["script", "k", "count", "many"] MLdraws :=
  cal_of T.d_Ldraws scLdraws (fun _ _ _ _ _ _ us hl => match us, hl with | [_, _, _, _], _ => rfl) fun f cdv A outer s H E hr =>
    (pxs_cons (pxs_set 4 (px_callC CLnumber hr (by decide) (pxa_cons (px_v 0) (pxa_cons (px_v 1) pxa_nil)) (fun _ _ => (len_cons fun _ => (len_cons fun _ => len_nil)))) ndLdraws)
    (pxs_cons (pxs_setO 5 (pf_lst pxa_nil) ndLdraws)
    (pxs_cons (pxs_if (pxt_cmp op_ge (ok_rel (f := fun i j => decide (j ≤ i))) (px_v 4) (px_op op_pow ok_pow px_int px_int) (nomark _))
    (pxs_cons (pxs_set 4 (px_op op_sub ok_sub (px_v 4) (px_op op_pow ok_pow px_int px_int)) ndLdraws)
    (pxs_cons (pxs_for 6 PassesOwn.never rfl (src_r1 (b' := true) T.z_range (px_v 2))
    (pxs_cons (pxs_app 5 (px_op op_mod ok_mod (px_v 4) (px_v 3)))
    (pxs_one (pxs_set 4 (px_op op_fdiv ok_div (px_v 4) (px_v 3)) ndLdraws))) ndLdraws)
    (pxs_one (pxs_fz 5 (pxs_ret (px_v 5))))))
    pxs_nil)
    (pxs_cons (pxs_set 7 (px_op op_addD ok_add (px_op op_mod ok_mod (px_v 4) px_int) px_int) ndLdraws)
    (pxs_cons (pxs_for 6 PassesOwn.never rfl (src_r1 (b' := true) T.z_range (px_v 2))
    (pxs_cons (pxs_set 7 (px_op op_mod ok_mod (px_op op_addD ok_add (px_op op_addD ok_add (px_op (op_mul.or op_mulS) ok_mul (px_v 7) px_int) (px_op (op_mul.or op_mulS) ok_mul px_int (px_v 6))) px_int) px_int) ndLdraws)
    (pxs_cons (pxs_set 8 (px_op op_mod ok_mod (px_op op_addD ok_add (px_op op_addD ok_add (px_op (op_mul.or op_mulS) ok_mul (px_v 7) (px_v 7)) (px_op (op_mul.or op_mulS) ok_mul px_int (px_v 6))) px_int) px_int) ndLdraws)
    (pxs_one (pxs_app 5 (px_op op_mod ok_mod (px_op op_fdiv ok_div (px_v 8) px_int) (px_v 3)))))) ndLdraws)
    (pxs_one (pxs_fz 5 (pxs_ret (px_v 5)))))))))
theorem okLword (T : Txt K mg)  : Cal P w K mg base 1 "_law_word" ["picks", "letters"] MLword :=
  cal_of T.d_Lword scLword (fun _ _ _ _ _ _ us hl => match us, hl with | [_, _], _ => rfl) fun f cdv A outer s H E hr =>
    (pxs_one (pxs_ret (px_ms PySem.F.slot_str_join PySem.F.type_str_join mt_join ok_join (px_str []) (pxa_cons (px_lc 2 rfl ndLword (src_any (px_v 0)) (blkOk_by (own := [("pick", 2)]) (N := nLword) (by kernel_rfl)) (fun _ _ _ _ _ => pg_name (i := 2) ndLword rfl (by first | exact Or.inl rfl | exact Or.inr rfl)) (fun _ _ _ _ _ => pxts_nil) (fun _ _ _ _ _ => (px_ix (px_str [97, 98, 99]) (px_op op_mod ok_mod (px_v 2) (px_v 1))))) pxa_nil))))
theorem okLkinds (T : Txt K mg)  : Cal P w K mg base 1 "_law_kinds" ["manner"] MLkinds :=
  cal_of T.d_Lkinds scLkinds (fun _ _ _ _ _ _ us hl => match us, hl with | [_], _ => rfl) fun f cdv A outer s H E hr =>
    (pxs_cons (pxs_if (pxt_cmp (op_eqD hr.units) ok_eq (px_v 0) (px_str [115, 99, 97, 116, 116, 101, 114, 101, 100]) (nomark _))
    (pxs_one (pxs_ret (px_lst (pxa_cons (px_str [114, 105, 103, 104, 116]) (pxa_cons (px_str [108, 101, 102, 116]) pxa_nil)))))
    pxs_nil)
    (pxs_cons (pxs_if (pxt_cmp (op_eqD hr.units) ok_eq (px_v 0) (px_str [115, 108, 105, 116]) (nomark _))
    (pxs_one (pxs_ret (px_lst (pxa_cons (px_str [116, 119, 105, 99, 101]) (pxa_cons (px_str [111, 114, 100, 101, 114]) pxa_nil)))))
    pxs_nil)
    (pxs_cons (pxs_if (pxt_cmp (op_eqD hr.units) ok_eq (px_v 0) (px_str [99, 111, 117, 110, 116, 115]) (nomark _))
    (pxs_one (pxs_ret (px_lst (pxa_cons (px_str [115, 119, 97, 112]) (pxa_cons (px_str [103, 114, 111, 119]) pxa_nil)))))
    pxs_nil)
    (pxs_one (pxs_ret (px_lst (pxa_cons (px_ix (px_lst (pxa_cons (px_str [98, 101, 104, 105, 110, 100]) (pxa_cons (px_str [97, 104, 101, 97, 100]) (pxa_cons (px_str [98, 101, 116, 119, 101, 101, 110]) (pxa_cons (px_str [114, 105, 103, 104, 116]) (pxa_cons (px_str [108, 101, 102, 116]) pxa_nil)))))) (px_li (b' := true) (px_lst (pxa_cons (px_str [108, 97, 115, 116]) (pxa_cons (px_str [102, 105, 114, 115, 116]) (pxa_cons (px_str [101, 110, 100, 115]) (pxa_cons (px_str [114, 105, 115, 105, 110, 103]) (pxa_cons (px_str [102, 97, 108, 108, 105, 110, 103]) pxa_nil)))))) (pxa_cons (px_v 0) pxa_nil))) pxa_nil)))))))
theorem okLmade (T : Txt K mg)  : Cal P w K mg base 1 "_law_made" ["kind", "words"] MLmade :=
  cal_of T.d_Lmade scLmade (fun _ _ _ _ _ _ us hl => match us, hl with | [_, _], _ => rfl) fun f cdv A outer s H E hr =>
    (pxs_cons (pxs_set 2 (px_ix (px_v 1) px_int) ndLmade)
    (pxs_cons (pxs_if (PXW.pt (pxw_or (PXW.pt (pxw_and (pxt_cmp (op_notInX (u65 hr)) ok_notInS (px_v 0) (px_tup (pxa_cons (px_str [114, 105, 103, 104, 116]) (pxa_cons (px_str [108, 101, 102, 116]) pxa_nil))) (by rfl)) (pxw_and1 (pxt_cmp (op_eqD hr.units) ok_eq (px_v 2) (px_str []) (nomark _))))) (pxw_or1 (pxt_cmp (op_eqD hr.units) ok_eq (px_op op_addD ok_add (px_v 2) (px_ix (px_v 1) px_int)) (px_str []) (nomark _)))))
    (pxs_one (pxs_set 2 (px_str [97]) ndLmade))
    pxs_nil)
    (pxs_cons (pxs_if (pxt_cmp (op_eqD hr.units) ok_eq (px_v 0) (px_str [111, 114, 100, 101, 114]) (nomark _))
    (pxs_one (pxs_ret (px_tup (pxa_cons (px_v 0) (pxa_cons (px_tup (pxa_cons (px_ix (px_v 1) px_int) (pxa_cons (px_v 2) (pxa_cons (px_ix (px_v 1) px_int) (pxa_cons (px_ix (px_v 1) px_int) (pxa_cons (px_ix (px_v 1) px_int) pxa_nil)))))) pxa_nil)))))
    pxs_nil)
    (pxs_cons (pxs_if (pxt_cmp (op_eqD hr.units) ok_eq (px_v 0) (px_str [103, 114, 111, 119]) (nomark _))
    (pxs_one (pxs_ret (px_tup (pxa_cons (px_v 0) (pxa_cons (px_tup (pxa_cons (px_ix (px_v 1) px_int) (pxa_cons (px_op (op_mul.or op_mulS) ok_mul (px_sl (px_v 2) pxo_no (pxo_some px_int)) (px_op op_addD ok_add px_int (px_fn call_lenA ok_len T.z_len (pxa_cons (px_ix (px_v 1) px_int) pxa_nil)))) (pxa_cons (px_sl (px_v 2) pxo_no (pxo_some px_int)) (pxa_cons (px_ix (px_v 1) px_int) pxa_nil))))) pxa_nil)))))
    pxs_nil)
    (pxs_one (pxs_ret (px_tup (pxa_cons (px_v 0) (pxa_cons (px_tup (pxa_cons (px_ix (px_v 1) px_int) (pxa_cons (px_v 2) (pxa_cons (px_ix (px_v 1) px_int) (pxa_cons (px_ix (px_v 1) px_int) pxa_nil))))) pxa_nil)))))))))
theorem okordered_words (T : Txt K mg)  : Cal P w K mg base 1 "ordered_words" ["words", "count"] Mordered_words :=
  cal_of T.d_ordered_words scordered_words (fun _ _ _ _ _ _ us hl => match us, hl with | [_, _], _ => rfl) fun f cdv A outer s H E hr =>
    (pxs_cons (pxs_tup [2, 3, 4, 5, 6] (px_v 0) (by rfl) (pgs_cons (pg_name (i := 2) ndordered_words rfl (Or.inl rfl)) (pgs_cons (pg_name (i := 3) ndordered_words rfl (Or.inl rfl)) (pgs_cons (pg_name (i := 4) ndordered_words rfl (Or.inl rfl)) (pgs_cons (pg_name (i := 5) ndordered_words rfl (Or.inl rfl)) (pgs_cons (pg_name (i := 6) ndordered_words rfl (Or.inl rfl)) pgs_nil))))))
    (pxs_cons (pxs_set 7 (px_op op_addD ok_add (px_op op_addD ok_add (px_op op_addD ok_add (px_op op_addD ok_add (px_op op_addD ok_add (px_op op_addD ok_add (px_v 2) (px_op (op_mul.or op_mulS) ok_mul (px_v 3) (px_v 1))) (px_v 4)) (px_op (op_mul.or op_mulS) ok_mul (px_v 3) (px_v 1))) (px_v 5)) (px_op (op_mul.or op_mulS) ok_mul (px_v 3) (px_v 1))) (px_v 6)) ndordered_words)
    (pxs_one (pxs_ret (px_tup (pxa_cons (px_v 7) (pxa_cons (px_op op_addD ok_add (px_op op_addD ok_add (px_op op_addD ok_add (px_op op_addD ok_add (px_op op_addD ok_add (px_op op_addD ok_add (px_v 2) (px_op (op_mul.or op_mulS) ok_mul (px_v 3) (px_v 1))) (px_v 5)) (px_op (op_mul.or op_mulS) ok_mul (px_v 3) (px_v 1))) (px_v 4)) (px_op (op_mul.or op_mulS) ok_mul (px_v 3) (px_v 1))) (px_v 6)) pxa_nil)))))))
theorem okmade_words (T : Txt K mg) (Cordered_words : Cal P w K mg base 1 "ordered_words" ["words", "count"] Mordered_words) : Cal P w K mg base 2 "made_words" ["kind", "words", "count"] Mmade_words :=
  cal_of T.d_made_words scmade_words (fun _ _ _ _ _ _ us hl => match us, hl with | [_, _, _], _ => rfl) fun f cdv A outer s H E hr =>
    (pxs_cons (pxs_set 3 (px_ix (px_v 1) px_int) ndmade_words)
    (pxs_cons (pxs_set 4 (px_ix (px_v 1) (px_op op_sub ok_sub (px_fn call_lenA ok_len T.z_len (pxa_cons (px_v 1) pxa_nil)) px_int)) ndmade_words)
    (pxs_cons (pxs_set 5 (px_ix (px_v 1) px_int) ndmade_words)
    (pxs_cons (pxs_set 6 (px_ix (px_v 1) px_int) ndmade_words)
    (pxs_cons (pxs_if (pxt_cmp (op_eqD hr.units) ok_eq (px_v 0) (px_str [98, 101, 104, 105, 110, 100]) (nomark _))
    (pxs_one (pxs_ret (px_tup (pxa_cons (px_op op_addD ok_add (px_op op_addD ok_add (px_v 3) (px_op (op_mul.or op_mulS) ok_mul (px_v 5) (px_v 2))) (px_v 4)) (pxa_cons (px_op op_addD ok_add (px_op op_addD ok_add (px_v 6) (px_op (op_mul.or op_mulS) ok_mul (px_v 5) (px_v 2))) (px_v 4)) pxa_nil)))))
    pxs_nil)
    (pxs_cons (pxs_if (pxt_cmp (op_eqD hr.units) ok_eq (px_v 0) (px_str [97, 104, 101, 97, 100]) (nomark _))
    (pxs_one (pxs_ret (px_tup (pxa_cons (px_op op_addD ok_add (px_op op_addD ok_add (px_v 3) (px_op (op_mul.or op_mulS) ok_mul (px_v 5) (px_v 2))) (px_v 6)) (pxa_cons (px_op op_addD ok_add (px_op op_addD ok_add (px_v 3) (px_op (op_mul.or op_mulS) ok_mul (px_v 5) (px_v 2))) (px_v 4)) pxa_nil)))))
    pxs_nil)
    (pxs_cons (pxs_if (pxt_cmp (op_eqD hr.units) ok_eq (px_v 0) (px_str [98, 101, 116, 119, 101, 101, 110]) (nomark _))
    (pxs_one (pxs_ret (px_tup (pxa_cons (px_op op_addD ok_add (px_op op_addD ok_add (px_op op_addD ok_add (px_op op_addD ok_add (px_v 3) (px_op (op_mul.or op_mulS) ok_mul (px_v 5) (px_v 2))) (px_v 6)) (px_op (op_mul.or op_mulS) ok_mul (px_v 5) (px_v 2))) (px_v 4)) (pxa_cons (px_op op_addD ok_add (px_op op_addD ok_add (px_v 3) (px_op (op_mul.or op_mulS) ok_mul (px_v 5) (px_v 2))) (px_v 4)) pxa_nil)))))
    pxs_nil)
    (pxs_cons (pxs_if (pxt_cmp (op_eqD hr.units) ok_eq (px_v 0) (px_str [116, 119, 105, 99, 101]) (nomark _))
    (pxs_one (pxs_ret (px_tup (pxa_cons (px_op op_addD ok_add (px_op op_addD ok_add (px_op op_addD ok_add (px_op op_addD ok_add (px_v 3) (px_op (op_mul.or op_mulS) ok_mul (px_v 5) (px_v 2))) (px_v 6)) (px_op (op_mul.or op_mulS) ok_mul (px_v 5) (px_v 2))) (px_v 4)) (pxa_cons (px_op op_addD ok_add (px_op op_addD ok_add (px_op op_addD ok_add (px_op op_addD ok_add (px_op op_addD ok_add (px_op op_addD ok_add (px_v 3) (px_op (op_mul.or op_mulS) ok_mul (px_v 5) (px_v 2))) (px_v 6)) (px_op (op_mul.or op_mulS) ok_mul (px_v 5) (px_v 2))) (px_v 6)) (px_op (op_mul.or op_mulS) ok_mul (px_v 5) (px_v 2))) (px_v 4)) pxa_nil)))))
    pxs_nil)
    (pxs_cons (pxs_if (pxt_cmp (op_eqD hr.units) ok_eq (px_v 0) (px_str [111, 114, 100, 101, 114]) (nomark _))
    (pxs_one (pxs_ret (px_callC Cordered_words hr (by decide) (pxa_cons (px_v 1) (pxa_cons (px_v 2) pxa_nil)) (fun _ _ => (len_cons fun _ => (len_cons fun _ => len_nil))))))
    pxs_nil)
    (pxs_cons (pxs_if (pxt_cmp (op_eqD hr.units) ok_eq (px_v 0) (px_str [114, 105, 103, 104, 116]) (nomark _))
    (pxs_one (pxs_ret (px_tup (pxa_cons (px_op op_addD ok_add (px_op op_addD ok_add (px_v 3) (px_op (op_mul.or op_mulS) ok_mul (px_op op_addD ok_add (px_v 5) (px_v 6)) (px_v 2))) (px_v 4)) (pxa_cons (px_op op_addD ok_add (px_op op_addD ok_add (px_op op_addD ok_add (px_v 3) (px_op (op_mul.or op_mulS) ok_mul (px_op op_addD ok_add (px_v 5) (px_v 6)) (px_v 2))) (px_v 5)) (px_v 4)) pxa_nil)))))
    pxs_nil)
    (pxs_cons (pxs_if (pxt_cmp (op_eqD hr.units) ok_eq (px_v 0) (px_str [108, 101, 102, 116]) (nomark _))
    (pxs_one (pxs_ret (px_tup (pxa_cons (px_op op_addD ok_add (px_op op_addD ok_add (px_v 3) (px_op (op_mul.or op_mulS) ok_mul (px_op op_addD ok_add (px_v 5) (px_v 6)) (px_v 2))) (px_v 4)) (pxa_cons (px_op op_addD ok_add (px_op op_addD ok_add (px_op op_addD ok_add (px_v 3) (px_v 6)) (px_op (op_mul.or op_mulS) ok_mul (px_op op_addD ok_add (px_v 5) (px_v 6)) (px_v 2))) (px_v 4)) pxa_nil)))))
    pxs_nil)
    (pxs_cons (pxs_if (pxt_cmp (op_eqD hr.units) ok_eq (px_v 0) (px_str [115, 119, 97, 112]) (nomark _))
    (pxs_one (pxs_ret (px_tup (pxa_cons (px_op op_addD ok_add (px_op op_addD ok_add (px_op op_addD ok_add (px_v 3) (px_v 5)) (px_v 6)) (px_v 4)) (pxa_cons (px_op op_addD ok_add (px_op op_addD ok_add (px_op op_addD ok_add (px_v 3) (px_v 6)) (px_v 5)) (px_v 4)) pxa_nil)))))
    pxs_nil)
    (pxs_one (pxs_ret (px_tup (pxa_cons (px_op op_addD ok_add (px_op op_addD ok_add (px_v 3) (px_op (op_mul.or op_mulS) ok_mul (px_v 5) (px_v 2))) (px_v 4)) (pxa_cons (px_op op_addD ok_add (px_op op_addD ok_add (px_op op_addD ok_add (px_v 3) (px_op (op_mul.or op_mulS) ok_mul (px_v 5) (px_v 2))) (px_v 6)) (px_v 4)) pxa_nil)))))))))))))))))
theorem okpair_of_pattern (T : Txt K mg) (Cmade_words : Cal P w K mg base 2 "made_words" ["kind", "words", "count"] Mmade_words) : Cal P w K mg base 3 "pair_of_pattern" ["manner", "k", "paper"] Mpair_of_pattern :=
  cal_of T.d_pair_of_pattern scpair_of_pattern (fun _ _ _ _ _ _ us hl => match us, hl with | [_, _, _], _ => rfl) fun f cdv A outer s H E hr =>
    (pxs_one (pxs_ret (px_callC Cmade_words hr (by decide) (pxa_cons (px_ix (px_v 2) px_int) (pxa_cons (px_ix (px_v 2) px_int) (pxa_cons (px_op op_addD ok_add (px_v 1) px_int) pxa_nil))) (fun _ _ => (len_cons fun _ => (len_cons fun _ => (len_cons fun _ => len_nil)))))))
theorem okLsameN (T : Txt K mg)  : ∀ n, Cal P w K mg base (0 + n) "_law_same" ["told", "due"] (MLsameN n)
  | 0 => cal_stuck T.d_Lsame (fun _ _ _ _ _ _ us hl => match us, hl with | [_, _], _ => rfl)
  | n + 1 => by
    have CLsame := okLsameN T  n
    exact cal_of T.d_Lsame scLsame (fun _ _ _ _ _ _ us hl => match us, hl with | [_, _], _ => rfl) fun f cdv A outer s H E hr =>
    (pxs_cons (pxs_if (PXW.pt (pxw_or (pxt_truth (px_is .bool (px_v 1) T.z_isinstance T.z_bool)) (pxw_or1 (pxt_truth (px_is .bool (px_v 0) T.z_isinstance T.z_bool)))))
    (pxs_one (pxs_ret (px_and (px_is .bool (px_v 1) T.z_isinstance T.z_bool) (px_and (px_is .bool (px_v 0) T.z_isinstance T.z_bool) (px_one (px_cmp (op_eqD hr.units) ok_eq (px_v 0) (px_v 1) (nomark _)))))))
    pxs_nil)
    (pxs_cons (pxs_if (PXW.pt (pxw_or (pxt_cmp op_isN ok_is (px_v 1) px_non (nomark _)) (pxw_or1 (pxt_truth (px_is .int (px_v 1) T.z_isinstance T.z_int)))))
    (pxs_one (pxs_ret (px_and (px_cmp (op_eqD hr.units) ok_eq (px_v 0) (px_v 1) (nomark _)) (px_one (px_or (px_cmp op_isN ok_is (px_v 1) px_non (nomark _)) (px_one (px_is .int (px_v 0) T.z_isinstance T.z_int)))))))
    pxs_nil)
    (pxs_cons (pxs_if (pxt_truth (px_is .str (px_v 1) T.z_isinstance T.z_str))
    (pxs_one (pxs_ret (px_and (px_is .str (px_v 0) T.z_isinstance T.z_str) (px_one (px_cmp (op_eqD hr.units) ok_eq (px_v 0) (px_v 1) (nomark _))))))
    pxs_nil)
    (pxs_cons (pxs_if (PXW.pt (pxw_or (pxt_cmp (op_neD hr.units) ok_ne (px_is .list (px_v 1) T.z_isinstance T.z_list) (px_is .list (px_v 0) T.z_isinstance T.z_list) (nomark _)) (pxw_or1 (pxt_cmp (op_neD hr.units) ok_ne (px_is .tuple (px_v 1) T.z_isinstance T.z_tuple) (px_is .tuple (px_v 0) T.z_isinstance T.z_tuple) (nomark _)))))
    (pxs_one (pxs_ret px_bl))
    pxs_nil)
    (pxs_cons (pxs_if (pxt_cmp (op_neD hr.units) ok_ne (px_fn call_lenA ok_len T.z_len (pxa_cons (px_v 0) pxa_nil)) (px_fn call_lenA ok_len T.z_len (pxa_cons (px_v 1) pxa_nil)) (nomark _))
    (pxs_one (pxs_ret px_bl))
    pxs_nil)
    (pxs_cons (pxs_for 2 PassesOwn.never rfl (src_r1 (b' := true) T.z_range (px_fn call_lenA ok_len T.z_len (pxa_cons (px_v 1) pxa_nil)))
    (pxs_one (pxs_if (pxt_not (pxt_truth (px_callC CLsame hr (Nat.le_refl _) (pxa_cons (px_ix (px_v 0) (px_v 2)) (pxa_cons (px_ix (px_v 1) (px_v 2)) pxa_nil)) (fun _ _ => (len_cons fun _ => (len_cons fun _ => len_nil))))))
    (pxs_one (pxs_ret px_bl))
    pxs_nil)) ndLsame)
    (pxs_one (pxs_ret px_bl))))))))
theorem okLsame (T : Txt K mg)  : Cal P w K mg base 64 "_law_same" ["told", "due"] MLsame := okLsameN T  64
theorem okLpair (T : Txt K mg)  : Cal P w K mg base 1 "_law_pair" ["pattern", "count"] MLpair :=
  cal_of T.d_Lpair scLpair (fun _ _ _ _ _ _ us hl => match us, hl with | [_, _], _ => rfl) fun f cdv A outer s H E hr =>
    (pxs_cons (pxs_set 2 (px_ix (px_v 0) px_int) ndLpair)
    (pxs_cons (pxs_set 3 (px_ix (px_v 0) px_int) ndLpair)
    (pxs_cons (pxs_set 4 (px_ix (px_v 3) px_int) ndLpair)
    (pxs_cons (pxs_set 5 (px_ix (px_v 3) px_int) ndLpair)
    (pxs_cons (pxs_set 6 (px_ix (px_v 3) px_int) ndLpair)
    (pxs_cons (pxs_set 7 (px_ix (px_v 3) (px_op op_sub ok_sub (px_fn call_lenA ok_len T.z_len (pxa_cons (px_v 3) pxa_nil)) px_int)) ndLpair)
    (pxs_cons (pxs_if (pxt_cmp (op_eqD hr.units) ok_eq (px_v 2) (px_str [98, 101, 104, 105, 110, 100]) (nomark _))
    (pxs_one (pxs_ret (px_tup (pxa_cons (px_op op_addD ok_add (px_op op_addD ok_add (px_v 4) (px_op (op_mul.or op_mulS) ok_mul (px_v 5) (px_v 1))) (px_v 7)) (pxa_cons (px_op op_addD ok_add (px_op op_addD ok_add (px_v 6) (px_op (op_mul.or op_mulS) ok_mul (px_v 5) (px_v 1))) (px_v 7)) pxa_nil)))))
    pxs_nil)
    (pxs_cons (pxs_if (pxt_cmp (op_eqD hr.units) ok_eq (px_v 2) (px_str [97, 104, 101, 97, 100]) (nomark _))
    (pxs_one (pxs_ret (px_tup (pxa_cons (px_op op_addD ok_add (px_op op_addD ok_add (px_v 4) (px_op (op_mul.or op_mulS) ok_mul (px_v 5) (px_v 1))) (px_v 6)) (pxa_cons (px_op op_addD ok_add (px_op op_addD ok_add (px_v 4) (px_op (op_mul.or op_mulS) ok_mul (px_v 5) (px_v 1))) (px_v 7)) pxa_nil)))))
    pxs_nil)
    (pxs_cons (pxs_if (pxt_cmp (op_eqD hr.units) ok_eq (px_v 2) (px_str [98, 101, 116, 119, 101, 101, 110]) (nomark _))
    (pxs_one (pxs_ret (px_tup (pxa_cons (px_op op_addD ok_add (px_op op_addD ok_add (px_op op_addD ok_add (px_op op_addD ok_add (px_v 4) (px_op (op_mul.or op_mulS) ok_mul (px_v 5) (px_v 1))) (px_v 6)) (px_op (op_mul.or op_mulS) ok_mul (px_v 5) (px_v 1))) (px_v 7)) (pxa_cons (px_op op_addD ok_add (px_op op_addD ok_add (px_v 4) (px_op (op_mul.or op_mulS) ok_mul (px_v 5) (px_v 1))) (px_v 7)) pxa_nil)))))
    pxs_nil)
    (pxs_cons (pxs_if (pxt_cmp (op_eqD hr.units) ok_eq (px_v 2) (px_str [116, 119, 105, 99, 101]) (nomark _))
    (pxs_one (pxs_ret (px_tup (pxa_cons (px_op op_addD ok_add (px_op op_addD ok_add (px_op op_addD ok_add (px_op op_addD ok_add (px_v 4) (px_op (op_mul.or op_mulS) ok_mul (px_v 5) (px_v 1))) (px_v 6)) (px_op (op_mul.or op_mulS) ok_mul (px_v 5) (px_v 1))) (px_v 7)) (pxa_cons (px_op op_addD ok_add (px_op op_addD ok_add (px_op op_addD ok_add (px_op op_addD ok_add (px_op op_addD ok_add (px_op op_addD ok_add (px_v 4) (px_op (op_mul.or op_mulS) ok_mul (px_v 5) (px_v 1))) (px_v 6)) (px_op (op_mul.or op_mulS) ok_mul (px_v 5) (px_v 1))) (px_v 6)) (px_op (op_mul.or op_mulS) ok_mul (px_v 5) (px_v 1))) (px_v 7)) pxa_nil)))))
    pxs_nil)
    (pxs_cons (pxs_if (pxt_cmp (op_eqD hr.units) ok_eq (px_v 2) (px_str [111, 114, 100, 101, 114]) (nomark _))
    (pxs_cons (pxs_set 8 (px_ix (px_v 3) px_int) ndLpair)
    (pxs_one (pxs_ret (px_tup (pxa_cons (px_op op_addD ok_add (px_op op_addD ok_add (px_op op_addD ok_add (px_op op_addD ok_add (px_op op_addD ok_add (px_op op_addD ok_add (px_v 4) (px_op (op_mul.or op_mulS) ok_mul (px_v 5) (px_v 1))) (px_v 6)) (px_op (op_mul.or op_mulS) ok_mul (px_v 5) (px_v 1))) (px_v 8)) (px_op (op_mul.or op_mulS) ok_mul (px_v 5) (px_v 1))) (px_v 7)) (pxa_cons (px_op op_addD ok_add (px_op op_addD ok_add (px_op op_addD ok_add (px_op op_addD ok_add (px_op op_addD ok_add (px_op op_addD ok_add (px_v 4) (px_op (op_mul.or op_mulS) ok_mul (px_v 5) (px_v 1))) (px_v 8)) (px_op (op_mul.or op_mulS) ok_mul (px_v 5) (px_v 1))) (px_v 6)) (px_op (op_mul.or op_mulS) ok_mul (px_v 5) (px_v 1))) (px_v 7)) pxa_nil))))))
    pxs_nil)
    (pxs_cons (pxs_if (pxt_cmp (op_eqD hr.units) ok_eq (px_v 2) (px_str [114, 105, 103, 104, 116]) (nomark _))
    (pxs_one (pxs_ret (px_tup (pxa_cons (px_op op_addD ok_add (px_op op_addD ok_add (px_v 4) (px_op (op_mul.or op_mulS) ok_mul (px_op op_addD ok_add (px_v 5) (px_v 6)) (px_v 1))) (px_v 7)) (pxa_cons (px_op op_addD ok_add (px_op op_addD ok_add (px_op op_addD ok_add (px_v 4) (px_op (op_mul.or op_mulS) ok_mul (px_op op_addD ok_add (px_v 5) (px_v 6)) (px_v 1))) (px_v 5)) (px_v 7)) pxa_nil)))))
    pxs_nil)
    (pxs_cons (pxs_if (pxt_cmp (op_eqD hr.units) ok_eq (px_v 2) (px_str [108, 101, 102, 116]) (nomark _))
    (pxs_one (pxs_ret (px_tup (pxa_cons (px_op op_addD ok_add (px_op op_addD ok_add (px_v 4) (px_op (op_mul.or op_mulS) ok_mul (px_op op_addD ok_add (px_v 5) (px_v 6)) (px_v 1))) (px_v 7)) (pxa_cons (px_op op_addD ok_add (px_op op_addD ok_add (px_op op_addD ok_add (px_v 4) (px_v 6)) (px_op (op_mul.or op_mulS) ok_mul (px_op op_addD ok_add (px_v 5) (px_v 6)) (px_v 1))) (px_v 7)) pxa_nil)))))
    pxs_nil)
    (pxs_cons (pxs_if (pxt_cmp (op_eqD hr.units) ok_eq (px_v 2) (px_str [115, 119, 97, 112]) (nomark _))
    (pxs_one (pxs_ret (px_tup (pxa_cons (px_op op_addD ok_add (px_op op_addD ok_add (px_op op_addD ok_add (px_v 4) (px_v 5)) (px_v 6)) (px_v 7)) (pxa_cons (px_op op_addD ok_add (px_op op_addD ok_add (px_op op_addD ok_add (px_v 4) (px_v 6)) (px_v 5)) (px_v 7)) pxa_nil)))))
    pxs_nil)
    (pxs_one (pxs_ret (px_tup (pxa_cons (px_op op_addD ok_add (px_op op_addD ok_add (px_v 4) (px_op (op_mul.or op_mulS) ok_mul (px_v 5) (px_v 1))) (px_v 7)) (pxa_cons (px_op op_addD ok_add (px_op op_addD ok_add (px_op op_addD ok_add (px_v 4) (px_op (op_mul.or op_mulS) ok_mul (px_v 5) (px_v 1))) (px_v 6)) (px_v 7)) pxa_nil)))))))))))))))))))
theorem okLslit (T : Txt K mg)  : Cal P w K mg base 1 "_law_slit" ["k", "word"] MLslit :=
  cal_of T.d_Lslit scLslit (fun _ _ _ _ _ _ us hl => match us, hl with | [_, _], _ => rfl) fun f cdv A outer s H E hr =>
    (pxs_cons (pxs_if (pxt_cmp (op_eqD hr.units) ok_eq (px_v 0) px_int (nomark _))
    (pxs_one (pxs_ret (px_str [])))
    pxs_nil)
    (pxs_cons (pxs_if (pxt_cmp op_lt (ok_rel (f := fun i j => decide (i < j))) (px_fn call_lenA ok_len T.z_len (pxa_cons (px_v 1) pxa_nil)) (px_v 0) (nomark _))
    (pxs_one (pxs_ret (px_v 1)))
    pxs_nil)
    (pxs_cons (pxs_set 2 (px_lc 4 rfl ndLslit (src_r1 (b' := true) T.z_range (px_op op_addD ok_add (px_op op_sub ok_sub (px_fn call_lenA ok_len T.z_len (pxa_cons (px_v 1) pxa_nil)) (px_v 0)) px_int)) (blkOk_by (own := [("j", 4)]) (N := nLslit) (by kernel_rfl)) (fun _ _ _ _ _ => pg_name (i := 4) ndLslit rfl (by first | exact Or.inl rfl | exact Or.inr rfl)) (fun _ _ _ _ _ => pxts_nil) (fun _ _ _ _ _ => (px_sl (px_v 1) (pxo_some (px_v 4)) (pxo_some (px_op op_addD ok_add (px_v 4) (px_v 0)))))) ndLslit)
    (pxs_cons (pxs_setLc 3 4 rfl ndLslit (sw_true rfl rfl rfl (by decide +kernel)) (src_r1 (b' := true) T.z_range (px_fn call_lenA ok_len T.z_len (pxa_cons (px_v 2) pxa_nil))) (blkOk_by (own := [("j", 4)]) (N := nLslit) (by kernel_rfl)) (fun _ _ _ _ _ => pg_name (i := 4) ndLslit rfl (by first | exact Or.inl rfl | exact Or.inr rfl)) (fun _ _ _ _ _ => (pxts_one (pxt_cmp (op_notInX (u65 hr)) ok_notInS (px_ix (px_v 2) (px_v 4)) (px_sl (px_v 2) pxo_no (pxo_some (px_v 4))) (by rfl)))) (fun _ _ _ _ _ => (px_ix (px_v 2) (px_v 4))))
    (pxs_one (pxs_ret (px_tup (pxa_cons (px_sl (px_v 1) pxo_no (pxo_some (px_op op_sub ok_sub (px_v 0) px_int))) (pxa_cons (px_sl (px_v 1) (pxo_some (px_op op_addD ok_add (px_op op_sub ok_sub (px_fn call_lenA ok_len T.z_len (pxa_cons (px_v 1) pxa_nil)) (px_v 0)) px_int)) pxo_no) (pxa_cons (px_ty call_tuple_of ok_tuple T.z_tuple (pxa_cons (px_fn cr_sortedS ok_sortS T.z_sorted (pxa_cons (px_v 3) pxa_nil)) pxa_nil)) pxa_nil))))))))))
theorem okLscattered (T : Txt K mg)  : Cal P w K mg base 1 "_law_scattered" ["word", "text"] MLscattered :=
  cal_of T.d_Lscattered scLscattered (fun _ _ _ _ _ _ us hl => match us, hl with | [_, _], _ => rfl) fun f cdv A outer s H E hr =>
    (pxs_cons (pxs_set 2 px_int ndLscattered)
    (pxs_cons (pxs_for 3 PassesOwn.never rfl (src_any (px_v 1))
    (pxs_one (pxs_if (PXW.pt (pxw_and (pxt_cmp op_lt (ok_rel (f := fun i j => decide (i < j))) (px_v 2) (px_fn call_lenA ok_len T.z_len (pxa_cons (px_v 0) pxa_nil)) (nomark _)) (pxw_and1 (pxt_cmp (op_eqD hr.units) ok_eq (px_ix (px_v 0) (px_v 2)) (px_v 3) (nomark _)))))
    (pxs_one (pxs_set 2 (px_op op_addD ok_add (px_v 2) px_int) ndLscattered))
    pxs_nil)) ndLscattered)
    (pxs_one (pxs_ret (px_cmp (op_eqD hr.units) ok_eq (px_v 2) (px_fn call_lenA ok_len T.z_len (pxa_cons (px_v 0) pxa_nil)) (nomark _))))))
theorem okLsubwords (T : Txt K mg) (CLscattered : Cal P w K mg base 1 "_law_scattered" ["word", "text"] MLscattered) : Cal P w K mg base 2 "_law_subwords" ["k", "letters", "word"] MLsubwords :=
  cal_of T.d_Lsubwords scLsubwords (fun _ _ _ _ _ _ us hl => match us, hl with | [_, _, _], _ => rfl) fun f cdv A outer s H E hr =>
    (pxs_cons (pxs_set 3 (px_lst (pxa_cons (px_str []) pxa_nil)) ndLsubwords)
    (pxs_cons (pxs_set 4 (px_lst (pxa_cons (px_str []) pxa_nil)) ndLsubwords)
    (pxs_cons (pxs_for 5 PassesOwn.never rfl (src_r1 (b' := true) T.z_range (px_fn (call_min2 rfl) ok_min2 T.z_min (pxa_cons (px_v 0) (pxa_cons (px_fn call_lenA ok_len T.z_len (pxa_cons (px_v 2) pxa_nil)) pxa_nil))))
    (pxs_cons (pxs_setO 6 (pf_lst pxa_nil) ndLsubwords)
    (pxs_cons (pxs_for 7 PassesOwn.never rfl (src_any (px_v 4))
    (pxs_one (pxs_for 8 PassesOwn.never rfl (src_any (px_sl (px_str [97, 98, 99]) pxo_no (pxo_some (px_v 1))))
    (pxs_one (pxs_if (pxt_truth (px_callC CLscattered hr (by decide) (pxa_cons (px_op op_addD ok_add (px_v 7) (px_v 8)) (pxa_cons (px_v 2) pxa_nil)) (fun _ _ => (len_cons fun _ => (len_cons fun _ => len_nil)))))
    (pxs_one (pxs_app 6 (px_op op_addD ok_add (px_v 7) (px_v 8))))
    pxs_nil)) ndLsubwords)) ndLsubwords)
    (pxs_cons (pxs_set 3 (px_op op_addD ok_add (px_v 3) (px_l 6)) ndLsubwords)
    (pxs_one (pxs_fz 6 (pxs_set 4 (px_v 6) ndLsubwords)))))) ndLsubwords)
    (pxs_one (pxs_ret (px_ty call_tuple_of ok_tuple T.z_tuple (pxa_cons (px_v 3) pxa_nil)))))))
theorem okLview (T : Txt K mg) (CLslit : Cal P w K mg base 1 "_law_slit" ["k", "word"] MLslit) (CLsubwords : Cal P w K mg base 2 "_law_subwords" ["k", "letters", "word"] MLsubwords) : Cal P w K mg base 3 "_law_view" ["manner", "k", "letters", "word"] MLview :=
  cal_of T.d_Lview scLview (fun _ _ _ _ _ _ us hl => match us, hl with | [_, _, _, _], _ => rfl) fun f cdv A outer s H E hr =>
    (pxs_cons (pxs_if (pxt_cmp (op_eqD hr.units) ok_eq (px_v 0) (px_str [108, 97, 115, 116]) (nomark _))
    (pxs_one (pxs_ret (px_sl (px_v 3) (pxo_some (px_fn (call_max2 rfl) ok_max2 T.z_max (pxa_cons px_int (pxa_cons (px_op op_sub ok_sub (px_fn call_lenA ok_len T.z_len (pxa_cons (px_v 3) pxa_nil)) (px_v 1)) pxa_nil)))) pxo_no)))
    pxs_nil)
    (pxs_cons (pxs_if (pxt_cmp (op_eqD hr.units) ok_eq (px_v 0) (px_str [102, 105, 114, 115, 116]) (nomark _))
    (pxs_one (pxs_ret (px_sl (px_v 3) pxo_no (pxo_some (px_v 1)))))
    pxs_nil)
    (pxs_cons (pxs_if (pxt_cmp (op_eqD hr.units) ok_eq (px_v 0) (px_str [99, 111, 117, 110, 116, 115]) (nomark _))
    (pxs_one (pxs_ret (px_ty call_tuple_of ok_tuple T.z_tuple (pxa_cons (px_lc 8 rfl ndLview (src_any (px_sl (px_str [97, 98, 99]) pxo_no (pxo_some (px_v 2)))) (blkOk_by (own := [("letter", 8)]) (N := nLview) (by kernel_rfl)) (fun _ _ _ _ _ => pg_name (i := 8) ndLview rfl (by first | exact Or.inl rfl | exact Or.inr rfl)) (fun _ _ _ _ _ => pxts_nil) (fun _ _ _ _ _ => (px_fn (call_min2 rfl) ok_min2 T.z_min (pxa_cons (px_v 1) (pxa_cons (px_fn call_lenA ok_len T.z_len (pxa_cons (px_lc 9 rfl ndLview (src_any (px_v 3)) (blkOk_by (own := [("x", 9)]) (N := nLview) (by kernel_rfl)) (fun _ _ _ _ _ => pg_name (i := 9) ndLview rfl (by first | exact Or.inl rfl | exact Or.inr rfl)) (fun _ _ _ _ _ => (pxts_one (pxt_cmp (op_eqD hr.units) ok_eq (px_v 9) (px_v 8) (nomark _)))) (fun _ _ _ _ _ => (px_v 9))) pxa_nil)) pxa_nil))))) pxa_nil))))
    pxs_nil)
    (pxs_cons (pxs_if (pxt_cmp (op_eqD hr.units) ok_eq (px_v 0) (px_str [101, 110, 100, 115]) (nomark _))
    (pxs_cons (pxs_if (pxt_cmp op_lt (ok_rel (f := fun i j => decide (i < j))) (px_fn call_lenA ok_len T.z_len (pxa_cons (px_v 3) pxa_nil)) (px_v 1) (nomark _))
    (pxs_one (pxs_ret (px_v 3)))
    pxs_nil)
    (pxs_one (pxs_ret (px_tup (pxa_cons (px_sl (px_v 3) pxo_no (pxo_some (px_v 1))) (pxa_cons (px_sl (px_v 3) (pxo_some (px_op op_sub ok_sub (px_fn call_lenA ok_len T.z_len (pxa_cons (px_v 3) pxa_nil)) (px_v 1))) pxo_no) pxa_nil))))))
    pxs_nil)
    (pxs_cons (pxs_if (pxt_cmp (op_eqD hr.units) ok_eq (px_v 0) (px_str [115, 108, 105, 116]) (nomark _))
    (pxs_one (pxs_ret (px_callC CLslit hr (by decide) (pxa_cons (px_v 1) (pxa_cons (px_v 3) pxa_nil)) (fun _ _ => (len_cons fun _ => (len_cons fun _ => len_nil))))))
    pxs_nil)
    (pxs_cons (pxs_if (pxt_cmp (op_eqD hr.units) ok_eq (px_v 0) (px_str [115, 99, 97, 116, 116, 101, 114, 101, 100]) (nomark _))
    (pxs_one (pxs_ret (px_callC CLsubwords hr (by decide) (pxa_cons (px_v 1) (pxa_cons (px_v 2) (pxa_cons (px_v 3) pxa_nil))) (fun _ _ => (len_cons fun _ => (len_cons fun _ => (len_cons fun _ => len_nil)))))))
    pxs_nil)
    (pxs_cons (pxs_setO 4 (pf_lst pxa_nil) ndLview)
    (pxs_cons (pxs_for 5 PassesOwn.never rfl (src_r1 (b' := true) T.z_range (px_op op_addD ok_add (px_fn call_lenA ok_len T.z_len (pxa_cons (px_v 3) pxa_nil)) px_int))
    (pxs_cons (pxs_set 6 (px_ix (px_lst (pxa_cons (px_sl (px_v 3) pxo_no (pxo_some (px_v 5))) (pxa_cons (px_sl (px_v 3) (pxo_some (px_op op_sub ok_sub (px_fn call_lenA ok_len T.z_len (pxa_cons (px_v 3) pxa_nil)) (px_v 5))) pxo_no) pxa_nil))) (px_ty call_int1 ok_int T.z_int (pxa_cons (px_cmp (op_eqD hr.units) ok_eq (px_v 0) (px_str [102, 97, 108, 108, 105, 110, 103]) (nomark _)) pxa_nil))) ndLview)
    (pxs_cons (pxs_set 7 (px_callC CLsubwords hr (by decide) (pxa_cons (px_v 1) (pxa_cons (px_v 2) (pxa_cons (px_v 6) pxa_nil))) (fun _ _ => (len_cons fun _ => (len_cons fun _ => (len_cons fun _ => len_nil))))) ndLview)
    (pxs_one (pxs_if (PXW.pt (pxw_or (pxt_cmp (op_eqD hr.units) ok_eq (px_fn call_lenA ok_len T.z_len (pxa_cons (px_l 4) pxa_nil)) px_int (nomark _)) (pxw_or1 (pxt_cmp (op_neD hr.units) ok_ne (px_ixo 4 (px_op op_sub ok_sub (px_fn call_lenA ok_len T.z_len (pxa_cons (px_l 4) pxa_nil)) px_int)) (px_v 7) (nomark _)))))
    (pxs_one (pxs_app 4 (px_v 7)))
    pxs_nil)))) ndLview)
    (pxs_one (pxs_ret (px_ty call_tuple_of ok_tuple T.z_tuple (pxa_cons (px_l 4) pxa_nil))))))))))))
theorem oklaw {f : Addr} {fd : FuncData} (F : Fun K "law" "law" slaw f fd) (T : Txt K mg) (CLdraws : Cal P w K mg base 2 "_law_draws" ["script", "k", "count", "many"] MLdraws) (CLword : Cal P w K mg base 1 "_law_word" ["picks", "letters"] MLword) (CLkinds : Cal P w K mg base 1 "_law_kinds" ["manner"] MLkinds) (CLmade : Cal P w K mg base 1 "_law_made" ["kind", "words"] MLmade) (Cpair_of_pattern : Cal P w K mg base 3 "pair_of_pattern" ["manner", "k", "paper"] Mpair_of_pattern) (CLsame : Cal P w K mg base 64 "_law_same" ["told", "due"] MLsame) (CLpair : Cal P w K mg base 1 "_law_pair" ["pattern", "count"] MLpair) (CLview : Cal P w K mg base 3 "_law_view" ["manner", "k", "letters", "word"] MLview) : FnM P w K mg base 65 f fd ["script"] Mlaw :=
  fnm_of F sclaw fun cdv A outer s H E hr =>
    (pxs_cons (pxs_set 1 (px_callC CLdraws hr (by decide) (pxa_cons (px_v 0) (pxa_cons px_int (pxa_cons px_int (pxa_cons px_int pxa_nil)))) (fun _ _ => (len_cons fun _ => (len_cons fun _ => (len_cons fun _ => (len_cons fun _ => len_nil)))))) ndlaw)
    (pxs_cons (pxs_set 2 (px_op op_addD ok_add px_int (px_op op_mod ok_mod (px_ix (px_v 1) px_int) px_int)) ndlaw)
    (pxs_cons (pxs_setLc 3 9 rfl ndlaw (sw_true rfl rfl rfl (by decide +kernel)) (src_r1 (b' := true) T.z_range px_int) (blkOk_by (own := [("j", 9)]) (N := nlaw) (by kernel_rfl)) (fun _ _ _ _ _ => pg_name (i := 9) ndlaw rfl (by first | exact Or.inl rfl | exact Or.inr rfl)) (fun _ _ _ _ _ => pxts_nil) (fun _ _ _ _ _ => (px_callC CLword hr (by decide) (pxa_cons (px_callC CLdraws hr (by decide) (pxa_cons (px_v 0) (pxa_cons (px_op op_addD ok_add px_int (px_v 9)) (pxa_cons (px_op op_mod ok_mod (px_ix (px_v 1) (px_op op_addD ok_add px_int (px_v 9))) px_int) (pxa_cons px_int pxa_nil)))) (fun _ _ => (len_cons fun _ => (len_cons fun _ => (len_cons fun _ => (len_cons fun _ => len_nil)))))) (pxa_cons (px_v 2) pxa_nil)) (fun _ _ => (len_cons fun _ => (len_cons fun _ => len_nil))))))
    (pxs_cons (pxs_for 4 PassesOwn.never rfl (src_any (px_lst (pxa_cons (px_str [108, 97, 115, 116]) (pxa_cons (px_str [102, 105, 114, 115, 116]) (pxa_cons (px_str [101, 110, 100, 115]) (pxa_cons (px_str [115, 108, 105, 116]) (pxa_cons (px_str [115, 99, 97, 116, 116, 101, 114, 101, 100]) (pxa_cons (px_str [114, 105, 115, 105, 110, 103]) (pxa_cons (px_str [102, 97, 108, 108, 105, 110, 103]) (pxa_cons (px_str [99, 111, 117, 110, 116, 115]) pxa_nil))))))))))
    (pxs_one (pxs_for 5 PassesOwn.never rfl (src_any (px_callC CLkinds hr (by decide) (pxa_cons (px_v 4) pxa_nil) (fun _ _ => (len_cons fun _ => len_nil))))
    (pxs_cons (pxs_set 6 (px_callC CLmade hr (by decide) (pxa_cons (px_v 5) (pxa_cons (px_v 3) pxa_nil)) (fun _ _ => (len_cons fun _ => (len_cons fun _ => len_nil)))) ndlaw)
    (pxs_cons (pxs_if (PXW.pt (pxw_and (pxt_cmp (op_eqD hr.units) ok_eq (px_v 5) (px_str [103, 114, 111, 119]) (nomark _)) (pxw_and1 (pxt_cmp (op_eqD hr.units) ok_eq (px_ix (px_ix (px_v 6) px_int) px_int) (px_str []) (nomark _)))))
    (pxs_one (pxs_ret px_bl))
    pxs_nil)
    (pxs_one (pxs_for 7 PassesOwn.never rfl (src_r1 (b' := true) T.z_range px_int)
    (pxs_cons (pxs_set 8 (px_callC Cpair_of_pattern hr (by decide) (pxa_cons (px_v 4) (pxa_cons (px_v 7) (pxa_cons (px_v 6) pxa_nil))) (fun _ _ => (len_cons fun _ => (len_cons fun _ => (len_cons fun _ => len_nil))))) ndlaw)
    (pxs_cons (pxs_if (pxt_not (pxt_truth (px_callC CLsame hr (by decide) (pxa_cons (px_v 8) (pxa_cons (px_callC CLpair hr (by decide) (pxa_cons (px_v 6) (pxa_cons (px_op op_addD ok_add (px_v 7) px_int) pxa_nil)) (fun _ _ => (len_cons fun _ => (len_cons fun _ => len_nil)))) pxa_nil)) (fun _ _ => (len_cons fun _ => (len_cons fun _ => len_nil))))))
    (pxs_one (pxs_ret px_bl))
    pxs_nil)
    (pxs_one (pxs_if (PXW.pt (pxw_and (pxt_cmp op_lt (ok_rel (f := fun i j => decide (i < j))) (px_v 7) px_int (nomark _)) (pxw_and1 (pxt_cmp (op_neD hr.units) ok_ne (px_callC CLview hr (by decide) (pxa_cons (px_v 4) (pxa_cons (px_v 7) (pxa_cons (px_v 2) (pxa_cons (px_ix (px_v 8) px_int) pxa_nil)))) (fun _ _ => (len_cons fun _ => (len_cons fun _ => (len_cons fun _ => (len_cons fun _ => len_nil)))))) (px_callC CLview hr (by decide) (pxa_cons (px_v 4) (pxa_cons (px_v 7) (pxa_cons (px_v 2) (pxa_cons (px_ix (px_v 8) px_int) pxa_nil)))) (fun _ _ => (len_cons fun _ => (len_cons fun _ => (len_cons fun _ => (len_cons fun _ => len_nil)))))) (nomark _)))))
    (pxs_one (pxs_ret px_bl))
    pxs_nil)))) ndlaw)))) ndlaw)) ndlaw)
    (pxs_one (pxs_ret px_bl))))))
theorem all {f : Addr} {fd : FuncData} (F : Fun K "law" "law" slaw f fd) (T : Txt K mg) : FnM P w K mg base 65 f fd ["script"] Mlaw := by
  have CLnumber := okLnumber (P := P) (w := w) (base := base) T 
  have CLdraws := okLdraws (P := P) (w := w) (base := base) T CLnumber
  have CLword := okLword (P := P) (w := w) (base := base) T 
  have CLkinds := okLkinds (P := P) (w := w) (base := base) T 
  have CLmade := okLmade (P := P) (w := w) (base := base) T 
  have Cordered_words := okordered_words (P := P) (w := w) (base := base) T 
  have Cmade_words := okmade_words (P := P) (w := w) (base := base) T Cordered_words
  have Cpair_of_pattern := okpair_of_pattern (P := P) (w := w) (base := base) T Cmade_words
  have CLsame := okLsame (P := P) (w := w) (base := base) T 
  have CLpair := okLpair (P := P) (w := w) (base := base) T 
  have CLslit := okLslit (P := P) (w := w) (base := base) T 
  have CLscattered := okLscattered (P := P) (w := w) (base := base) T 
  have CLsubwords := okLsubwords (P := P) (w := w) (base := base) T CLscattered
  have CLview := okLview (P := P) (w := w) (base := base) T CLslit CLsubwords
  exact oklaw F T CLdraws CLword CLkinds CLmade Cpair_of_pattern CLsame CLpair CLview
/-- the law, of the script alone -/
def spLaw (K : PySem.W.Frag) : Sp := fun vs H Q _ => ∃ (a : Addr) (ns : List Int), vs = [.ref a] ∧ SqL K H a (ns.map V.int) ∧ ns.length ≤ 63 ∧ Only H ∧ ∀ H', Q (.bl true) H'
theorem all_mk (hm : ∀ ns : List Int, ns.length ≤ 63 → Mlaw [.lst (ns.map D.int)] = .ok (.bl true)) {P : Program} {w : World} {K : PySem.W.Frag} {h : Heap} {mg : Str → Option Value} {fa : Addr} (X : K.In h) (G : h.Ns mainGlobals mg) (hfa : mg "law" = some (.ref fa))
    {f0 : Addr} {od0 an0 : Option Addr} {sl0 : Array (Option Value)} {oc0 kV0 dc0 pm0 cd0 ct0 : Value} {f1 : Addr} {od1 an1 : Option Addr} {sl1 : Array (Option Value)} {oc1 kV1 dc1 pm1 cd1 ct1 : Value} {f2 : Addr} {od2 an2 : Option Addr} {sl2 : Array (Option Value)} {oc2 kV2 dc2 pm2 cd2 ct2 : Value} {f3 : Addr} {od3 an3 : Option Addr} {sl3 : Array (Option Value)} {oc3 kV3 dc3 pm3 cd3 ct3 : Value} {f4 : Addr} {od4 an4 : Option Addr} {sl4 : Array (Option Value)} {oc4 kV4 dc4 pm4 cd4 ct4 : Value} {f5 : Addr} {od5 an5 : Option Addr} {sl5 : Array (Option Value)} {oc5 kV5 dc5 pm5 cd5 ct5 : Value} {f6 : Addr} {od6 an6 : Option Addr} {sl6 : Array (Option Value)} {oc6 kV6 dc6 pm6 cd6 ct6 : Value} {f7 : Addr} {od7 an7 : Option Addr} {sl7 : Array (Option Value)} {oc7 kV7 dc7 pm7 cd7 ct7 : Value} {f8 : Addr} {od8 an8 : Option Addr} {sl8 : Array (Option Value)} {oc8 kV8 dc8 pm8 cd8 ct8 : Value} {f9 : Addr} {od9 an9 : Option Addr} {sl9 : Array (Option Value)} {oc9 kV9 dc9 pm9 cd9 ct9 : Value} {f10 : Addr} {od10 an10 : Option Addr} {sl10 : Array (Option Value)} {oc10 kV10 dc10 pm10 cd10 ct10 : Value} {f11 : Addr} {od11 an11 : Option Addr} {sl11 : Array (Option Value)} {oc11 kV11 dc11 pm11 cd11 ct11 : Value} {f12 : Addr} {od12 an12 : Option Addr} {sl12 : Array (Option Value)} {oc12 kV12 dc12 pm12 cd12 ct12 : Value} {f13 : Addr} {od13 an13 : Option Addr} {sl13 : Array (Option Value)} {oc13 kV13 dc13 pm13 cd13 ct13 : Value} {f14 : Addr} {od14 an14 : Option Addr} {sl14 : Array (Option Value)} {oc14 kV14 dc14 pm14 cd14 ct14 : Value}
    (a0 : PySem.W.nsIn K mainGlobals "_law_number" = some (some (.ref f0))) (l0 : K.lookup f0 = some ⟨oc0, od0, .func (PySem.W.fnOf "_law_number" "_law_number" (defArgs sLnumber) (defBody sLnumber) (defScope sLnumber) .none kV0 dc0 pm0 an0 cd0 ct0), sl0⟩) (c0 : PySem.W.codeIn K cd0 "_law_number" = true) (k0 : PySem.W.keepIn K (.ref f0) = true)
    (a1 : PySem.W.nsIn K mainGlobals "_law_draws" = some (some (.ref f1))) (l1 : K.lookup f1 = some ⟨oc1, od1, .func (PySem.W.fnOf "_law_draws" "_law_draws" (defArgs sLdraws) (defBody sLdraws) (defScope sLdraws) .none kV1 dc1 pm1 an1 cd1 ct1), sl1⟩) (c1 : PySem.W.codeIn K cd1 "_law_draws" = true) (k1 : PySem.W.keepIn K (.ref f1) = true)
    (a2 : PySem.W.nsIn K mainGlobals "_law_word" = some (some (.ref f2))) (l2 : K.lookup f2 = some ⟨oc2, od2, .func (PySem.W.fnOf "_law_word" "_law_word" (defArgs sLword) (defBody sLword) (defScope sLword) .none kV2 dc2 pm2 an2 cd2 ct2), sl2⟩) (c2 : PySem.W.codeIn K cd2 "_law_word" = true) (k2 : PySem.W.keepIn K (.ref f2) = true)
    (a3 : PySem.W.nsIn K mainGlobals "_law_kinds" = some (some (.ref f3))) (l3 : K.lookup f3 = some ⟨oc3, od3, .func (PySem.W.fnOf "_law_kinds" "_law_kinds" (defArgs sLkinds) (defBody sLkinds) (defScope sLkinds) .none kV3 dc3 pm3 an3 cd3 ct3), sl3⟩) (c3 : PySem.W.codeIn K cd3 "_law_kinds" = true) (k3 : PySem.W.keepIn K (.ref f3) = true)
    (a4 : PySem.W.nsIn K mainGlobals "_law_made" = some (some (.ref f4))) (l4 : K.lookup f4 = some ⟨oc4, od4, .func (PySem.W.fnOf "_law_made" "_law_made" (defArgs sLmade) (defBody sLmade) (defScope sLmade) .none kV4 dc4 pm4 an4 cd4 ct4), sl4⟩) (c4 : PySem.W.codeIn K cd4 "_law_made" = true) (k4 : PySem.W.keepIn K (.ref f4) = true)
    (a5 : PySem.W.nsIn K mainGlobals "ordered_words" = some (some (.ref f5))) (l5 : K.lookup f5 = some ⟨oc5, od5, .func (PySem.W.fnOf "ordered_words" "ordered_words" (defArgs sordered_words) (defBody sordered_words) (defScope sordered_words) .none kV5 dc5 pm5 an5 cd5 ct5), sl5⟩) (c5 : PySem.W.codeIn K cd5 "ordered_words" = true) (k5 : PySem.W.keepIn K (.ref f5) = true)
    (a6 : PySem.W.nsIn K mainGlobals "made_words" = some (some (.ref f6))) (l6 : K.lookup f6 = some ⟨oc6, od6, .func (PySem.W.fnOf "made_words" "made_words" (defArgs smade_words) (defBody smade_words) (defScope smade_words) .none kV6 dc6 pm6 an6 cd6 ct6), sl6⟩) (c6 : PySem.W.codeIn K cd6 "made_words" = true) (k6 : PySem.W.keepIn K (.ref f6) = true)
    (a7 : PySem.W.nsIn K mainGlobals "pair_of_pattern" = some (some (.ref f7))) (l7 : K.lookup f7 = some ⟨oc7, od7, .func (PySem.W.fnOf "pair_of_pattern" "pair_of_pattern" (defArgs spair_of_pattern) (defBody spair_of_pattern) (defScope spair_of_pattern) .none kV7 dc7 pm7 an7 cd7 ct7), sl7⟩) (c7 : PySem.W.codeIn K cd7 "pair_of_pattern" = true) (k7 : PySem.W.keepIn K (.ref f7) = true)
    (a8 : PySem.W.nsIn K mainGlobals "_law_same" = some (some (.ref f8))) (l8 : K.lookup f8 = some ⟨oc8, od8, .func (PySem.W.fnOf "_law_same" "_law_same" (defArgs sLsame) (defBody sLsame) (defScope sLsame) .none kV8 dc8 pm8 an8 cd8 ct8), sl8⟩) (c8 : PySem.W.codeIn K cd8 "_law_same" = true) (k8 : PySem.W.keepIn K (.ref f8) = true)
    (a9 : PySem.W.nsIn K mainGlobals "_law_pair" = some (some (.ref f9))) (l9 : K.lookup f9 = some ⟨oc9, od9, .func (PySem.W.fnOf "_law_pair" "_law_pair" (defArgs sLpair) (defBody sLpair) (defScope sLpair) .none kV9 dc9 pm9 an9 cd9 ct9), sl9⟩) (c9 : PySem.W.codeIn K cd9 "_law_pair" = true) (k9 : PySem.W.keepIn K (.ref f9) = true)
    (a10 : PySem.W.nsIn K mainGlobals "_law_slit" = some (some (.ref f10))) (l10 : K.lookup f10 = some ⟨oc10, od10, .func (PySem.W.fnOf "_law_slit" "_law_slit" (defArgs sLslit) (defBody sLslit) (defScope sLslit) .none kV10 dc10 pm10 an10 cd10 ct10), sl10⟩) (c10 : PySem.W.codeIn K cd10 "_law_slit" = true) (k10 : PySem.W.keepIn K (.ref f10) = true)
    (a11 : PySem.W.nsIn K mainGlobals "_law_scattered" = some (some (.ref f11))) (l11 : K.lookup f11 = some ⟨oc11, od11, .func (PySem.W.fnOf "_law_scattered" "_law_scattered" (defArgs sLscattered) (defBody sLscattered) (defScope sLscattered) .none kV11 dc11 pm11 an11 cd11 ct11), sl11⟩) (c11 : PySem.W.codeIn K cd11 "_law_scattered" = true) (k11 : PySem.W.keepIn K (.ref f11) = true)
    (a12 : PySem.W.nsIn K mainGlobals "_law_subwords" = some (some (.ref f12))) (l12 : K.lookup f12 = some ⟨oc12, od12, .func (PySem.W.fnOf "_law_subwords" "_law_subwords" (defArgs sLsubwords) (defBody sLsubwords) (defScope sLsubwords) .none kV12 dc12 pm12 an12 cd12 ct12), sl12⟩) (c12 : PySem.W.codeIn K cd12 "_law_subwords" = true) (k12 : PySem.W.keepIn K (.ref f12) = true)
    (a13 : PySem.W.nsIn K mainGlobals "_law_view" = some (some (.ref f13))) (l13 : K.lookup f13 = some ⟨oc13, od13, .func (PySem.W.fnOf "_law_view" "_law_view" (defArgs sLview) (defBody sLview) (defScope sLview) .none kV13 dc13 pm13 an13 cd13 ct13), sl13⟩) (c13 : PySem.W.codeIn K cd13 "_law_view" = true) (k13 : PySem.W.keepIn K (.ref f13) = true)
    (a14 : PySem.W.nsIn K mainGlobals "law" = some (some (.ref f14))) (l14 : K.lookup f14 = some ⟨oc14, od14, .func (PySem.W.fnOf "law" "law" (defArgs slaw) (defBody slaw) (defScope slaw) .none kV14 dc14 pm14 an14 cd14 ct14), sl14⟩) (c14 : PySem.W.codeIn K cd14 "law" = true) (k14 : PySem.W.keepIn K (.ref f14) = true)
    (z0 : PySem.W.nsIn K mainGlobals "abs" = some none) (z1 : PySem.W.nsIn K mainGlobals "bool" = some none) (z2 : PySem.W.nsIn K mainGlobals "int" = some none) (z3 : PySem.W.nsIn K mainGlobals "isinstance" = some none) (z4 : PySem.W.nsIn K mainGlobals "len" = some none) (z5 : PySem.W.nsIn K mainGlobals "list" = some none) (z6 : PySem.W.nsIn K mainGlobals "max" = some none) (z7 : PySem.W.nsIn K mainGlobals "min" = some none) (z8 : PySem.W.nsIn K mainGlobals "range" = some none) (z9 : PySem.W.nsIn K mainGlobals "sorted" = some none) (z10 : PySem.W.nsIn K mainGlobals "str" = some none) (z11 : PySem.W.nsIn K mainGlobals "sum" = some none) (z12 : PySem.W.nsIn K mainGlobals "tuple" = some none) :
    ∃ fd : FuncData, (∀ (s : Shared) (v : Value), BindsTo s fd ⟨[v], []⟩ [("script", v)]) ∧ ∀ base : Heap, K.In base → base.Ns mainGlobals mg → FnOk P w K mg base CX0 65 fa fd ["script"] (spLaw K) := by
  have e := hfa.symm.trans (PySem.W.mg_of X G a14)
  cases e
  have F := fun_mk (st := slaw) l14 c14 k14
  have T : Txt K mg := ⟨⟨⟨_, _, fun_mk (st := sLnumber) l0 c0 k0, PySem.W.mg_of X G a0⟩⟩, ⟨⟨_, _, fun_mk (st := sLdraws) l1 c1 k1, PySem.W.mg_of X G a1⟩⟩, ⟨⟨_, _, fun_mk (st := sLword) l2 c2 k2, PySem.W.mg_of X G a2⟩⟩, ⟨⟨_, _, fun_mk (st := sLkinds) l3 c3 k3, PySem.W.mg_of X G a3⟩⟩, ⟨⟨_, _, fun_mk (st := sLmade) l4 c4 k4, PySem.W.mg_of X G a4⟩⟩, ⟨⟨_, _, fun_mk (st := sordered_words) l5 c5 k5, PySem.W.mg_of X G a5⟩⟩, ⟨⟨_, _, fun_mk (st := smade_words) l6 c6 k6, PySem.W.mg_of X G a6⟩⟩, ⟨⟨_, _, fun_mk (st := spair_of_pattern) l7 c7 k7, PySem.W.mg_of X G a7⟩⟩, ⟨⟨_, _, fun_mk (st := sLsame) l8 c8 k8, PySem.W.mg_of X G a8⟩⟩, ⟨⟨_, _, fun_mk (st := sLpair) l9 c9 k9, PySem.W.mg_of X G a9⟩⟩, ⟨⟨_, _, fun_mk (st := sLslit) l10 c10 k10, PySem.W.mg_of X G a10⟩⟩, ⟨⟨_, _, fun_mk (st := sLscattered) l11 c11 k11, PySem.W.mg_of X G a11⟩⟩, ⟨⟨_, _, fun_mk (st := sLsubwords) l12 c12 k12, PySem.W.mg_of X G a12⟩⟩, ⟨⟨_, _, fun_mk (st := sLview) l13 c13 k13, PySem.W.mg_of X G a13⟩⟩, ⟨⟨_, _, fun_mk (st := slaw) l14 c14 k14, PySem.W.mg_of X G a14⟩⟩, PySem.W.mg_none_of X G z0, PySem.W.mg_none_of X G z1, PySem.W.mg_none_of X G z2, PySem.W.mg_none_of X G z3, PySem.W.mg_none_of X G z4, PySem.W.mg_none_of X G z5, PySem.W.mg_none_of X G z6, PySem.W.mg_none_of X G z7, PySem.W.mg_none_of X G z8, PySem.W.mg_none_of X G z9, PySem.W.mg_none_of X G z10, PySem.W.mg_none_of X G z11, PySem.W.mg_none_of X G z12⟩
  refine ⟨_, fun s v => .of_eq rfl, fun base _ _ => FnOk.imp (all F T) fun vs H Q E hsp => ?_⟩
  obtain ⟨a, ns, rfl, hS, hl, hO, q⟩ := hsp
  refine ⟨H, [.lst (ns.map D.int)], rfl, Same.refl _, fun _ _ e _ => e, .cons (.lst hS (RpL.ofInt ns)) .nil, ?_⟩
  rw [hm ns hl]
  intro v G' H' _ _ _ _ _ r
  cases r.blH
  exact q H'
end GW

open PySem PySem.W PyProof.Rows
set_option maxHeartbeats 0 in
theorem PySem.Challenge.cw_viewedwords_k23_pairs_of_patterns_holds : PySem.Challenge.rw_viewedwords_k23_pairs_of_patterns.Holds := by
  w_on; o_law; k_head; (case hw => w_witness2)
  k_fill
  refine L2.walk_of (l := PySem.Challenge.rw_viewedwords_k23_pairs_of_patterns) (n := 63) (k := 65) (x := "script") (CX := fun _ => L2.CX0) (sp := fun w => GW.spLaw _) rfl (by decide) rfl ⟨rfl, by decide, by decide⟩ (fun w h Y => PySem.W.kIn_of Y) ?F (fun _ _ a ns hl hO hS => ⟨a, ns, rfl, hS, hl, hO, fun _ => rfl⟩) (fun _ _ _ _ _ h => h)
  case F =>
    intro w mg fa h KX G hmg
    refine' GW.all_mk (fun ns _ => GW.law_ok ns) KX G hmg ?a0 ?l0 ?c0 ?k0 ?a1 ?l1 ?c1 ?k1 ?a2 ?l2 ?c2 ?k2 ?a3 ?l3 ?c3 ?k3 ?a4 ?l4 ?c4 ?k4 ?a5 ?l5 ?c5 ?k5 ?a6 ?l6 ?c6 ?k6 ?a7 ?l7 ?c7 ?k7 ?a8 ?l8 ?c8 ?k8 ?a9 ?l9 ?c9 ?k9 ?a10 ?l10 ?c10 ?k10 ?a11 ?l11 ?c11 ?k11 ?a12 ?l12 ?c12 ?k12 ?a13 ?l13 ?c13 ?k13 ?a14 ?l14 ?c14 ?k14 ?z0 ?z1 ?z2 ?z3 ?z4 ?z5 ?z6 ?z7 ?z8 ?z9 ?z10 ?z11 ?z12
    (case a0 => k_is); (case l0 => k_is); (case c0 => k_is); (case k0 => k_is); (case a1 => k_is); (case l1 => k_is); (case c1 => k_is); (case k1 => k_is); (case a2 => k_is); (case l2 => k_is); (case c2 => k_is); (case k2 => k_is); (case a3 => k_is); (case l3 => k_is); (case c3 => k_is); (case k3 => k_is); (case a4 => k_is); (case l4 => k_is); (case c4 => k_is); (case k4 => k_is); (case a5 => k_is); (case l5 => k_is); (case c5 => k_is); (case k5 => k_is); (case a6 => k_is); (case l6 => k_is); (case c6 => k_is); (case k6 => k_is); (case a7 => k_is); (case l7 => k_is); (case c7 => k_is); (case k7 => k_is); (case a8 => k_is); (case l8 => k_is); (case c8 => k_is); (case k8 => k_is); (case a9 => k_is); (case l9 => k_is); (case c9 => k_is); (case k9 => k_is); (case a10 => k_is); (case l10 => k_is); (case c10 => k_is); (case k10 => k_is); (case a11 => k_is); (case l11 => k_is); (case c11 => k_is); (case k11 => k_is); (case a12 => k_is); (case l12 => k_is); (case c12 => k_is); (case k12 => k_is); (case a13 => k_is); (case l13 => k_is); (case c13 => k_is); (case k13 => k_is); (case a14 => k_is); (case l14 => k_is); (case c14 => k_is); (case k14 => k_is); (case z0 => k_is); (case z1 => k_is); (case z2 => k_is); (case z3 => k_is); (case z4 => k_is); (case z5 => k_is); (case z6 => k_is); (case z7 => k_is); (case z8 => k_is); (case z9 => k_is); (case z10 => k_is); (case z11 => k_is); (case z12 => k_is)

