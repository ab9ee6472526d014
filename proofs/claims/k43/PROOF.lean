import PyProof.Rows.All
import Wide.All
import OpenK.AllK
import Wide.FinOn
import HandS.ForMost
import HandS.Deep
import HandS.TupAny
import HandS.IsInst
import HandS.Replace
import HandS.Sort
import HandS.SortInts
import HandS.Conv
import HandS.More
import PySem.Challenge.RW_viewedwords_k43_steps_of_ladders
set_option Elab.async false
set_option linter.all false
set_option maxRecDepth 100000
set_option maxHeartbeats 4000000
/-! VS: values of Python as deep data, over the abstract heap of the hand layer. -/
namespace VS
open PySem PySem.Spec PyProof.Rows L2

/-! ### data -/
/-- a text by its codes -/
def S (l : List Nat) : Str := ⟨l.toArray⟩
inductive D where
  | non | bl (b : Bool) | int (i : Int) | str (l : List Nat)
  | tup (ds : List D) | lst (ds : List D)
  | dic (ks vs : List D) | obj (C : Str) (fs : List Str) (vs : List D)
  deriving Inhabited
/-- a value, an error, or no word -/
inductive R (α : Type) where
  | ok (a : α) | ex (e : D) | stuck
def R.bind {α β : Type} (x : R α) (f : α → R β) : R β :=
  match x with
  | .ok a => f a
  | .ex e => .ex e
  | .stuck => .stuck
instance : Monad R where
  pure := .ok
  bind := R.bind
@[simp] theorem ok_bind {α β : Type} (a : α) (f : α → R β) : (R.ok a >>= f) = f a := rfl
@[simp] theorem ex_bind {α β : Type} (e : D) (f : α → R β) : ((R.ex e : R α) >>= f) = .ex e := rfl
@[simp] theorem stuck_bind {α β : Type} (f : α → R β) : ((R.stuck : R α) >>= f) = .stuck := rfl
@[simp] theorem pure_ok {α : Type} (a : α) : (pure a : R α) = .ok a := rfl

structure Wd where
  K : PySem.W.Frag
  mg : Str → Option Value

/-- a key of a plain dict -/
def D.key : D → Option Key
  | .int i => some (.inl i)
  | .str l => some (.inr (S l))
  | _ => none

mutual
inductive Rp (E : Wd) (G : Hp) : V → D → Prop
  | non : Rp E G .non .non
  | bl (b : Bool) : Rp E G (.bl b) (.bl b)
  | int (i : Int) : Rp E G (.int i) (.int i)
  | str (l : List Nat) : Rp E G (.str (S l)) (.str l)
  | tup {a : Addr} {vs : List V} {ds : List D} : SqT E.K G a vs → RpL E G vs ds → Rp E G (.ref a) (.tup ds)
  | lst {a : Addr} {vs : List V} {ds : List D} : SqL E.K G a vs → RpL E G vs ds → Rp E G (.ref a) (.lst ds)
  | dic {a : Addr} {kvs : List (Key × V)} {ks ds : List D} : Rd G a (.dK kvs) → ks.map D.key = kvs.map (fun p => some p.1) → RpL E G (kvs.map (·.2)) ds → Rp E G (.ref a) (.dic ks ds)
  | obj {a C dx : Addr} {nm : Str} {fvs : List (Str × V)} {fs : List Str} {ds : List D} : G a = some (.ins C dx fvs) → E.mg nm = some (.ref C) → fs = fvs.map (·.1) → RpL E G (fvs.map (·.2)) ds → Rp E G (.ref a) (.obj nm fs ds)
inductive RpL (E : Wd) (G : Hp) : List V → List D → Prop
  | nil : RpL E G [] []
  | cons {v : V} {vs : List V} {d : D} {ds : List D} : Rp E G v d → RpL E G vs ds → RpL E G (v :: vs) (d :: ds)
end

section
variable {E : Wd} {G G' H H' : Hp}
theorem Same.rd (s : Same G G') {a : Addr} {u : HO} (h : Rd G a u) : Rd G' a u := by
  rcases h with h | ⟨o, h⟩
  · exact .inl (s a _ h)
  · exact .inr ⟨o, s a _ h⟩
theorem Same.sqL {K : PySem.W.Frag} (s : Same G G') {a : Addr} {xs : List V} (h : SqL K G a xs) : SqL K G' a xs := s.seq h
theorem Same.sqT {K : PySem.W.Frag} (s : Same G G') {a : Addr} {xs : List V} (h : SqT K G a xs) : SqT K G' a xs := by
  rcases h with h | h
  · exact .inl (Same.rd s h)
  · exact .inr h
mutual
theorem Rp.mono (s : Same G G') : ∀ {v : V} {d : D}, Rp E G v d → Rp E G' v d
  | _, _, .non => .non
  | _, _, .bl b => .bl b
  | _, _, .int i => .int i
  | _, _, .str l => .str l
  | _, _, .tup h r => .tup (Same.sqT s h) (RpL.mono s r)
  | _, _, .lst h r => .lst (Same.sqL s h) (RpL.mono s r)
  | _, _, .dic h e r => .dic (Same.rd s h) e (RpL.mono s r)
  | _, _, .obj h e f r => .obj (s _ _ h) e f (RpL.mono s r)
theorem RpL.mono (s : Same G G') : ∀ {vs : List V} {ds : List D}, RpL E G vs ds → RpL E G' vs ds
  | _, _, .nil => .nil
  | _, _, .cons h r => .cons (Rp.mono s h) (RpL.mono s r)
end
theorem RpL.length {vs : List V} {ds : List D} (h : RpL E G vs ds) : vs.length = ds.length := by
  induction ds generalizing vs with
  | nil => cases h; rfl
  | cons d ds ih => cases h with | cons h r => simp [ih r]
theorem RpL.get {vs : List V} {ds : List D} (h : RpL E G vs ds) {i : Nat} {d : D} (e : ds[i]? = some d) : ∃ v, vs[i]? = some v ∧ Rp E G v d := by
  induction ds generalizing vs i with
  | nil => simp at e
  | cons d' ds ih =>
    cases h with
    | cons h r =>
      cases i with
      | zero => simp at e; subst e; exact ⟨_, rfl, h⟩
      | succ i => simp at e; obtain ⟨v, e1, e2⟩ := ih r e; exact ⟨v, by simpa using e1, e2⟩
theorem RpL.getV {vs : List V} {ds : List D} (h : RpL E G vs ds) {i : Nat} {v : V} (e : vs[i]? = some v) : ∃ d, ds[i]? = some d ∧ Rp E G v d := by
  induction ds generalizing vs i with
  | nil => cases h; simp at e
  | cons d' ds ih =>
    cases h with
    | cons h r =>
      cases i with
      | zero => simp at e; subst e; exact ⟨_, rfl, h⟩
      | succ i => simp at e; obtain ⟨v, e1, e2⟩ := ih r e; exact ⟨v, by simpa using e1, e2⟩
theorem RpL.append {vs ws : List V} {ds es : List D} (h : RpL E G vs ds) (k : RpL E G ws es) : RpL E G (vs ++ ws) (ds ++ es) := by
  induction ds generalizing vs with
  | nil => cases h; exact k
  | cons d ds ih => cases h with | cons h r => exact .cons h (ih r)
theorem RpL.take {vs : List V} {ds : List D} (h : RpL E G vs ds) (n : Nat) : RpL E G (vs.take n) (ds.take n) := by
  induction n generalizing vs ds with
  | zero => simp; exact .nil
  | succ n ih => cases h with
    | nil => simp; exact .nil
    | cons h r => simp; exact .cons h (ih r)
theorem RpL.drop {vs : List V} {ds : List D} (h : RpL E G vs ds) (n : Nat) : RpL E G (vs.drop n) (ds.drop n) := by
  induction n generalizing vs ds with
  | zero => simpa using h
  | succ n ih => cases h with
    | nil => simp; exact .nil
    | cons h r => simpa using ih r
theorem RpL.reverse {vs : List V} {ds : List D} (h : RpL E G vs ds) : RpL E G vs.reverse ds.reverse := by
  induction ds generalizing vs with
  | nil => cases h; exact .nil
  | cons d ds ih => cases h with | cons h r => rw [List.reverse_cons, List.reverse_cons]; exact (ih r).append (.cons h .nil)
theorem RpL.set {vs : List V} {ds : List D} (h : RpL E G vs ds) {v : V} {d : D} (r : Rp E G v d) (i : Nat) : RpL E G (vs.set i v) (ds.set i d) := by
  induction ds generalizing vs i with
  | nil => cases h; exact .nil
  | cons d' ds ih =>
    cases h with
    | cons h1 r1 => cases i with
      | zero => exact .cons r r1
      | succ i => exact .cons h1 (ih r1 i)
theorem RpL.int {vs : List V} {ns : List Int} (h : RpL E G vs (ns.map D.int)) : vs = ns.map V.int := by
  induction ns generalizing vs with
  | nil => cases h; rfl
  | cons n ns ih => cases h with | cons h r => cases h; simp [ih r]
theorem RpL.ofInt (ns : List Int) : RpL E G (ns.map V.int) (ns.map D.int) := by
  induction ns with
  | nil => exact .nil
  | cons n ns ih => exact .cons (.int n) ih

/-! ### owned trees -/
end
inductive O where
  | v (d : D) | lst (os : List O) | dic (ks : List D) (os : List O) | obj (C : Str) (fs : List Str) (os : List O)
  deriving Inhabited
mutual
def O.toD : O → D
  | .v d => d
  | .lst os => .lst (O.toDs os)
  | .dic ks os => .dic ks (O.toDs os)
  | .obj C fs os => .obj C fs (O.toDs os)
def O.toDs : List O → List D
  | [] => []
  | o :: os => O.toD o :: O.toDs os
end
@[simp] theorem O.toDs_map (os : List O) : O.toDs os = os.map O.toD := by
  induction os with
  | nil => rfl
  | cons o os ih => simp [O.toDs, ih]
mutual
inductive Own (E : Wd) (G H : Hp) : V → O → List Addr → Prop
  | v {v : V} {d : D} : Rp E G v d → Own E G H v (.v d) []
  | lst {a : Addr} {vs : List V} {os : List O} {fp : List Addr} : H a = some (.lst vs) → OwnL E G H vs os fp → Own E G H (.ref a) (.lst os) (a :: fp)
  | dic {a : Addr} {kvs : List (Key × V)} {ks : List D} {os : List O} {fp : List Addr} : H a = some (.dK kvs) → ks.map D.key = kvs.map (fun p => some p.1) → OwnL E G H (kvs.map (·.2)) os fp → Own E G H (.ref a) (.dic ks os) (a :: fp)
  | obj {a C dx : Addr} {nm : Str} {fvs : List (Str × V)} {fs : List Str} {os : List O} {fp : List Addr} : H a = some (.ins C dx fvs) → E.mg nm = some (.ref C) → fs = fvs.map (·.1) → OwnL E G H (fvs.map (·.2)) os fp → Own E G H (.ref a) (.obj nm fs os) (a :: fp)
inductive OwnL (E : Wd) (G H : Hp) : List V → List O → List Addr → Prop
  | nil : OwnL E G H [] [] []
  | cons {v : V} {vs : List V} {o : O} {os : List O} {fp fq : List Addr} : Own E G H v o fp → OwnL E G H vs os fq → OwnL E G H (v :: vs) (o :: os) (fp ++ fq)
end
section
variable {E : Wd} {G G' H H' : Hp}
/-- what is owned stays where its own objects stay -/
theorem Own.keep (s : Same G G') : ∀ {v : V} {o : O} {fp : List Addr}, Own E G H v o fp → (∀ p ∈ fp, ∀ u, H p = some u → H' p = some u) → Own E G' H' v o fp := by
  intro v o fp h
  refine Own.rec (motive_1 := fun v o fp _ => (∀ p ∈ fp, ∀ u, H p = some u → H' p = some u) → Own E G' H' v o fp) (motive_2 := fun vs os fp _ => (∀ p ∈ fp, ∀ u, H p = some u → H' p = some u) → OwnL E G' H' vs os fp) ?_ ?_ ?_ ?_ ?_ ?_ h
  · intro v d r k; exact .v (r.mono s)
  · intro a vs os fp h r ih k; exact .lst (k a List.mem_cons_self _ h) (ih fun p hp => k p (List.mem_cons_of_mem _ hp))
  · intro a kvs ks os fp h e r ih k; exact .dic (k a List.mem_cons_self _ h) e (ih fun p hp => k p (List.mem_cons_of_mem _ hp))
  · intro a C dx nm fvs fs os fp h e f r ih k; exact .obj (k a List.mem_cons_self _ h) e f (ih fun p hp => k p (List.mem_cons_of_mem _ hp))
  · intro k; exact .nil
  · intro v vs o os fp fq h r ih1 ih2 k; exact .cons (ih1 fun p hp => k p (List.mem_append_left _ hp)) (ih2 fun p hp => k p (List.mem_append_right _ hp))
theorem OwnL.keep (s : Same G G') : ∀ {vs : List V} {os : List O} {fp : List Addr}, OwnL E G H vs os fp → (∀ p ∈ fp, ∀ u, H p = some u → H' p = some u) → OwnL E G' H' vs os fp := by
  intro vs os fp h
  induction os generalizing vs fp with
  | nil => cases h; intro _; exact .nil
  | cons o os ih => cases h with | cons h r => intro k; exact .cons (h.keep s fun p hp => k p (List.mem_append_left _ hp)) (ih r fun p hp => k p (List.mem_append_right _ hp))
/-- an owned tree may be read as data -/
theorem Own.rp (s : Same G H) : ∀ {v : V} {o : O} {fp : List Addr}, Own E G H v o fp → (∀ p ∈ fp, ∀ u, H p = some u → H' p = some u) → Same G H' → Rp E H' v o.toD := by
  intro v o fp h
  refine Own.rec (motive_1 := fun v o fp _ => (∀ p ∈ fp, ∀ u, H p = some u → H' p = some u) → Same G H' → Rp E H' v o.toD) (motive_2 := fun vs os fp _ => (∀ p ∈ fp, ∀ u, H p = some u → H' p = some u) → Same G H' → RpL E H' vs (O.toDs os)) ?_ ?_ ?_ ?_ ?_ ?_ h
  · intro v d r k g; rw [O.toD]; exact r.mono g
  · intro a vs os fp h r ih k g; rw [O.toD]; exact .lst (.inl (.inl (k a List.mem_cons_self _ h))) (ih (fun p hp => k p (List.mem_cons_of_mem _ hp)) g)
  · intro a kvs ks os fp h e r ih k g; rw [O.toD]; exact .dic (.inl (k a List.mem_cons_self _ h)) e (ih (fun p hp => k p (List.mem_cons_of_mem _ hp)) g)
  · intro a C dx nm fvs fs os fp h e f r ih k g; rw [O.toD]; exact .obj (k a List.mem_cons_self _ h) e f (ih (fun p hp => k p (List.mem_cons_of_mem _ hp)) g)
  · intro k g; rw [O.toDs]; exact .nil
  · intro v vs o os fp fq h r ih1 ih2 k g; rw [O.toDs]; exact .cons (ih1 (fun p hp => k p (List.mem_append_left _ hp)) g) (ih2 (fun p hp => k p (List.mem_append_right _ hp)) g)

/-! ### the names' values -/
end
abbrev Env := List (Option O)
inductive Cells (E : Wd) (G H : Hp) : Env → L2.St → List Addr → Prop
  | nil : Cells E G H [] [] []
  | no {c : Env} {σ : L2.St} {x : Option V} {fp : List Addr} : Cells E G H c σ fp → Cells E G H (none :: c) (x :: σ) fp
  | yes {c : Env} {σ : L2.St} {v : V} {o : O} {fp fq : List Addr} : Own E G H v o fp → Cells E G H c σ fq → Cells E G H (some o :: c) (some v :: σ) (fp ++ fq)
/-- the entry: the heap there, what is known there; the slots that stay; what is lent -/
structure Bs where
  H0 : Hp
  G0 : Hp
  pn : List (Nat × V)
  br : Addr → Prop
/-- a tuple, or one that is locked -/
def isT : HO → Bool
  | .tup _ => true
  | .frz _ (.tup _) => true
  | _ => false
structure Fine (B : Bs) (G H : Hp) : Prop where
  base : ∀ a o, B.H0 a = some o → ¬ B.br a → H a = some o
  there : ∀ a, H a = none → B.H0 a = none
  x : ∀ a, B.H0 a ≠ none → B.G0 a = none → G a = none
  le : Same G H
  tup : ∀ a u, H a = some u → isT u = true → G a = some u
structure Abs (E : Wd) (B : Bs) (G H : Hp) (c : Env) (σ : L2.St) (fp : List Addr) : Prop where
  fine : Fine B G H
  cells : Cells E G H c σ fp
  nd : fp.Nodup
  fresh : ∀ p ∈ fp, G p = none ∧ (B.H0 p = none ∨ B.br p)
  pin : ∀ q ∈ B.pn, σ[q.1]? = some (some q.2)
section
variable {E : Wd} {B : Bs} {G G' G'' H H' H'' : Hp} {c : Env} {σ : L2.St} {fp : List Addr}
theorem Cells.keep (s : Same G G') : ∀ {c : Env} {σ : L2.St} {fp : List Addr}, Cells E G H c σ fp → (∀ p ∈ fp, ∀ u, H p = some u → H' p = some u) → Cells E G' H' c σ fp
  | _, _, _, .nil, _ => .nil
  | _, _, _, .no h, k => .no (Cells.keep s h k)
  | _, _, _, .yes h r, k => .yes (h.keep s fun p hp => k p (List.mem_append_left _ hp)) (Cells.keep s r fun p hp => k p (List.mem_append_right _ hp))
theorem Cells.get : ∀ {c : Env} {σ : L2.St} {fp : List Addr} {i : Nat} {o : O}, Cells E G H c σ fp → c[i]? = some (some o) → ∃ v fq, σ[i]? = some (some v) ∧ Own E G H v o fq ∧ ∀ p ∈ fq, p ∈ fp
  | _, _, _, i, o, .nil, e => by simp at e
  | _, _, _, 0, o, .no h, e => by simp at e
  | _, _, _, i + 1, o, .no h, e => by
    obtain ⟨v, fq, e1, e2, e3⟩ := Cells.get (i := i) h (by simpa using e)
    exact ⟨v, fq, by simpa using e1, e2, e3⟩
  | _, _, _, 0, o, .yes h r, e => by simp at e; subst e; exact ⟨_, _, rfl, h, fun p hp => List.mem_append_left _ hp⟩
  | _, _, _, i + 1, o, .yes h r, e => by
    obtain ⟨v, fq, e1, e2, e3⟩ := Cells.get (i := i) r (by simpa using e)
    exact ⟨v, fq, by simpa using e1, e2, fun p hp => List.mem_append_right _ (e3 p hp)⟩
theorem Own.there : ∀ {v : V} {o : O} {fp : List Addr}, Own E G H v o fp → ∀ p ∈ fp, H p ≠ none := by
  intro v o fp h
  refine Own.rec (motive_1 := fun v o fp _ => ∀ p ∈ fp, H p ≠ none) (motive_2 := fun vs os fp _ => ∀ p ∈ fp, H p ≠ none) ?_ ?_ ?_ ?_ ?_ ?_ h
  · intro v d r p hp; cases hp
  · intro a vs os fp h r ih p hp
    rcases List.mem_cons.mp hp with z | z
    · rw [z, h]; exact fun z => nomatch z
    · exact ih p z
  · intro a kvs ks os fp h e r ih p hp
    rcases List.mem_cons.mp hp with z | z
    · rw [z, h]; exact fun z => nomatch z
    · exact ih p z
  · intro a C dx nm fvs fs os fp h e f r ih p hp
    rcases List.mem_cons.mp hp with z | z
    · rw [z, h]; exact fun z => nomatch z
    · exact ih p z
  · intro p hp; cases hp
  · intro v vs o os fp fq h r ih1 ih2 p hp
    rcases List.mem_append.mp hp with z | z
    · exact ih1 p z
    · exact ih2 p z
theorem Cells.there : ∀ {c : Env} {σ : L2.St} {fp : List Addr}, Cells E G H c σ fp → ∀ p ∈ fp, H p ≠ none
  | _, _, _, .nil, p, hp => nomatch hp
  | _, _, _, .no h, p, hp => h.there p hp
  | _, _, _, .yes h r, p, hp => (List.mem_append.mp hp).elim (fun z => h.there p z) fun z => r.there p z
theorem Cells.length : ∀ {c : Env} {σ : L2.St} {fp : List Addr}, Cells E G H c σ fp → c.length = σ.length
  | _, _, _, .nil => rfl
  | _, _, _, .no h => by simp [h.length]
  | _, _, _, .yes _ h => by simp [h.length]
/-- a name is stored: what it had is forgotten -/
theorem Cells.set : ∀ {c : Env} {σ : L2.St} {fp : List Addr} {v : V} {o : O} {fq : List Addr} (i : Nat), Cells E G H c σ fp → Own E G H v o fq → fp.Nodup → fq.Nodup → (∀ p ∈ fq, p ∉ fp) → ∃ fr, Cells E G H (c.set i (some o)) (σ.set i (some v)) fr ∧ fr.Nodup ∧ ∀ p ∈ fr, p ∈ fp ∨ p ∈ fq
  | _, _, _, v, o, fq, i, .nil, h, n, m, d => ⟨[], .nil, List.nodup_nil, fun p hp => nomatch hp⟩
  | _, _, _, v, o, fq, 0, .no r, h, n, m, d => ⟨_, .yes h r, List.nodup_append.mpr ⟨m, n, fun a ha b hb e => d a ha (e ▸ hb)⟩, fun p hp => (List.mem_append.mp hp).symm⟩
  | _, _, _, v, o, fq, i + 1, .no r, h, n, m, d => by
    obtain ⟨fr, h1, h2, h3⟩ := Cells.set i r h n m d
    exact ⟨fr, .no h1, h2, h3⟩
  | _, _, _, v, o, fq, 0, .yes (fp := f1) (fq := f2) h' r, h, n, m, d => ⟨_, .yes h r, List.nodup_append.mpr ⟨m, (List.nodup_append.mp n).2.1, fun a ha b hb e => d a ha (List.mem_append_right _ (e ▸ hb))⟩, fun p hp => by
    rcases List.mem_append.mp hp with z | z
    · exact .inr z
    · exact .inl (List.mem_append_right _ z)⟩
  | _, _, _, v, o, fq, i + 1, .yes (fp := f1) (fq := f2) h' r, h, n, m, d => by
    obtain ⟨n1, n2, n3⟩ := List.nodup_append.mp n
    obtain ⟨fr, h1, h2, h3⟩ := Cells.set i r h n2 m fun p hp z => d p hp (List.mem_append_right _ z)
    refine ⟨_, .yes h' h1, List.nodup_append.mpr ⟨n1, h2, fun a ha b hb e => ?_⟩, fun p hp => ?_⟩
    · rcases h3 b hb with z | z
      · exact n3 a ha b z e
      · exact d b z (List.mem_append_left _ (e ▸ ha))
    · rcases List.mem_append.mp hp with z | z
      · exact .inl (List.mem_append_left _ z)
      · rcases h3 p z with z | z
        · exact .inl (List.mem_append_right _ z)
        · exact .inr z
theorem Fine.grow (f : Fine B G H) (s : Same H H') (t : ∀ a u, H' a = some u → isT u = true → G a = some u) : Fine B G H' := ⟨fun a o e n => s a o (f.base a o e n), fun a e => f.there a (s.free e), f.x, f.le.trans s, t⟩
/-- a new object that is known from now on -/
theorem Fine.new {p : Addr} {u : HO} (f : Fine B G H) (hp : H p = none) : Fine B (upd G p u) (upd H p u) := by
  refine ⟨fun a o e n => ?_, fun a e => ?_, fun a h1 h2 => ?_, fun a o e => ?_, fun a o e k => ?_⟩
  · rw [upd_ne (ne_of_none (f.base a o e n) hp)]; exact f.base a o e n
  · by_cases ha : a = p
    · subst ha; exact f.there a hp
    · rw [upd_ne ha] at e; exact f.there a e
  · have ha : a ≠ p := fun z => h1 (by rw [z]; exact f.there p hp)
    rw [upd_ne ha]; exact f.x a h1 h2
  · by_cases ha : a = p
    · subst ha; rw [upd_same] at e ⊢; exact e
    · rw [upd_ne ha] at e ⊢; exact f.le a o e
  · by_cases ha : a = p
    · subst ha; rw [upd_same] at e ⊢; exact e
    · rw [upd_ne ha] at e ⊢; exact f.tup a o e k
theorem same_upd {p : Addr} {u : HO} (hp : H p = none) : Same H (upd H p u) := fun b o e => by
  rw [upd_ne (ne_of_none e hp)]; exact e
theorem Fine.fresh (f : Fine B G H) {p : Addr} (hp : H p = none) : G p = none := f.le.free hp
theorem Abs.grow (A : Abs E B G H c σ fp) (s : Same H H') (t : ∀ a u, H' a = some u → isT u = true → G a = some u) : Abs E B G H' c σ fp :=
  ⟨A.fine.grow s t, A.cells.keep (Same.refl _) fun p _ u e => s p u e, A.nd, A.fresh, A.pin⟩
/-- a new object that is known from now on -/
theorem Abs.new {p : Addr} {u : HO} (A : Abs E B G H c σ fp) (hp : H p = none) : Abs E B (upd G p u) (upd H p u) c σ fp := by
  refine ⟨A.fine.new hp, A.cells.keep (same_upd (A.fine.fresh hp)) (fun q _ w e => same_upd hp q w e), A.nd, fun q hq => ?_, A.pin⟩
  have hne : q ≠ p := fun z => A.cells.there q hq (by rw [z]; exact hp)
  exact ⟨by rw [upd_ne hne]; exact (A.fresh q hq).1, (A.fresh q hq).2⟩
end
end VS

/-! VS: expressions. -/
namespace VS
open PySem PySem.Spec PyProof.Rows L2

abbrev WX := Value → Option Addr → L2.St → Hp → Prop
def vw (b : Bool) (G H : Hp) : Hp := if b then G else H
def XRep (E : Wd) (G : Hp) (cl : Value) (dx : Option Addr) : D → Prop
  | .obj nm fs ds => E.mg nm = some cl ∧ (fs = [] ∨ ∃ d xs, dx = some d ∧ G d = some (.xd xs) ∧ fs = xs.map (·.1) ∧ RpL E G (xs.map (·.2)) ds)
  | _ => False
def Res {α : Type} (E : Wd) (W : WX) (B : Bs) (c : Env) (σ : L2.St) (fp : List Addr) (G H : Hp) (r : R α) (P : α → Prop) : Prop :=
  match r with
  | .ok a => P a
  | .ex e => ∀ cl dx G' H', Same G G' → Same H H' → Abs E B G' H' c σ fp → XRep E G' cl dx e → W cl dx σ H'
  | .stuck => False
def Post (E : Wd) (B : Bs) (c : Env) (σ : L2.St) (fp : List Addr) (G H : Hp) (b : Bool) (Q : VK) (d : D) : Prop :=
  ∀ v G' H', Same G G' → Same H H' → Abs E B G' H' c σ fp → Rp E (vw b G' H') v d → Q v H'
def PostL (E : Wd) (B : Bs) (c : Env) (σ : L2.St) (fp : List Addr) (G H : Hp) (b : Bool) (Q : List V → Hp → Prop) (ds : List D) : Prop :=
  ∀ vs G' H', Same G G' → Same H H' → Abs E B G' H' c σ fp → RpL E (vw b G' H') vs ds → Q vs H'
def PostT (E : Wd) (B : Bs) (c : Env) (σ : L2.St) (fp : List Addr) (G H : Hp) (Q : Bool → Hp → Prop) (t : Bool) : Prop :=
  ∀ G' H', Same G G' → Same H H' → Abs E B G' H' c σ fp → Q t H'
def TX (E : Wd) (W : WX) (b : Bool) (g : Env → R D) : TE := fun σ H Q => ∃ B G c fp, Abs E B G H c σ fp ∧ Res E W B c σ fp G H (g c) (Post E B c σ fp G H b Q)
def TXA (E : Wd) (W : WX) (b : Bool) (g : Env → R (List D)) : TA := fun σ H Q => ∃ B G c fp, Abs E B G H c σ fp ∧ Res E W B c σ fp G H (g c) (PostL E B c σ fp G H b Q)
def TXT (E : Wd) (W : WX) (g : Env → R Bool) : TT := fun σ H Q => ∃ B G c fp, Abs E B G H c σ fp ∧ Res E W B c σ fp G H (g c) (PostT E B c σ fp G H Q)
abbrev Cx.wd (X : Cx) : Wd := ⟨X.K, X.mg⟩
/-- an expression that is worth g; b: it may be kept -/
def PX (X : Cx) (W : WX) (b : Bool) (e : Expr) (g : Env → R D) : Prop := PE X e (TX ⟨X.K, X.mg⟩ W b g)
def PXA (X : Cx) (W : WX) (b : Bool) (es : List Expr) (g : Env → R (List D)) : Prop := PA X es (TXA ⟨X.K, X.mg⟩ W b g)
def PXT (X : Cx) (W : WX) (e : Expr) (g : Env → R Bool) : Prop := PT X e (TXT ⟨X.K, X.mg⟩ W g)

section
variable {E : Wd} {W : WX} {B : Bs} {c : Env} {σ : L2.St} {fp : List Addr} {G G' G'' H H' H'' : Hp} {b : Bool} {v : V} {d : D}
theorem vw_rp (s : Same G H) (h : Rp E (vw b G H) v d) : Rp E H v d := by
  cases b with
  | true => exact h.mono s
  | false => exact h
theorem vw_mono (s : Same G G') (t : Same H H') (h : Rp E (vw b G H) v d) : Rp E (vw b G' H') v d := by
  cases b with
  | true => exact h.mono s
  | false => exact h.mono t
theorem vw_rpL {vs : List V} {ds : List D} (s : Same G H) (h : RpL E (vw b G H) vs ds) : RpL E H vs ds := by
  cases b with
  | true => exact h.mono s
  | false => exact h
theorem vw_monoL {vs : List V} {ds : List D} (s : Same G G') (t : Same H H') (h : RpL E (vw b G H) vs ds) : RpL E (vw b G' H') vs ds := by
  cases b with
  | true => exact h.mono s
  | false => exact h.mono t
theorem vw_of (h : Rp E G v d) (s : Same G H) : Rp E (vw b G H) v d := by
  cases b with
  | true => exact h
  | false => exact h.mono s
theorem vw_ofL {vs : List V} {ds : List D} (h : RpL E G vs ds) (s : Same G H) : RpL E (vw b G H) vs ds := by
  cases b with
  | true => exact h
  | false => exact h.mono s
theorem Res.grow {α : Type} {r : R α} {P P' : α → Prop} (h : Res E W B c σ fp G H r P) (s : Same G G') (t : Same H H') (hp : ∀ a, r = .ok a → P a → P' a) : Res E W B c σ fp G' H' r P' := by
  cases r with
  | ok a => exact hp a rfl h
  | ex e => exact fun cl dx G2 H2 s2 t2 A x => h cl dx G2 H2 (s.trans s2) (t.trans t2) A x
  | stuck => exact h
theorem Post.grow {Q : VK} (h : Post E B c σ fp G H b Q d) (s : Same G G') (t : Same H H') : Post E B c σ fp G' H' b Q d := fun v G2 H2 s2 t2 A r => h v G2 H2 (s.trans s2) (t.trans t2) A r
theorem PostL.grow {Q : List V → Hp → Prop} {ds : List D} (h : PostL E B c σ fp G H b Q ds) (s : Same G G') (t : Same H H') : PostL E B c σ fp G' H' b Q ds := fun v G2 H2 s2 t2 A r => h v G2 H2 (s.trans s2) (t.trans t2) A r
theorem PostT.grow {Q : Bool → Hp → Prop} {x : Bool} (h : PostT E B c σ fp G H Q x) (s : Same G G') (t : Same H H') : PostT E B c σ fp G' H' Q x := fun G2 H2 s2 t2 A => h G2 H2 (s.trans s2) (t.trans t2) A
/-- the value at once, nothing changed -/
theorem Post.here {Q : VK} (h : Post E B c σ fp G H b Q d) (A : Abs E B G H c σ fp) (r : Rp E (vw b G H) v d) : Q v H := h v G H (Same.refl _) (Same.refl _) A r
/-- a new object, known from now on -/
theorem Post.new {Q : VK} (h : Post E B c σ fp G H b Q d) (A : Abs E B G H c σ fp) {p : Addr} {u : HO} (hp : H p = none) (r : Same G (upd G p u) → Rp E (upd G p u) (.ref p) d) : Q (.ref p) (upd H p u) := by
  have s := same_upd (u := u) (A.fine.fresh hp)
  have A' := A.new (u := u) hp
  exact h (.ref p) _ _ s (same_upd hp) A' (vw_of (r s) A'.fine.le)

/-- one part, then the rest -/
theorem tx_seq {α : Type} {ga : Env → R D} {f : D → R α} {P : α → Prop} {Q' : VK} (A : Abs E B G H c σ fp) (h : Res E W B c σ fp G H (ga c >>= f) P)
    (k : ∀ d, ga c = .ok d → ∀ v G1 H1, Same G G1 → Same H H1 → Abs E B G1 H1 c σ fp → Rp E (vw b G1 H1) v d → Res E W B c σ fp G1 H1 (f d) P → Q' v H1) : TX E W b ga σ H Q' := by
  refine ⟨B, G, c, fp, A, ?_⟩
  cases e : ga c with
  | ok d =>
    rw [e] at h
    exact fun v G1 H1 s t A1 r => k d e v G1 H1 s t A1 r (Res.grow (r := f d) h s t fun _ _ z => z)
  | ex x => rw [e] at h; exact h
  | stuck => rw [e] at h; exact h
theorem txa_seq {α : Type} {ga : Env → R (List D)} {f : List D → R α} {P : α → Prop} {Q' : List V → Hp → Prop} (A : Abs E B G H c σ fp) (h : Res E W B c σ fp G H (ga c >>= f) P)
    (k : ∀ ds, ga c = .ok ds → ∀ vs G1 H1, Same G G1 → Same H H1 → Abs E B G1 H1 c σ fp → RpL E (vw b G1 H1) vs ds → Res E W B c σ fp G1 H1 (f ds) P → Q' vs H1) : TXA E W b ga σ H Q' := by
  refine ⟨B, G, c, fp, A, ?_⟩
  cases e : ga c with
  | ok d =>
    rw [e] at h
    exact fun v G1 H1 s t A1 r => k d e v G1 H1 s t A1 r (Res.grow (r := f d) h s t fun _ _ z => z)
  | ex x => rw [e] at h; exact h
  | stuck => rw [e] at h; exact h
theorem txt_seq {α : Type} {ga : Env → R Bool} {f : Bool → R α} {P : α → Prop} {Q' : Bool → Hp → Prop} (A : Abs E B G H c σ fp) (h : Res E W B c σ fp G H (ga c >>= f) P)
    (k : ∀ t, ga c = .ok t → ∀ G1 H1, Same G G1 → Same H H1 → Abs E B G1 H1 c σ fp → Res E W B c σ fp G1 H1 (f t) P → Q' t H1) : TXT E W ga σ H Q' := by
  refine ⟨B, G, c, fp, A, ?_⟩
  cases e : ga c with
  | ok d =>
    rw [e] at h
    exact fun G1 H1 s t A1 => k d e G1 H1 s t A1 (Res.grow (r := f d) h s t fun _ _ z => z)
  | ex x => rw [e] at h; exact h
  | stuck => rw [e] at h; exact h
end

/-! ### weakening -/
section
variable {X : Cx} {W : WX} {b : Bool} {e : Expr} {g : Env → R D}
theorem pe_mono {t t' : TE} (h : PE X e t) (k : ∀ σ H Q, t' σ H Q → t σ H Q) : PE X e t' := ⟨fun pins s σ H Q I q => h.run pins s σ H Q I (k σ H Q q)⟩
theorem pt_mono {t t' : TT} (h : PT X e t) (k : ∀ σ H Q, t' σ H Q → t σ H Q) : PT X e t' := ⟨fun pins s σ H Q I q => h.run pins s σ H Q I (k σ H Q q)⟩
theorem pa_mono {es : List Expr} {t t' : TA} (h : PA X es t) (k : ∀ σ H Q, t' σ H Q → t σ H Q) : PA X es t' := ⟨fun pos pins s σ H Q I q => h.run pos pins s σ H Q I (k σ H Q q)⟩
theorem PX.loan (h : PX X W true e g) : PX X W false e g := pe_mono h fun σ H Q ⟨B, G, c, fp, A, q⟩ => ⟨B, G, c, fp, A, q.grow (Same.refl _) (Same.refl _) fun d _ k v G1 H1 s t A1 r => k v G1 H1 s t A1 (r.mono A1.fine.le)⟩
end
mutual
/-- no list, no dict, no object within -/
def D.flat : D → Bool
  | .tup ds => D.flats ds
  | .lst _ | .dic _ _ | .obj _ _ _ => false
  | _ => true
def D.flats : List D → Bool
  | [] => true
  | d :: ds => D.flat d && D.flats ds
end
@[simp] theorem flat_non : D.flat .non = true := rfl
@[simp] theorem flat_bl (b : Bool) : D.flat (.bl b) = true := rfl
@[simp] theorem flat_int (i : Int) : D.flat (.int i) = true := rfl
@[simp] theorem flat_str (l : List Nat) : D.flat (.str l) = true := rfl
@[simp] theorem flat_tup (ds : List D) : D.flat (.tup ds) = D.flats ds := by rw [D.flat]
@[simp] theorem flat_lst (ds : List D) : D.flat (.lst ds) = false := by rw [D.flat]
@[simp] theorem flats_nil : D.flats [] = true := by rw [D.flats]
@[simp] theorem flats_cons (d : D) (ds : List D) : D.flats (d :: ds) = (D.flat d && D.flats ds) := by rw [D.flats]
theorem flats_all (ds : List D) : D.flats ds = ds.all D.flat := by
  induction ds with
  | nil => simp
  | cons d ds ih => simp [ih]
section
variable {E : Wd} {B : Bs} {c : Env} {σ : L2.St} {fp : List Addr} {G H : Hp}
/-- what has no list, dict or object within is known -/
theorem Rp.down (f : Fine B G H) : ∀ {v : V} {d : D}, Rp E H v d → d.flat = true → Rp E G v d := by
  intro v d h
  refine Rp.rec (motive_1 := fun v d _ => d.flat = true → Rp E G v d) (motive_2 := fun vs ds _ => D.flats ds = true → RpL E G vs ds) ?_ ?_ ?_ ?_ ?_ ?_ ?_ ?_ ?_ ?_ h
  · intro _; exact .non
  · intro b _; exact .bl b
  · intro i _; exact .int i
  · intro l _; exact .str l
  · intro a vs ds hs r ih k
    rw [flat_tup] at k
    refine .tup ?_ (ih k)
    rcases hs with (hs | ⟨o, hs⟩) | hs
    · exact .inl (.inl (f.tup a _ hs rfl))
    · exact .inl (.inr ⟨o, f.tup a _ hs rfl⟩)
    · exact .inr hs
  · intro a vs ds hs r ih k; simp at k
  · intro a kvs ks ds hs e r ih k; simp [D.flat] at k
  · intro a C dx nm fvs fs ds h1 h2 h3 r ih k; simp [D.flat] at k
  · intro _; exact .nil
  · intro v vs d ds h r i1 i2 k
    simp at k
    exact .cons (i1 k.1) (i2 k.2)
end
section
variable {X : Cx} {W : WX} {b : Bool} {e : Expr} {g : Env → R D}
def eFlat (g : Env → R D) : Env → R D := fun c => g c >>= fun d => if d.flat then .ok d else .stuck
theorem PX.flat (h : PX X W b e g) : PX X W true e (eFlat g) := pe_mono h fun σ H Q ⟨B, G, c, fp, A, q⟩ => by
  refine ⟨B, G, c, fp, A, ?_⟩
  unfold eFlat at q
  cases e : g c with
  | stuck => rw [e] at q; exact q
  | ex x => rw [e] at q; exact q
  | ok d =>
    rw [e] at q
    by_cases hf : d.flat = true
    · have q' : Res _ W B c σ fp G H (if d.flat = true then R.ok d else R.stuck) (Post _ B c σ fp G H true Q) := q
      rw [if_pos hf] at q'
      intro v G1 H1 s t A1 r
      exact q' v G1 H1 s t A1 ((vw_rp A1.fine.le r).down A1.fine hf)
    · have q' : Res _ W B c σ fp G H (if d.flat = true then R.ok d else R.stuck) (Post _ B c σ fp G H true Q) := q
      rw [if_neg hf] at q'
      exact q'.elim
end
end VS

/-! VS: expressions, the rules. -/
namespace VS
open PySem PySem.Spec PyProof.Rows L2

def lift {α : Type} : Option α → R α
  | some a => .ok a
  | none => .stuck
@[simp] theorem lift_some {α : Type} (a : α) : lift (some a) = R.ok a := rfl
@[simp] theorem lift_none {α : Type} : lift (none : Option α) = R.stuck := rfl
theorem Res.lift {α : Type} {E : Wd} {W : WX} {B : Bs} {c : Env} {σ : L2.St} {fp : List Addr} {G H : Hp} {o : Option α} {P : α → Prop} (h : Res E W B c σ fp G H (lift o) P) : ∃ a, o = some a ∧ P a := by
  cases o with
  | some a => exact ⟨a, rfl, h⟩
  | none => exact h.elim

/-! ### names, constants -/
def eV (i : Nat) : Env → R D := fun c => match c[i]? with
  | some (some (.v d)) => .ok d
  | _ => .stuck
def eL (i : Nat) : Env → R D := fun c => match c[i]? with
  | some (some o) => .ok o.toD
  | _ => .stuck
def eC (d : D) : Env → R D := fun _ => .ok d
section
variable {X : Cx} {W : WX} {b b' b1 b2 : Bool} {e a : Expr} {pos : Pos}
theorem px_v (i : Nat) {x : Str} (hN : X.N[i]? = some x := by rfl) (hv : Vis X.env.scope x := by first | exact Or.inl rfl | exact Or.inr (Or.inl rfl) | exact Or.inr (Or.inr rfl)) (hd : (x == ("__debug__" : Str)) = false := by decide)
    (hcd : (x == ("__classdict__" : Str)) = false := by decide) : PX X W true (.Name x pos) (eV i) := pe_mono (pe_var hN hv hd hcd) fun σ H Q ⟨B, G, c, fp, A, q⟩ => by
  unfold eV at q
  split at q
  · rename_i d e
    obtain ⟨v, fq, e1, e2, e3⟩ := A.cells.get e
    cases e2 with
    | v r => exact ⟨v, e1, q.here A r⟩
  · exact q.elim
theorem px_l (i : Nat) {x : Str} (hN : X.N[i]? = some x := by rfl) (hv : Vis X.env.scope x := by first | exact Or.inl rfl | exact Or.inr (Or.inl rfl) | exact Or.inr (Or.inr rfl)) (hd : (x == ("__debug__" : Str)) = false := by decide)
    (hcd : (x == ("__classdict__" : Str)) = false := by decide) : PX X W false (.Name x pos) (eL i) := pe_mono (pe_var hN hv hd hcd) fun σ H Q ⟨B, G, c, fp, A, q⟩ => by
  unfold eL at q
  split at q
  · rename_i o e
    obtain ⟨v, fq, e1, e2, e3⟩ := A.cells.get e
    exact ⟨v, e1, q.here A (e2.rp A.fine.le (fun _ _ _ z => z) A.fine.le)⟩
  · exact q.elim
theorem px_c {t : TE} {v : V} {d : D} (h : PE X e t) (k : ∀ σ H Q, Q v H → t σ H Q) (r : ∀ G, Rp ⟨X.K, X.mg⟩ G v d) : PX X W true e (eC d) := pe_mono h fun σ H Q ⟨B, G, c, fp, A, q⟩ => k _ _ _ (Post.here q A (r _))
theorem px_int {i : Int} {j : Nat} : PX X W true (.Constant (.int i) j pos) (eC (.int i)) := px_c pe_int (fun _ _ _ q => q) fun _ => .int i
theorem px_bl {t : Bool} {j : Nat} : PX X W true (.Constant (.bool t) j pos) (eC (.bl t)) := px_c pe_bl (fun _ _ _ q => q) fun _ => .bl t
theorem px_non {j : Nat} : PX X W true (.Constant .none j pos) (eC .non) := px_c pe_non (fun _ _ _ q => q) fun _ => .non
theorem px_str {x : Str} {j : Nat} (l : List Nat) (h : x = S l := by decide +kernel) : PX X W true (.Constant (.str x) j pos) (eC (.str l)) := by
  subst h
  exact px_c pe_str (fun _ _ _ q => q) fun _ => .str l
theorem px_glob {x : Str} {v : V} {u : Value} {d : D} (r : ∀ G, Rp ⟨X.K, X.mg⟩ G v d) (hm : X.mg x = some u) (rv : RelV v u) (hg : Gl X x := by rfl) (hd : (x == ("__debug__" : Str)) = false := by decide) : PX X W true (.Name x pos) (eC d) :=
  px_c (pe_glob hg hm rv hd) (fun _ _ _ q => q) r

/-! ### parts one behind the other -/
def eNil : Env → R (List D) := fun _ => .ok []
def eCons (g : Env → R D) (gs : Env → R (List D)) : Env → R (List D) := fun c => g c >>= fun d => gs c >>= fun ds => .ok (d :: ds)
theorem pxa_nil : PXA X W b [] eNil := pa_mono pa_nil fun σ H Q ⟨B, G, c, fp, A, q⟩ => q [] G H (Same.refl _) (Same.refl _) A .nil
theorem pxa_cons {es : List Expr} {g : Env → R D} {gs : Env → R (List D)} (h : PX X W b e g) (hr : PXA X W b es gs) (hs : starEach (e :: es) X.env = (false, eval e X.env) :: starEach es X.env := by rfl) : PXA X W b (e :: es) (eCons g gs) :=
  pa_mono (pa_cons h hr hs) fun σ H Q ⟨B, G, c, fp, A, q⟩ => tx_seq A q fun d e v G1 H1 s1 t1 A1 r1 q1 => txa_seq A1 q1 fun ds e2 vs G2 H2 s2 t2 A2 r2 q2 =>
    q2 (v :: vs) G2 H2 (s1.trans s2) (t1.trans t2) A2 (.cons (vw_mono s2 t2 r1) r2)
/-- what a call of a built-in is worth, by values -/
def CallOk (E : Wd) (r : List V → Hp → VK → Prop) (b b' : Bool) (f : List D → Option D) : Prop :=
  ∀ {B : Bs} {G H : Hp} {c : Env} {σ : L2.St} {fp : List Addr} {vs : List V} {ds : List D} {d : D} {Q : VK}, Abs E B G H c σ fp → RpL E (vw b G H) vs ds → f ds = some d → Post E B c σ fp G H b' Q d → r vs H Q
def Op2Ok (E : Wd) (r : R2) (b1 b2 b' : Bool) (f : D → D → Option D) : Prop :=
  ∀ {B : Bs} {G H : Hp} {c : Env} {σ : L2.St} {fp : List Addr} {x y : V} {dx dy d : D} {Q : VK}, Abs E B G H c σ fp → Rp E (vw b1 G H) x dx → Rp E (vw b2 G H) y dy → f dx dy = some d → Post E B c σ fp G H b' Q d → r x y H Q
def eFn (f : List D → Option D) (gs : Env → R (List D)) : Env → R D := fun c => gs c >>= fun ds => lift (f ds)
def eOp2 (f : D → D → Option D) (ga gb : Env → R D) : Env → R D := fun c => ga c >>= fun x => gb c >>= fun y => lift (f x y)
theorem tx_op2 {r : R2} {f : D → D → Option D} (hr : Op2Ok ⟨X.K, X.mg⟩ r b1 b2 b' f) {ga gb : Env → R D} : ∀ σ H Q, TX ⟨X.K, X.mg⟩ W b' (eOp2 f ga gb) σ H Q → tOp r (TX ⟨X.K, X.mg⟩ W b1 ga) (TX ⟨X.K, X.mg⟩ W b2 gb) σ H Q :=
  fun σ H Q ⟨B, G, c, fp, A, q⟩ => tx_seq A q fun d e v G1 H1 s1 t1 A1 r1 q1 => tx_seq A1 q1 fun d2 e2 v2 G2 H2 s2 t2 A2 r2 q2 => by
    obtain ⟨d3, e3, p3⟩ := Res.lift q2
    exact hr A2 (vw_mono s2 t2 r1) r2 e3 (p3.grow (s1.trans s2) (t1.trans t2))
theorem px_op {op : Operator} {r : R2} {f : D → D → Option D} (ho : OpR X (binaryOp op) r) (hr : Op2Ok ⟨X.K, X.mg⟩ r b1 b2 b' f) {eb : Expr} {ga gb : Env → R D} (ha : PX X W b1 a ga) (hb : PX X W b2 eb gb) : PX X W b' (.BinOp a op eb pos) (eOp2 f ga gb) :=
  pe_mono (pe_op ho ha hb) (tx_op2 hr)
theorem px_cmp {op : CmpOp} {r : R2} {f : D → D → Option D} (ho : OpR X (compareOp op) r) (hr : Op2Ok ⟨X.K, X.mg⟩ r b1 b2 b' f) {eb : Expr} {ga gb : Env → R D} (ha : PX X W b1 a ga) (hb : PX X W b2 eb gb) (hm : behindInMarks op eb = false) : PX X W b' (.Compare a [op] [eb] pos) (eOp2 f ga gb) :=
  pe_mono (pe_cmpR ho ha hb hm) (tx_op2 hr)
def asB : D → Option Bool
  | .bl t => some t
  | _ => none
def eB (g : Env → R D) : Env → R Bool := fun c => g c >>= fun d => lift (asB d)
theorem asB_rp {E : Wd} {G : Hp} {v : V} {d : D} {t : Bool} (h : Rp E G v d) (e : asB d = some t) : v = .bl t := by
  cases d <;> simp [asB] at e
  subst e
  cases h
  rfl
theorem tx_test {g : Env → R D} : ∀ σ H Q, TXT ⟨X.K, X.mg⟩ W (eB g) σ H Q → tTest (TX ⟨X.K, X.mg⟩ W b g) σ H Q :=
  fun σ H Q ⟨B, G, c, fp, A, q⟩ => tx_seq A q fun d e v G1 H1 s1 t1 A1 r1 q1 => by
    obtain ⟨t, e3, p3⟩ := Res.lift q1
    exact ⟨t, asB_rp r1 e3, p3 G1 H1 s1 t1 A1⟩
theorem pxt_cmp {op : CmpOp} {r : R2} {f : D → D → Option D} (ho : OpR X (compareOp op) r) (hr : Op2Ok ⟨X.K, X.mg⟩ r b1 b2 true f) {eb : Expr} {ga gb : Env → R D} (ha : PX X W b1 a ga) (hb : PX X W b2 eb gb) (hm : behindInMarks op eb = false) : PXT X W (.Compare a [op] [eb] pos) (eB (eOp2 f ga gb)) :=
  pt_mono (pt_cmpR ho ha hb hm) fun σ H Q q => by
    obtain ⟨x, y, z⟩ := (⟨tx_test (b := true) σ H Q q, trivial, trivial⟩ : _ ∧ True ∧ True)
    have x' : TX ⟨X.K, X.mg⟩ W true (eOp2 f ga gb) σ H (fun x H' => ∃ k, x = .bl k ∧ Q k H') := x
    exact tx_op2 hr σ H _ x'
theorem pxt_val {g : Env → R D} (h : PX X W b e g) (he : ∀ whole, isTrue e X.env whole = (do let v ← whole; standAt e.pos; holding [v] (truthy v)) := by intro _; rfl) : PXT X W e (eB g) :=
  pt_mono (pt_val h he) fun σ H Q q => tx_test σ H Q q
/-- truth of other values -/
def truD : D → Option Bool
  | .non => some false
  | .bl t => some t
  | .int i => some (i != 0)
  | .str l => if l.length ≤ 16777216 then some (!l.isEmpty) else none
  | .tup ds => some (!ds.isEmpty)
  | .lst ds => some (!ds.isEmpty)
  | _ => none
def eTru (g : Env → R D) : Env → R Bool := fun c => g c >>= fun d => lift (truD d)
theorem RpL.isEmpty {E : Wd} {G : Hp} {vs : List V} {ds : List D} (h : RpL E G vs ds) : vs.isEmpty = ds.isEmpty := by
  cases h <;> rfl
theorem pxt_truth {g : Env → R D} (h : PX X W b e g) (he : ∀ whole, isTrue e X.env whole = (do let v ← whole; standAt e.pos; holding [v] (truthy v)) := by intro _; rfl) : PXT X W e (eTru g) :=
  pt_mono (pt_truth h he) fun σ H Q ⟨B, G, c, fp, A, q⟩ => tx_seq A q fun d e v G1 H1 s1 t1 A1 r1 q1 => by
    obtain ⟨t, e3, p3⟩ := Res.lift q1
    have r2 := vw_rp A1.fine.le r1
    refine ⟨t, ?_, p3 G1 H1 s1 t1 A1⟩
    cases r2 with
    | non => cases e3; rfl
    | bl b => cases e3; rfl
    | int i => cases e3; rfl
    | str l =>
      simp only [truD] at e3
      split at e3
      · rename_i hl
        cases e3
        refine ⟨by show l.toArray.size ≤ _; rw [sizeLine_eq]; simpa using hl, ?_⟩
        show (!l.isEmpty) = ((l.toArray.size : Int) != 0)
        cases l <;> simp
        omega
      · cases e3
    | tup hs r => cases e3; exact .inr (.inl ⟨_, hs, by rw [r.isEmpty]⟩)
    | lst hs r => cases e3; exact .inl ⟨_, hs, by rw [r.isEmpty]⟩
    | dic _ _ _ => cases e3
    | obj _ _ _ _ => cases e3

/-! ### and, or, not, if else -/
def tAnd' (g k : Env → R Bool) : Env → R Bool := fun c => g c >>= fun t => if t then k c else .ok false
def tOr' (g k : Env → R Bool) : Env → R Bool := fun c => g c >>= fun t => if t then .ok true else k c
def tNot' (g : Env → R Bool) : Env → R Bool := fun c => g c >>= fun t => .ok (!t)
def PXW (X : Cx) (W : WX) (e : Expr) (g : Env → R Bool) : Prop := PW X e (TXT ⟨X.K, X.mg⟩ W g)
theorem pw_mono {t t' : TT} (h : PW X e t) (k : ∀ σ H Q, t' σ H Q → t σ H Q) : PW X e t' := ⟨fun wh pins s σ H Q I q => h.run wh pins s σ H Q I (k σ H Q q)⟩
theorem PXW.pt {g : Env → R Bool} (h : PXW X W e g) : PXT X W e g := PW.pt h
variable {g k : Env → R Bool} {rest : List Expr}
theorem pxw_and1 (h : PXT X W a g) : PXW X W (.BoolOp .And [a] pos) g := pw_and1 h
theorem pxw_or1 (h : PXT X W a g) : PXW X W (.BoolOp .Or [a] pos) g := pw_or1 h
theorem pxw_and {eb : Expr} (h : PXT X W a g) (h2 : PXW X W (.BoolOp .And (eb :: rest) pos) k) : PXW X W (.BoolOp .And (a :: eb :: rest) pos) (tAnd' g k) :=
  pw_mono (pw_and h h2) fun σ H Q ⟨B, G, c, fp, A, q⟩ => txt_seq A q fun t e G1 H1 s1 t1 A1 q1 => by
    cases t with
    | true => exact ⟨B, G1, c, fp, A1, Res.grow (r := k c) q1 (Same.refl _) (Same.refl _) fun x _ z => z.grow s1 t1⟩
    | false => exact q1 G1 H1 s1 t1 A1
theorem pxw_or {eb : Expr} (h : PXT X W a g) (h2 : PXW X W (.BoolOp .Or (eb :: rest) pos) k) : PXW X W (.BoolOp .Or (a :: eb :: rest) pos) (tOr' g k) :=
  pw_mono (pw_or h h2) fun σ H Q ⟨B, G, c, fp, A, q⟩ => txt_seq A q fun t e G1 H1 s1 t1 A1 q1 => by
    cases t with
    | false => exact ⟨B, G1, c, fp, A1, Res.grow (r := k c) q1 (Same.refl _) (Same.refl _) fun x _ z => z.grow s1 t1⟩
    | true => exact q1 G1 H1 s1 t1 A1
theorem pxt_not (h : PXT X W a g) : PXT X W (.UnaryOp .Not a pos) (tNot' g) :=
  pt_mono (pt_not h) fun σ H Q ⟨B, G, c, fp, A, q⟩ => txt_seq A q fun t e G1 H1 s1 t1 A1 q1 => q1 G1 H1 s1 t1 A1
/-- as values -/
def eAnd (ga gb : Env → R D) : Env → R D := fun c => ga c >>= fun d => lift (asB d) >>= fun t => if t then gb c else .ok (.bl false)
def eOr (ga gb : Env → R D) : Env → R D := fun c => ga c >>= fun d => lift (asB d) >>= fun t => if t then .ok (.bl true) else gb c
def eNot (ga : Env → R D) : Env → R D := fun c => ga c >>= fun d => lift (asB d) >>= fun t => .ok (.bl !t)
theorem px_one {op : BoolOp} {ga : Env → R D} (h : PX X W b a ga) : PX X W b (.BoolOp op [a] pos) ga := pe_one h
theorem px_and {eb : Expr} {ga gb : Env → R D} (h : PX X W b1 a ga) (h2 : PX X W true (.BoolOp .And (eb :: rest) pos) gb) : PX X W true (.BoolOp .And (a :: eb :: rest) pos) (eAnd ga gb) :=
  pe_mono (pe_and h h2) fun σ H Q ⟨B, G, c, fp, A, q⟩ => tx_seq A q fun d e v G1 H1 s1 t1 A1 r1 q1 => by
    cases hd : asB d with
    | none => rw [hd] at q1; exact q1.elim
    | some t =>
      rw [hd] at q1
      refine ⟨t, asB_rp r1 hd, ?_⟩
      cases t with
      | true => exact ⟨B, G1, c, fp, A1, Res.grow (r := gb c) q1 (Same.refl _) (Same.refl _) fun x _ z => z.grow s1 t1⟩
      | false => exact q1 _ G1 H1 s1 t1 A1 (.bl false)
theorem px_or {eb : Expr} {ga gb : Env → R D} (h : PX X W b1 a ga) (h2 : PX X W true (.BoolOp .Or (eb :: rest) pos) gb) : PX X W true (.BoolOp .Or (a :: eb :: rest) pos) (eOr ga gb) :=
  pe_mono (pe_or h h2) fun σ H Q ⟨B, G, c, fp, A, q⟩ => tx_seq A q fun d e v G1 H1 s1 t1 A1 r1 q1 => by
    cases hd : asB d with
    | none => rw [hd] at q1; exact q1.elim
    | some t =>
      rw [hd] at q1
      refine ⟨t, asB_rp r1 hd, ?_⟩
      cases t with
      | false => exact ⟨B, G1, c, fp, A1, Res.grow (r := gb c) q1 (Same.refl _) (Same.refl _) fun x _ z => z.grow s1 t1⟩
      | true => exact q1 _ G1 H1 s1 t1 A1 (.bl true)
theorem px_not {ga : Env → R D} (h : PX X W b1 a ga) : PX X W true (.UnaryOp .Not a pos) (eNot ga) :=
  pe_mono (pe_not h) fun σ H Q ⟨B, G, c, fp, A, q⟩ => tx_seq A q fun d e v G1 H1 s1 t1 A1 r1 q1 => by
    cases hd : asB d with
    | none => rw [hd] at q1; exact q1.elim
    | some t =>
      rw [hd] at q1
      exact ⟨t, asB_rp r1 hd, q1 _ G1 H1 s1 t1 A1 (.bl _)⟩
def eIf (g : Env → R Bool) (ga gb : Env → R D) : Env → R D := fun c => g c >>= fun t => if t then ga c else gb c
theorem px_if {ec eb : Expr} {ga gb : Env → R D} (hc : PXT X W ec g) (ha : PX X W b a ga) (hb : PX X W b eb gb) : PX X W b (.IfExp ec a eb pos) (eIf g ga gb) :=
  pe_mono (pe_ifExp hc ha hb) fun σ H Q ⟨B, G, c, fp, A, q⟩ => txt_seq A q fun t e G1 H1 s1 t1 A1 q1 => by
    cases t with
    | true => exact ⟨B, G1, c, fp, A1, Res.grow (r := ga c) q1 (Same.refl _) (Same.refl _) fun x _ z => z.grow s1 t1⟩
    | false => exact ⟨B, G1, c, fp, A1, Res.grow (r := gb c) q1 (Same.refl _) (Same.refl _) fun x _ z => z.grow s1 t1⟩

/-! ### calls of built-ins -/
theorem tx_fn {r : List V → Hp → VK → Prop} {f : List D → Option D} (hr : CallOk ⟨X.K, X.mg⟩ r b b' f) {gs : Env → R (List D)} : ∀ σ H Q, TX ⟨X.K, X.mg⟩ W b' (eFn f gs) σ H Q → tCB r (TXA ⟨X.K, X.mg⟩ W b gs) σ H Q :=
  fun σ H Q ⟨B, G, c, fp, A, q⟩ => txa_seq A q fun ds e vs G1 H1 s1 t1 A1 r1 q1 => by
    obtain ⟨d3, e3, p3⟩ := Res.lift q1
    exact hr A1 r1 e3 (p3.grow s1 t1)
theorem px_fn {id : String} {x : Str} {r : List V → Hp → VK → Prop} {f : List D → Option D} {e : Expr} {es : List Expr} {gs : Env → R (List D)} {p : Pos} (hc : CallR X (.builtin id) r) (hr : CallOk ⟨X.K, X.mg⟩ r b b' f) (hm : X.mg x = none) (ha : PXA X W b (e :: es) gs) (hg : Gl X x := by rfl) (hv : bootBuiltins x = some (.builtin id) := by decide +kernel)
    (hn : x ≠ "__name__" := by decide) (hdb : (x == ("__debug__" : Str)) = false := by decide) (he : starEach (e :: es) X.env = (false, eval e X.env) :: starEach es X.env := by rfl) (hpl : (backTo pos (starEach es X.env)).any (·.1) = false := by rfl) :
    PX X W b' (.Call (.Name x p) (e :: es) [] pos) (eFn f gs) := pe_mono (pe_callB hc hg hm hv ha hn hdb he hpl) (tx_fn hr)
theorem px_ty {T : String} {x : Str} {r : List V → Hp → VK → Prop} {f : List D → Option D} {e : Expr} {es : List Expr} {gs : Env → R (List D)} {p : Pos} (hc : CallR X (.type T) r) (hr : CallOk ⟨X.K, X.mg⟩ r b b' f) (hm : X.mg x = none) (ha : PXA X W b (e :: es) gs) (hg : Gl X x := by rfl) (hv : bootBuiltins x = some (.type T) := by decide +kernel)
    (hn : x ≠ "__name__" := by decide) (hdb : (x == ("__debug__" : Str)) = false := by decide) (he : starEach (e :: es) X.env = (false, eval e X.env) :: starEach es X.env := by rfl) (hpl : (backTo pos (starEach es X.env)).any (·.1) = false := by rfl) :
    PX X W b' (.Call (.Name x p) (e :: es) [] pos) (eFn f gs) := pe_mono (pe_callTy hc hg hm hv ha hn hdb he hpl) (tx_fn hr)
/-! ### displays -/
def fTup (ds : List D) : Option D := if ds.length ≤ 16777216 then some (.tup ds) else none
def fLst (ds : List D) : Option D := if ds.length ≤ 16777216 then some (.lst ds) else none
theorem sz_ok {n : Nat} (h : n ≤ 16777216) : n ≤ sizeLine := by rw [sizeLine_eq]; exact h
theorem px_tup {es : List Expr} {x1 : _} {gs : Env → R (List D)} (h : PXA X W true es gs) : PX X W true (.Tuple es x1 pos) (eFn fTup gs) :=
  pe_mono (pe_tup h) fun σ H Q ⟨B, G, c, fp, A, q⟩ => txa_seq A q fun ds e vs G1 H1 s1 t1 A1 r1 q1 => by
    obtain ⟨d3, e3, p3⟩ := Res.lift q1
    unfold fTup at e3
    split at e3
    · cases e3
      rename_i hl
      refine ⟨sz_ok (by rw [r1.length]; exact hl), fun p hp => (p3.grow s1 t1).new A1 hp fun s => .tup (.inl (.inl upd_same)) (r1.mono s)⟩
    · cases e3
theorem px_lst {es : List Expr} {gs : Env → R (List D)} (h : PXA X W true es gs) : PX X W true (.List es pos) (eFn fLst gs) :=
  pe_mono (pe_lst h) fun σ H Q ⟨B, G, c, fp, A, q⟩ => txa_seq A q fun ds e vs G1 H1 s1 t1 A1 r1 q1 => by
    obtain ⟨d3, e3, p3⟩ := Res.lift q1
    unfold fLst at e3
    split at e3
    · cases e3
      rename_i hl
      refine ⟨sz_ok (by rw [r1.length]; exact hl), fun p hp => (p3.grow s1 t1).new A1 hp fun s => .lst (.inl (.inl upd_same)) (r1.mono s)⟩
    · cases e3
end
end VS

/-! VS: operators. -/
namespace VS
open PySem PySem.Spec PyProof.Rows L2

/-! ### items that may be kept -/
def okEl (b : Bool) (ds : List D) : Bool := b || D.flats ds
def okE (b : Bool) (d : D) : Bool := b || D.flat d
@[simp] theorem okEl_t (ds : List D) : okEl true ds = true := rfl
@[simp] theorem okE_t (d : D) : okE true d = true := rfl
@[simp] theorem okEl_f (ds : List D) : okEl false ds = D.flats ds := rfl
@[simp] theorem okE_f (d : D) : okE false d = D.flat d := rfl
section
variable {E : Wd} {B : Bs} {c : Env} {σ : L2.St} {fp : List Addr} {G H : Hp} {b : Bool}
theorem Rp.known (f : Fine B G H) {v : V} {d : D} (r : Rp E (vw b G H) v d) (k : okE b d = true) : Rp E G v d := by
  cases b with
  | true => exact r
  | false => exact Rp.down f r k
theorem RpL.down (f : Fine B G H) : ∀ {vs : List V} {ds : List D}, RpL E H vs ds → D.flats ds = true → RpL E G vs ds
  | _, [], r, _ => by cases r; exact .nil
  | _, d :: ds, r, k => by
    cases r with
    | cons h r =>
      simp at k
      exact .cons (Rp.down f h k.1) (RpL.down f r k.2)
theorem RpL.known (f : Fine B G H) {vs : List V} {ds : List D} (r : RpL E (vw b G H) vs ds) (k : okEl b ds = true) : RpL E G vs ds := by
  cases b with
  | true => exact r
  | false => exact RpL.down f r k
end
@[simp] theorem vw_t (G H : Hp) : vw true G H = G := rfl
@[simp] theorem vw_f (G H : Hp) : vw false G H = H := rfl
theorem same_vw {G H : Hp} (b : Bool) (s : Same G H) : Same (vw b G H) H := by
  cases b with
  | true => exact s
  | false => exact Same.refl _
/-- a list as it may be read in the heap -/
theorem Rp.lstH {E : Wd} {G H : Hp} {b : Bool} {v : V} {ds : List D} (r : Rp E (vw b G H) v (.lst ds)) (s : Same G H) : ∃ a vs, v = .ref a ∧ SqL E.K H a vs ∧ RpL E (vw b G H) vs ds := by
  cases r with
  | lst h r => exact ⟨_, _, rfl, Same.sqL (same_vw b s) h, r⟩
theorem Rp.tupH {E : Wd} {G H : Hp} {b : Bool} {v : V} {ds : List D} (r : Rp E (vw b G H) v (.tup ds)) (s : Same G H) : ∃ a vs, v = .ref a ∧ SqT E.K H a vs ∧ RpL E (vw b G H) vs ds := by
  cases r with
  | tup h r => exact ⟨_, _, rfl, Same.sqT (same_vw b s) h, r⟩
theorem Rp.intH {E : Wd} {G : Hp} {v : V} {i : Int} (r : Rp E G v (.int i)) : v = .int i := by cases r; rfl
theorem Rp.strH {E : Wd} {G : Hp} {v : V} {l : List Nat} (r : Rp E G v (.str l)) : v = .str (S l) := by cases r; rfl
theorem Rp.blH {E : Wd} {G : Hp} {v : V} {t : Bool} (r : Rp E G v (.bl t)) : v = .bl t := by cases r; rfl
@[simp] theorem S_len (l : List Nat) : (S l).length = l.length := by show l.toArray.size = _; simp
@[simp] theorem S_list (l : List Nat) : (S l).cps.toList = l := rfl
theorem S_app (a b : List Nat) : S a ++ S b = S (a ++ b) := by
  show (⟨a.toArray ++ b.toArray⟩ : Str) = ⟨(a ++ b).toArray⟩
  simp
theorem S_inj {a b : List Nat} : S a = S b ↔ a = b := ⟨fun h => by
  have e : a.toArray = b.toArray := congrArg Str.cps h
  simpa using e, fun h => by rw [h]⟩

/-! ### + -/
def opAdd (b1 b2 : Bool) : D → D → Option D
  | .int i, .int j => some (.int (i + j))
  | .str a, .str b => if a.length + b.length ≤ 16777216 then some (.str (a ++ b)) else none
  | .lst a, .lst b => if a.length + b.length ≤ 16777216 ∧ okEl b1 a = true ∧ okEl b2 b = true then some (.lst (a ++ b)) else none
  | .tup a, .tup b => if a.length + b.length ≤ 16777216 ∧ okEl b1 a = true ∧ okEl b2 b = true then some (.tup (a ++ b)) else none
  | _, _ => none
def rCatR (K : PySem.W.Frag) : R2 := fun x y H Q => ∃ l b xs zs, x = .ref l ∧ y = .ref b ∧ SqL K H l xs ∧ SqL K H b zs ∧ xs.length + zs.length ≤ sizeLine ∧ ∀ p, H p = none → Q (.ref p) (upd H p (.lst (xs ++ zs)))
section
variable {X : Cx} {W : WX} {b b' b1 b2 : Bool}
theorem lst_of {P : Program} {w : World} {H : Hp} {h : Heap} {a : Addr} {xs : List V} (r : Rd H a (.lst xs)) (x : HOk P w H h) : xs.length ≤ sizeLine ∧ ∃ (its : List Value) (n : Nat), Vals xs its ∧ h.get? a = some { cls := .type "list", data := .seq its.toArray n } := r.ok x
theorem op_catR : OpR X (binaryOp .Add) (rCatR X.K) := by
  intro pins s σ H x y v u Q I rx ry h
  obtain ⟨l, b, xs, zs, rfl, rfl, hH, hB, hz, q⟩ := h
  cases rx
  cases ry
  obtain ⟨its, r1, p1, z1⟩ := I.list hH
  obtain ⟨its2, r2, p2, z2⟩ := I.list hB
  have l1 := r1.length
  have l2 := r2.length
  obtain ⟨⟨cls, dd, data, sl⟩, ho, hc, n, hd⟩ := id p1.isList
  obtain ⟨⟨cls2, dd2, data2, sl2⟩, ho2, hc2, n2, hd2⟩ := id p2.isList
  simp only at hc hd hc2 hd2
  subst hc hd hc2 hd2
  have ea : its.toArray ++ its2.toArray = (its ++ its2).toArray := by simp
  refine concat_meets ⟨_, ho, rfl⟩ ⟨_, ho2, rfl⟩ noFill_list_add seq_list_add PySem.F.slot_list_add PySem.F.entry_list_add (PySem.F.args_list_add_2 _ _) (list_addW l b its.toArray its2.toArray n n2 dd dd2 sl sl2 (by rw [List.size_toArray, List.size_toArray]; omega)) ⟨ho, ho2, ?_⟩
  rw [ea]
  exact ⟨.ref _, _, I.lnew (t' := s.toks) (r1.append r2) (by rw [List.length_append]; omega), rfl, q _ I.fresh⟩
def rAddD (K : PySem.W.Frag) : R2 := fun x y H Q => (rI0 fun i j => V.int (i + j)) x y H Q ∨ (∃ i j, x = .str i ∧ y = .str j ∧ i.length + j.length ≤ sizeLine ∧ Q (.str (i ++ j)) H) ∨ rCatR K x y H Q ∨ rCatA K x y H Q
theorem op_addD : OpR X (binaryOp .Add) (rAddD X.K) := op_add.or (op_add_str.or (op_catR.or op_catA))
theorem ok_add : Op2Ok ⟨X.K, X.mg⟩ (rAddD X.K) b1 b2 true (opAdd b1 b2) := by
  intro B G H c σ fp x y dx dy d Q A rx ry e p
  unfold opAdd at e
  split at e
  · cases e
    exact .inl ⟨_, _, rx.intH, ry.intH, p.here A (.int _)⟩
  · split at e
    · cases e
      rename_i hl
      refine .inr (.inl ⟨_, _, rx.strH, ry.strH, by rw [S_len, S_len, sizeLine_eq]; exact hl, ?_⟩)
      rw [S_app]
      exact p.here A (.str _)
    · cases e
  · split at e
    · cases e
      rename_i hl
      obtain ⟨hl, k1, k2⟩ := hl
      obtain ⟨a1, vs, rfl, h1, r1⟩ := rx.lstH A.fine.le
      obtain ⟨a2, ws, rfl, h2, r2⟩ := ry.lstH A.fine.le
      have g1 := RpL.known A.fine r1 k1
      have g2 := RpL.known A.fine r2 k2
      refine .inr (.inr (.inl ⟨_, _, _, _, rfl, rfl, h1, h2, by rw [g1.length, g2.length, sizeLine_eq]; exact hl, fun q hq => p.new A hq fun s => .lst (.inl (.inl upd_same)) ((g1.append g2).mono s)⟩))
    · cases e
  · split at e
    · cases e
      rename_i hl
      obtain ⟨hl, k1, k2⟩ := hl
      obtain ⟨a1, vs, rfl, h1, r1⟩ := rx.tupH A.fine.le
      obtain ⟨a2, ws, rfl, h2, r2⟩ := ry.tupH A.fine.le
      have g1 := RpL.known A.fine r1 k1
      have g2 := RpL.known A.fine r2 k2
      have d1 : SqT X.K G a1 vs := by
        rcases h1 with (z | ⟨o, z⟩) | z
        · exact .inl (.inl (A.fine.tup _ _ z rfl))
        · exact .inl (.inr ⟨o, A.fine.tup _ _ z rfl⟩)
        · exact .inr z
      have d2 : SqT X.K G a2 ws := by
        rcases h2 with (z | ⟨o, z⟩) | z
        · exact .inl (.inl (A.fine.tup _ _ z rfl))
        · exact .inl (.inr ⟨o, A.fine.tup _ _ z rfl⟩)
        · exact .inr z
      refine .inr (.inr (.inr ⟨_, _, _, _, rfl, rfl, h1, h2, by rw [g1.length, g2.length, sizeLine_eq]; exact hl, fun z => ?_, fun z1 z2 => ?_, fun _ _ q hq => p.new A hq fun s => .tup (.inl (.inl upd_same)) ((g1.append g2).mono s)⟩))
      · subst z
        cases g1
        exact p.here A (.tup d2 (by simpa using g2))
      · subst z2
        cases g2
        exact p.here A (.tup d1 (by simpa using g1))
    · cases e
  · cases e

/-! ### the others, of ints (and texts) -/
def opSub : D → D → Option D
  | .int i, .int j => some (.int (i - j))
  | _, _ => none
theorem ok_sub : Op2Ok ⟨X.K, X.mg⟩ (rI0 fun i j => V.int (i - j)) b1 b2 true opSub := by
  intro B G H c σ fp x y dx dy d Q A rx ry e p
  unfold opSub at e
  split at e
  · cases e
    exact ⟨_, _, rx.intH, ry.intH, p.here A (.int _)⟩
  · cases e
def opMul : D → D → Option D
  | .int i, .int j => if (-(2 ^ 64) < i ∧ i < 2 ^ 64) ∨ (-(2 ^ 64) < j ∧ j < 2 ^ 64) then some (.int (i * j)) else none
  | .str l, .int j => if -(2 ^ 63) ≤ j ∧ j < 2 ^ 63 ∧ l.length * j.toNat ≤ 16777216 then some (.str (List.replicate j.toNat l).flatten) else none
  | _, _ => none
def rMulS : R2 := fun x y H Q => ∃ l j, x = .str (S l) ∧ y = .int j ∧ (-(2 ^ 63) ≤ j ∧ j < 2 ^ 63 ∧ l.length * j.toNat ≤ 16777216) ∧ Q (.str (S (List.replicate j.toNat l).flatten)) H
theorem rep_flat (l : List Nat) : ∀ (n : Nat) (acc : List Nat), (List.replicate n l.toArray).foldl (· ++ ·) acc.toArray = (acc ++ (List.replicate n l).flatten).toArray
  | 0, acc => by simp
  | n + 1, acc => by
    rw [List.replicate_succ, List.foldl_cons]
    have e : acc.toArray ++ l.toArray = (acc ++ l).toArray := by simp
    rw [e, rep_flat l n]
    simp [List.replicate_succ]
theorem op_mulS : OpR X (binaryOp .Mult) rMulS := by
  intro pins s σ H x y v u Q I rx ry h
  obtain ⟨l, j, rfl, rfl, ⟨h1, h2, h3⟩, q⟩ := h
  obtain ⟨t, rfl⟩ := rx
  obtain ⟨t', rfl⟩ := ry
  refine PySem.P.mul_str (by simp; omega) (fun n1 n2 => ?_) (fun n1 n2 => ?_) ?_
  · intro z
    have hpos : 0 < j := by omega
    have k : ((S l).length : Int) * j ≤ 16777216 := by
      rw [S_len]
      have e : ((l.length * j.toNat : Nat) : Int) = (l.length : Int) * j := by
        rw [Int.natCast_mul, Int.toNat_of_nonneg (by omega)]
      omega
    have w : ((S l).length : Int) ≤ (2 ^ 63 - 1) / j := by
      refine (Int.le_ediv_iff_mul_le hpos).mpr ?_
      omega
    omega
  · show decide _ = false
    rw [S_len, sizeLine_eq]
    simp
    omega
  · by_cases n1 : j < 1
    · rw [if_pos n1]
      have e : j.toNat = 0 := by omega
      rw [e] at q
      refine ⟨by decide, ⟨.str Str.empty, H, I.tok _, ⟨_, rfl⟩, ?_⟩⟩
      simpa [S, Str.empty] using q
    · rw [if_neg n1]
      split
      · rename_i hz
        refine ⟨.str (S l), H, I, ⟨_, rfl⟩, ?_⟩
        simp at hz
        rcases hz with hz | hz
        · subst hz
          simpa using q
        · subst hz
          simpa using q
      · have e := rep_flat l j.toNat []
        simp only [List.nil_append] at e
        have e2 : (⟨(List.replicate j.toNat (S l).cps).foldl (· ++ ·) #[]⟩ : Str) = S (List.replicate j.toNat l).flatten := by
          show (⟨_⟩ : Str) = ⟨_⟩
          rw [← e]
          rfl
        rw [e2]
        refine ⟨?_, ⟨.str (S (List.replicate j.toNat l).flatten), H, I.tok _, ⟨_, rfl⟩, q⟩⟩
        rw [S_len, sizeLine_eq]
        simp
        rw [Nat.mul_comm]; exact h3
theorem ok_mul : Op2Ok ⟨X.K, X.mg⟩ (fun x y H Q => (rI CMul fun i j => V.int (i * j)) x y H Q ∨ rMulS x y H Q) b1 b2 true opMul := by
  intro B G H c σ fp x y dx dy d Q A rx ry e p
  unfold opMul at e
  split at e
  · split at e
    · cases e
      rename_i hc
      exact .inl ⟨_, _, rx.intH, ry.intH, hc, p.here A (.int _)⟩
    · cases e
  · split at e
    · cases e
      rename_i hc
      exact .inr ⟨_, _, rx.strH, ry.intH, hc, p.here A (.str _)⟩
    · cases e
  · cases e
def opMod : D → D → Option D
  | .int i, .int j => if 0 < j then some (.int (i % j)) else none
  | _, _ => none
theorem ok_mod : Op2Ok ⟨X.K, X.mg⟩ (rI (fun _ j => 0 < j) fun i j => V.int (i % j)) b1 b2 true opMod := by
  intro B G H c σ fp x y dx dy d Q A rx ry e p
  unfold opMod at e
  split at e
  · split at e
    · cases e
      rename_i hc
      exact ⟨_, _, rx.intH, ry.intH, hc, p.here A (.int _)⟩
    · cases e
  · cases e
def opDiv : D → D → Option D
  | .int i, .int j => if 0 < j ∧ j < 1073741824 then some (.int (i / j)) else none
  | _, _ => none
theorem ok_div : Op2Ok ⟨X.K, X.mg⟩ (rI CDiv fun i j => V.int (i / j)) b1 b2 true opDiv := by
  intro B G H c σ fp x y dx dy d Q A rx ry e p
  unfold opDiv at e
  split at e
  · split at e
    · cases e
      rename_i hc
      exact ⟨_, _, rx.intH, ry.intH, hc, p.here A (.int _)⟩
    · cases e
  · cases e
def opPow : D → D → Option D
  | .int i, .int j => if 0 ≤ j ∧ j ≤ 1000000 ∧ i.natAbs < 2 ^ 64 then some (.int (i ^ j.toNat)) else none
  | _, _ => none
theorem ok_pow : Op2Ok ⟨X.K, X.mg⟩ (rI CPow fun i j => V.int (i ^ j.toNat)) b1 b2 true opPow := by
  intro B G H c σ fp x y dx dy d Q A rx ry e p
  unfold opPow at e
  split at e
  · split at e
    · cases e
      rename_i hc
      exact ⟨_, _, rx.intH, ry.intH, hc, p.here A (.int _)⟩
    · cases e
  · cases e
def opShl : D → D → Option D
  | .int i, .int j => if 0 ≤ j ∧ j ≤ 1000000 ∧ i.natAbs < 2 ^ 64 then some (.int (i * 2 ^ j.toNat)) else none
  | _, _ => none
theorem ok_shl : Op2Ok ⟨X.K, X.mg⟩ (rI CPow fun i j => V.int (i * 2 ^ j.toNat)) b1 b2 true opShl := by
  intro B G H c σ fp x y dx dy d Q A rx ry e p
  unfold opShl at e
  split at e
  · split at e
    · cases e
      rename_i hc
      exact ⟨_, _, rx.intH, ry.intH, hc, p.here A (.int _)⟩
    · cases e
  · cases e
def opShr : D → D → Option D
  | .int i, .int j => if 0 ≤ j then some (.int (i / 2 ^ j.toNat)) else none
  | _, _ => none
theorem ok_shr : Op2Ok ⟨X.K, X.mg⟩ (rI (fun _ j => 0 ≤ j) fun i j => V.int (i / 2 ^ j.toNat)) b1 b2 true opShr := by
  intro B G H c σ fp x y dx dy d Q A rx ry e p
  unfold opShr at e
  split at e
  · split at e
    · cases e
      rename_i hc
      exact ⟨_, _, rx.intH, ry.intH, hc, p.here A (.int _)⟩
    · cases e
  · cases e
def opBit (f : Int → Int → Int) : D → D → Option D
  | .int i, .int j => some (.int (f i j))
  | _, _ => none
theorem ok_bit {f : Int → Int → Int} : Op2Ok ⟨X.K, X.mg⟩ (rI0 fun i j => V.int (f i j)) b1 b2 true (opBit f) := by
  intro B G H c σ fp x y dx dy d Q A rx ry e p
  unfold opBit at e
  split at e
  · cases e
    exact ⟨_, _, rx.intH, ry.intH, p.here A (.int _)⟩
  · cases e
/-- < and its kin, of ints -/
def opRel (f : Int → Int → Bool) : D → D → Option D
  | .int i, .int j => some (.bl (f i j))
  | _, _ => none
theorem ok_rel {f : Int → Int → Bool} : Op2Ok ⟨X.K, X.mg⟩ (rI0 fun i j => V.bl (f i j)) b1 b2 true (opRel f) := by
  intro B G H c σ fp x y dx dy d Q A rx ry e p
  unfold opRel at e
  split at e
  · cases e
    exact ⟨_, _, rx.intH, ry.intH, p.here A (.bl _)⟩
  · cases e
end
end VS

/-! VS: equality, membership, items, slices. -/
namespace VS
open PySem PySem.Spec PyProof.Rows L2

mutual
def D.py : D → PyData
  | .non => .none
  | .bl b => .bool b
  | .int i => .int i
  | .str l => .str (S l)
  | .tup ds => .tuple (D.pys ds)
  | .lst ds => .list (D.pys ds)
  | .dic _ _ => .none
  | .obj _ _ _ => .none
def D.pys : List D → List PyData
  | [] => []
  | d :: ds => D.py d :: D.pys ds
end
mutual
/-- data that == may meet: no dict, no object; at most n deep -/
def D.pln : Nat → D → Bool
  | _, .non => true
  | _, .bl _ => true
  | _, .int _ => true
  | _, .str l => l.all (· < 0x110000)
  | 0, .tup _ => false
  | 0, .lst _ => false
  | n + 1, .tup ds => D.plns n ds
  | n + 1, .lst ds => D.plns n ds
  | _, .dic _ _ => false
  | _, .obj _ _ _ => false
def D.plns : Nat → List D → Bool
  | _, [] => true
  | n, d :: ds => D.pln n d && D.plns n ds
end
mutual
/-- == -/
def D.eqv : D → D → Bool
  | .non, .non => true
  | .bl a, .bl b => a == b
  | .bl a, .int j => (if a then 1 else 0) == j
  | .int i, .bl b => i == (if b then 1 else 0)
  | .int i, .int j => i == j
  | .str x, .str y => x == y
  | .tup xs, .tup ys => D.eqvs xs ys
  | .lst xs, .lst ys => D.eqvs xs ys
  | _, _ => false
def D.eqvs : List D → List D → Bool
  | [], [] => true
  | x :: xs, y :: ys => D.eqv x y && D.eqvs xs ys
  | _, _ => false
end
mutual
theorem D.lay : ∀ (n : Nat) (d : D), D.pln n d = true → d.py.canLay0 = true ∧ d.py.depth ≤ n
  | n, .non, _ => by simp [D.py, PyData.canLay0, PyData.depth]
  | n, .bl _, _ => by simp [D.py, PyData.canLay0, PyData.depth]
  | n, .int _, _ => by simp [D.py, PyData.canLay0, PyData.depth]
  | n, .str l, h => by
    simp only [D.py, PyData.canLay0, PyData.depth]
    refine ⟨?_, Nat.zero_le _⟩
    rw [D.pln] at h
    show (l.toArray).all _ = true
    rw [← Array.all_toList]
    exact h
  | 0, .tup _, h => by simp [D.pln] at h
  | 0, .lst _, h => by simp [D.pln] at h
  | n + 1, .tup ds, h => by
    rw [D.pln] at h
    obtain ⟨h1, h2⟩ := D.lays n ds h
    simp only [D.py, PyData.canLay0, PyData.depth]
    exact ⟨h1, by omega⟩
  | n + 1, .lst ds, h => by
    rw [D.pln] at h
    obtain ⟨h1, h2⟩ := D.lays n ds h
    simp only [D.py, PyData.canLay0, PyData.depth]
    exact ⟨h1, by omega⟩
  | n, .dic _ _, h => by simp [D.pln] at h
  | n, .obj _ _ _, h => by simp [D.pln] at h
theorem D.lays : ∀ (n : Nat) (ds : List D), D.plns n ds = true → PyData.canLayAll0 (D.pys ds) = true ∧ PyData.depthAll (D.pys ds) ≤ n
  | n, [], _ => by simp [D.pys, PyData.canLayAll0, PyData.depthAll]
  | n, d :: ds, h => by
    rw [D.plns] at h
    simp at h
    obtain ⟨h1, h2⟩ := D.lay n d h.1
    obtain ⟨h3, h4⟩ := D.lays n ds h.2
    simp only [D.pys, PyData.canLayAll0, PyData.depthAll]
    exact ⟨by simp [h1, h3], by omega⟩
end
theorem D.shaped {n : Nat} {d : D} (hn : n ≤ 64) (h : D.pln n d = true) : SeqAt.shaped d.py = true := by
  obtain ⟨h1, h2⟩ := D.lay n d h
  unfold SeqAt.shaped
  rw [h1]
  simp
  omega
mutual
theorem D.eqv_py : ∀ (n m : Nat) (d e : D), D.pln n d = true → D.pln m e = true → PyData.eqv d.py e.py = D.eqv d e
  | n, m, .tup xs, .tup ys, h, k => by
    cases n with
    | zero => simp [D.pln] at h
    | succ n => cases m with
      | zero => simp [D.pln] at k
      | succ m =>
        rw [D.pln] at h k
        simp only [D.py, PyData.eqv, D.eqv]
        exact D.eqvs_py n m xs ys h k
  | n, m, .lst xs, .lst ys, h, k => by
    cases n with
    | zero => simp [D.pln] at h
    | succ n => cases m with
      | zero => simp [D.pln] at k
      | succ m =>
        rw [D.pln] at h k
        simp only [D.py, PyData.eqv, D.eqv]
        exact D.eqvs_py n m xs ys h k
  | n, m, .non, e, h, k => by cases e <;> simp_all [D.py, PyData.eqv, D.eqv, D.pln]
  | n, m, .bl _, e, h, k => by cases e <;> simp_all [D.py, PyData.eqv, D.eqv, D.pln]
  | n, m, .int _, e, h, k => by cases e <;> simp_all [D.py, PyData.eqv, D.eqv, D.pln]
  | n, m, .str a, .str b, h, k => by
    simp only [D.py, PyData.eqv, D.eqv]
    by_cases e : a = b
    · subst e; simp
    · have e2 : ¬ S a = S b := fun z => e (S_inj.mp z)
      rw [beq_eq_false_iff_ne.mpr e, beq_eq_false_iff_ne.mpr e2]
  | n, m, .str _, .non, h, k => by simp [D.py, PyData.eqv, D.eqv]
  | n, m, .str _, .bl _, h, k => by simp [D.py, PyData.eqv, D.eqv]
  | n, m, .str _, .int _, h, k => by simp [D.py, PyData.eqv, D.eqv]
  | n, m, .str _, .tup _, h, k => by simp [D.py, PyData.eqv, D.eqv]
  | n, m, .str _, .lst _, h, k => by simp [D.py, PyData.eqv, D.eqv]
  | n, m, _, .dic _ _, h, k => by simp [D.pln] at k
  | n, m, _, .obj _ _ _, h, k => by simp [D.pln] at k
  | n, m, .dic _ _, _, h, k => by simp [D.pln] at h
  | n, m, .obj _ _ _, _, h, k => by simp [D.pln] at h
  | n, m, .tup _, .non, h, k => by simp [D.py, PyData.eqv, D.eqv]
  | n, m, .tup _, .bl _, h, k => by simp [D.py, PyData.eqv, D.eqv]
  | n, m, .tup _, .int _, h, k => by simp [D.py, PyData.eqv, D.eqv]
  | n, m, .tup _, .str _, h, k => by simp [D.py, PyData.eqv, D.eqv]
  | n, m, .tup _, .lst _, h, k => by simp [D.py, PyData.eqv, D.eqv]
  | n, m, .lst _, .non, h, k => by simp [D.py, PyData.eqv, D.eqv]
  | n, m, .lst _, .bl _, h, k => by simp [D.py, PyData.eqv, D.eqv]
  | n, m, .lst _, .int _, h, k => by simp [D.py, PyData.eqv, D.eqv]
  | n, m, .lst _, .str _, h, k => by simp [D.py, PyData.eqv, D.eqv]
  | n, m, .lst _, .tup _, h, k => by simp [D.py, PyData.eqv, D.eqv]
theorem D.eqvs_py : ∀ (n m : Nat) (xs ys : List D), D.plns n xs = true → D.plns m ys = true → PyData.eqvAll (D.pys xs) (D.pys ys) = D.eqvs xs ys
  | n, m, [], [], _, _ => by simp [D.pys, PyData.eqvAll, D.eqvs]
  | n, m, [], y :: ys, _, _ => by simp [D.pys, PyData.eqvAll, D.eqvs]
  | n, m, x :: xs, [], _, _ => by simp [D.pys, PyData.eqvAll, D.eqvs]
  | n, m, x :: xs, y :: ys, h, k => by
    rw [D.plns] at h k
    simp at h k
    simp only [D.pys, PyData.eqvAll, D.eqvs]
    rw [D.eqv_py n m x y h.1 k.1, D.eqvs_py n m xs ys h.2 k.2]
end
@[simp] theorem D.pys_map (ds : List D) : D.pys ds = ds.map D.py := by
  induction ds with
  | nil => rfl
  | cons d ds ih => rw [D.pys, ih]; rfl
theorem plns_all (n : Nat) (ds : List D) : D.plns n ds = ds.all (D.pln n) := by
  induction ds with
  | nil => rfl
  | cons d ds ih => rw [D.plns, ih]; rfl

section
variable {E : Wd} {G : Hp}
mutual
theorem Rp.dp : ∀ (n : Nat) (d : D) (v : V), Rp E G v d → D.pln n d = true → Dp E.K G v d.py
  | n, .non, _, h, _ => by cases h; exact .non
  | n, .bl b, _, h, _ => by cases h; exact .bl b
  | n, .int i, _, h, _ => by cases h; exact .int i
  | n, .str l, _, h, _ => by cases h; exact .str _
  | 0, .tup ds, _, h, k => by simp [D.pln] at k
  | 0, .lst ds, _, h, k => by simp [D.pln] at k
  | n + 1, .tup ds, _, h, k => by
    cases h with
    | tup h r => rw [D.py]; exact .tup h (RpL.dp n ds _ r (by rw [D.pln] at k; exact k))
  | n + 1, .lst ds, _, h, k => by
    cases h with
    | lst h r => rw [D.py]; exact .lst h (RpL.dp n ds _ r (by rw [D.pln] at k; exact k))
  | n, .dic _ _, _, h, k => by simp [D.pln] at k
  | n, .obj _ _ _, _, h, k => by simp [D.pln] at k
theorem RpL.dp : ∀ (n : Nat) (ds : List D) (vs : List V), RpL E G vs ds → D.plns n ds = true → DpAll E.K G vs (D.pys ds)
  | n, [], _, h, _ => by cases h; exact .nil
  | n, d :: ds, _, h, k => by
    cases h with
    | cons h r =>
      rw [D.plns] at k
      simp at k
      rw [D.pys]
      exact .cons (Rp.dp n d _ h k.1) (RpL.dp n ds _ r k.2)
end
end
section
variable {X : Cx} {W : WX} {b b' b1 b2 : Bool}
def opEq : D → D → Option D := fun d e => if D.pln 64 d && D.pln 64 e then some (.bl (D.eqv d e)) else none
def opNe : D → D → Option D := fun d e => if D.pln 64 d && D.pln 64 e then some (.bl (!D.eqv d e)) else none
theorem ok_eq : Op2Ok ⟨X.K, X.mg⟩ (rEqD X.K) b1 b2 true opEq := by
  intro B G H c σ fp x y dx dy d Q A rx ry e p
  unfold opEq at e
  split at e
  · cases e
    rename_i hc
    simp at hc
    exact ⟨_, _, Rp.dp 64 _ _ (vw_rp A.fine.le rx) hc.1, Rp.dp 64 _ _ (vw_rp A.fine.le ry) hc.2, D.shaped (Nat.le_refl _) hc.1, D.shaped (Nat.le_refl _) hc.2, by rw [D.eqv_py 64 64 _ _ hc.1 hc.2]; exact p.here A (.bl _)⟩
  · cases e
theorem ok_ne : Op2Ok ⟨X.K, X.mg⟩ (rNeD X.K) b1 b2 true opNe := by
  intro B G H c σ fp x y dx dy d Q A rx ry e p
  unfold opNe at e
  split at e
  · cases e
    rename_i hc
    simp at hc
    exact ⟨_, _, Rp.dp 64 _ _ (vw_rp A.fine.le rx) hc.1, Rp.dp 64 _ _ (vw_rp A.fine.le ry) hc.2, D.shaped (Nat.le_refl _) hc.1, D.shaped (Nat.le_refl _) hc.2, by rw [D.eqv_py 64 64 _ _ hc.1 hc.2]; exact p.here A (.bl _)⟩
  · cases e
/-! ### is None -/
def D.isNon : D → Bool
  | .non => true
  | _ => false
def opIs : D → D → Option D
  | d, .non => some (.bl d.isNon)
  | _, _ => none
def opIsnt : D → D → Option D
  | d, .non => some (.bl (!d.isNon))
  | _, _ => none
theorem rp_non {E : Wd} {G : Hp} {v : V} {d : D} (r : Rp E G v d) : decide (v = .non) = d.isNon := by cases r <;> simp [D.isNon]
theorem ok_is : Op2Ok ⟨X.K, X.mg⟩ (fun x y H Q => y = .non ∧ Q (.bl (decide (x = .non))) H) b1 b2 true opIs := by
  intro B G H c σ fp x y dx dy d Q A rx ry e p
  unfold opIs at e
  split at e
  · cases e
    refine ⟨by cases ry; rfl, ?_⟩
    rw [rp_non rx]
    exact p.here A (.bl _)
  · cases e
theorem ok_isnt : Op2Ok ⟨X.K, X.mg⟩ (fun x y H Q => y = .non ∧ Q (.bl (!decide (x = .non))) H) b1 b2 true opIsnt := by
  intro B G H c σ fp x y dx dy d Q A rx ry e p
  unfold opIsnt at e
  split at e
  · cases e
    refine ⟨by cases ry; rfl, ?_⟩
    rw [rp_non rx]
    exact p.here A (.bl _)
  · cases e
/-! ### in -/
def inD : D → D → Option Bool
  | .str x, .str l => some (!(Builtin.Str.occurrences (S l) (S x) 0 l.length 1).isEmpty)
  | d, .lst ds => if D.pln 64 d && D.pln 64 (.lst ds) then some (ds.any fun z => D.eqv z d) else none
  | d, .tup ds => if D.pln 64 d && D.pln 64 (.tup ds) then some (ds.any fun z => D.eqv z d) else none
  | d, .dic ks _ => match d.key with
    | some k => some (ks.any fun z => z.key == some k)
    | none => none
  | _, _ => none
def opIn : D → D → Option D := fun d e => (inD d e).map D.bl
def opNotIn : D → D → Option D := fun d e => (inD d e).map fun t => D.bl !t
def rInA (K : PySem.W.Frag) (neg : Bool) : R2 := fun x y H Q => ∃ d ds, Dp K H x d ∧ (Dp K H y (.list ds) ∨ Dp K H y (.tuple ds)) ∧ SeqAt.shaped d = true ∧ SeqAt.shaped (.list ds) = true ∧ Q (.bl (if neg then !(ds.any fun z => PyData.eqv z d) else ds.any fun z => PyData.eqv z d)) H
theorem op_inA (hu : X.A.units + 65 < cLine) : OpR X (compareOp .In) (rInA X.K false) := by
  intro pins s σ H x y v u Q I rx ry h
  obtain ⟨d, ds, hd, he, sd, se, q⟩ := h
  obtain ⟨as, r1⟩ := Dp.reads I d x v hd rx
  rcases he with he | he
  · obtain ⟨bs, r2⟩ := Dp.reads I (.list ds) y u he ry
    exact SeqAt.in_list_reads r2 r1 (SeqAt.canLay_of_shaped se) (SeqAt.canLay_of_shaped sd) (room_in_shaped sd hu) ⟨.bl _, H, I, rfl, q⟩
  · obtain ⟨bs, r2⟩ := Dp.reads I (.tuple ds) y u he ry
    exact SeqAt.in_tuple_reads r2 r1 (SeqAt.canLay_of_shaped se) (SeqAt.canLay_of_shaped sd) (room_in_shaped sd hu) ⟨.bl _, H, I, rfl, q⟩
theorem op_notInA (hu : X.A.units + 65 < cLine) : OpR X (compareOp .NotIn) (rInA X.K true) := by
  intro pins s σ H x y v u Q I rx ry h
  obtain ⟨d, ds, hd, he, sd, se, q⟩ := h
  obtain ⟨as, r1⟩ := Dp.reads I d x v hd rx
  rcases he with he | he
  · obtain ⟨bs, r2⟩ := Dp.reads I (.list ds) y u he ry
    exact SeqAt.notIn_list_reads r2 r1 (SeqAt.canLay_of_shaped se) (SeqAt.canLay_of_shaped sd) (room_in_shaped sd hu) ⟨.bl _, H, I, rfl, q⟩
  · obtain ⟨bs, r2⟩ := Dp.reads I (.tuple ds) y u he ry
    exact SeqAt.notIn_tuple_reads r2 r1 (SeqAt.canLay_of_shaped se) (SeqAt.canLay_of_shaped sd) (room_in_shaped sd hu) ⟨.bl _, H, I, rfl, q⟩
def rStrIn (neg : Bool) : R2 := fun x y H Q => ∃ i j, x = .str i ∧ y = .str j ∧ Q (.bl (if neg then !(!(Builtin.Str.occurrences j i 0 j.length 1).isEmpty) else !(Builtin.Str.occurrences j i 0 j.length 1).isEmpty)) H
def rInX (K : PySem.W.Frag) (neg : Bool) : R2 := fun x y H Q => rStrIn neg x y H Q ∨ rInA K neg x y H Q
theorem op_inX (hu : X.A.units + 65 < cLine) : OpR X (compareOp .In) (rInX X.K false) := OpR.or op_in_str (op_inA hu)
theorem op_notInX (hu : X.A.units + 65 < cLine) : OpR X (compareOp .NotIn) (rInX X.K true) := OpR.or op_notin_str (op_notInA hu)
/-- membership but in a dict -/
def inS : D → D → Option Bool
  | .str x, .str l => some (!(Builtin.Str.occurrences (S l) (S x) 0 l.length 1).isEmpty)
  | d, .lst ds => if D.pln 64 d && D.pln 64 (.lst ds) then some (ds.any fun z => D.eqv z d) else none
  | d, .tup ds => if D.pln 64 d && D.pln 64 (.tup ds) then some (ds.any fun z => D.eqv z d) else none
  | _, _ => none
theorem any_py {n : Nat} {d : D} {ds : List D} (h : D.pln 64 d = true) (k : D.plns n ds = true) : ((D.pys ds).any fun z => PyData.eqv z d.py) = ds.any fun z => D.eqv z d := by
  rw [plns_all] at k
  rw [D.pys_map, List.any_map]
  induction ds with
  | nil => rfl
  | cons x ds ih =>
    simp at k
    rw [List.any_cons, List.any_cons, ih (by simpa using k.2)]
    show (PyData.eqv x.py d.py || _) = _
    rw [D.eqv_py n 64 x d k.1 h]
theorem ok_inX {neg : Bool} : Op2Ok ⟨X.K, X.mg⟩ (rInX X.K neg) b1 b2 true (fun d e => (inS d e).map fun t => D.bl (if neg then !t else t)) := by
  intro B G H c σ fp x y dx dy d Q A rx ry e p
  have rx' := vw_rp A.fine.le rx
  have ry' := vw_rp A.fine.le ry
  obtain ⟨t, ht, rfl⟩ := Option.map_eq_some_iff.mp e
  clear e
  unfold inS at ht
  split at ht
  · cases ht
    refine .inl ⟨_, _, rx'.strH, ry'.strH, ?_⟩
    rw [S_len]
    exact p.here A (.bl _)
  · split at ht
    · cases ht
      rename_i es hc
      simp only [Bool.and_eq_true] at hc
      obtain ⟨h1, h2⟩ := hc
      have h3 : D.plns 63 es = true := by rw [D.pln] at h2; exact h2
      have hd := Rp.dp 64 _ _ ry' h2
      rw [D.py] at hd
      have hs := D.shaped (Nat.le_refl _) h2
      rw [D.py] at hs
      refine .inr ⟨_, _, Rp.dp 64 _ _ rx' h1, .inl hd, D.shaped (Nat.le_refl _) h1, hs, ?_⟩
      rw [any_py h1 h3]
      exact p.here A (.bl _)
    · cases ht
  · split at ht
    · cases ht
      rename_i es hc
      simp only [Bool.and_eq_true] at hc
      obtain ⟨h1, h2⟩ := hc
      have h3 : D.plns 63 es = true := by rw [D.pln] at h2; exact h2
      have hd := Rp.dp 64 _ _ ry' h2
      rw [D.py] at hd
      have hs : SeqAt.shaped (PyData.list (D.pys es)) = true := by
        have z := D.shaped (Nat.le_refl 64) h2
        rw [D.py] at z
        unfold SeqAt.shaped at z ⊢
        simp only [PyData.canLay0, PyData.depth] at z ⊢
        exact z
      refine .inr ⟨_, _, Rp.dp 64 _ _ rx' h1, .inr hd, D.shaped (Nat.le_refl _) h1, hs, ?_⟩
      rw [any_py h1 h3]
      exact p.here A (.bl _)
    · cases ht
  · cases ht
def opInS : D → D → Option D := fun d e => (inS d e).map fun t => D.bl t
def opNotInS : D → D → Option D := fun d e => (inS d e).map fun t => D.bl (!t)
theorem ok_inS : Op2Ok ⟨X.K, X.mg⟩ (rInX X.K false) b1 b2 true opInS := ok_inX (neg := false)
theorem ok_notInS : Op2Ok ⟨X.K, X.mg⟩ (rInX X.K true) b1 b2 true opNotInS := ok_inX (neg := true)

/-! ### items -/
def opIx (b : Bool) : D → D → Option D
  | .lst ds, .int i => (atI ds i).bind fun d => if okE b d then some d else none
  | .tup ds, .int i => (atI ds i).bind fun d => if okE b d then some d else none
  | .str l, .int i => if l.length ≤ 16777216 then (atI l i).map fun x => .str [x] else none
  | _, _ => none
theorem RpL.at {E : Wd} {G : Hp} {vs : List V} {ds : List D} (h : RpL E G vs ds) {i : Int} {d : D} (e : atI ds i = some d) : ∃ v, atI vs i = some v ∧ Rp E G v d := by
  unfold atI at e ⊢
  rw [h.length]
  cases k : ixN ds.length i with
  | none => rw [k] at e; cases e
  | some j =>
    rw [k] at e
    exact h.get e
theorem ok_ix : Op2Ok ⟨X.K, X.mg⟩ (rIx X.K) b b2 true (opIx b) := by
  intro B G H c σ fp x y dx dy d Q A rx ry e p
  unfold opIx at e
  split at e
  · rename_i ds i
    cases hk : atI ds i with
    | none => rw [hk] at e; cases e
    | some d' =>
      rw [hk] at e
      have e : (if okE b d' then some d' else none) = some d := e
      split at e
      · cases e
        rename_i hok
        obtain ⟨a, vs, rfl, h1, r1⟩ := rx.lstH A.fine.le
        obtain ⟨v, hv, rv⟩ := r1.at hk
        exact .inl ⟨_, _, _, _, rfl, ry.intH, h1, hv, p.here A (rv.known A.fine hok)⟩
      · cases e
  · rename_i ds i
    cases hk : atI ds i with
    | none => rw [hk] at e; cases e
    | some d' =>
      rw [hk] at e
      have e : (if okE b d' then some d' else none) = some d := e
      split at e
      · cases e
        rename_i hok
        obtain ⟨a, vs, rfl, h1, r1⟩ := rx.tupH A.fine.le
        obtain ⟨v, hv, rv⟩ := r1.at hk
        exact .inr (.inl ⟨_, _, _, _, rfl, ry.intH, h1, hv, p.here A (rv.known A.fine hok)⟩)
      · cases e
  · rename_i l i
    split at e
    · rename_i hl
      cases hk : atI l i with
      | none => rw [hk] at e; cases e
      | some z =>
        rw [hk] at e
        cases e
        refine .inr (.inr ⟨_, _, z, rx.strH, ry.intH, by rw [S_len, sizeLine_eq]; exact hl, hk, ?_⟩)
        exact p.here A (.str [z])
    · cases e
  · cases e
theorem px_ix {a eb : Expr} {pos : Pos} {ga gb : Env → R D} (ha : PX X W b a ga) (hb : PX X W b2 eb gb) (hs : PlainIx eb := by exact fun _ _ => rfl) : PX X W true (.Subscript a eb pos) (eOp2 (opIx b) ga gb) :=
  pe_mono (pe_ix ix_seq ha hb hs) (tx_op2 ok_ix)

/-! ### slices -/
def eO (g : Env → R D) : Env → R (Option Int) := fun c => g c >>= fun d => match d with
  | .int i => .ok (some i)
  | _ => .stuck
def eNoO : Env → R (Option Int) := fun _ => .ok none
def PostO (E : Wd) (B : Bs) (c : Env) (σ : L2.St) (fp : List Addr) (G H : Hp) (Q : Option Int → Hp → Prop) (t : Option Int) : Prop :=
  ∀ G' H', Same G G' → Same H H' → Abs E B G' H' c σ fp → Q t H'
def TXO (E : Wd) (W : WX) (g : Env → R (Option Int)) : TO := fun σ H Q => ∃ B G c fp, Abs E B G H c σ fp ∧ Res E W B c σ fp G H (g c) (PostO E B c σ fp G H Q)
def PXO (X : Cx) (W : WX) (e : Option Expr) (g : Env → R (Option Int)) : Prop := PO X e (TXO ⟨X.K, X.mg⟩ W g)
theorem po_mono {e : Option Expr} {t t' : TO} (h : PO X e t) (k : ∀ σ H Q, t' σ H Q → t σ H Q) : PO X e t' := ⟨fun pins s σ H Q I q => h.run pins s σ H Q I (k σ H Q q)⟩
theorem pxo_no : PXO X W none eNoO := po_mono po_none fun σ H Q ⟨B, G, c, fp, A, q⟩ => q G H (Same.refl _) (Same.refl _) A
theorem pxo_some {e : Expr} {g : Env → R D} (h : PX X W b e g) : PXO X W (some e) (eO g) := po_mono (po_some h) fun σ H Q ⟨B, G, c, fp, A, q⟩ => tx_seq A q fun d e v G1 H1 s1 t1 A1 r1 q1 => by
  cases d with
  | int i => exact ⟨i, r1.intH, q1 G1 H1 s1 t1 A1⟩
  | _ => exact q1.elim
theorem txo_seq {α : Type} {E : Wd} {W : WX} {B : Bs} {c : Env} {σ : L2.St} {fp : List Addr} {G H : Hp} {ga : Env → R (Option Int)} {f : Option Int → R α} {P : α → Prop} {Q' : Option Int → Hp → Prop} (A : Abs E B G H c σ fp) (h : Res E W B c σ fp G H (ga c >>= f) P)
    (k : ∀ t, ga c = .ok t → ∀ G1 H1, Same G G1 → Same H H1 → Abs E B G1 H1 c σ fp → Res E W B c σ fp G1 H1 (f t) P → Q' t H1) : TXO E W ga σ H Q' := by
  refine ⟨B, G, c, fp, A, ?_⟩
  cases e : ga c with
  | ok d =>
    rw [e] at h
    exact fun G1 H1 s t A1 => k d e G1 H1 s t A1 (Res.grow (r := f d) h s t fun _ _ z => z)
  | ex x => rw [e] at h; exact h
  | stuck => rw [e] at h; exact h
/-- the part of a list between two places -/
def cutD {α : Type} (xs : List α) (lo hi : Option Int) : List α := (xs.drop (HT.sIx xs.length 0 lo)).take (HT.sIx xs.length xs.length hi - HT.sIx xs.length 0 lo)
def opSl (b : Bool) (d : D) (lo hi : Option Int) : Option D :=
  match d with
  | .lst ds => if okEl b (cutD ds lo hi) then some (.lst (cutD ds lo hi)) else none
  | .tup ds => if okEl b (cutD ds lo hi) then some (.tup (cutD ds lo hi)) else none
  | .str l => if l.length ≤ 16777216 then some (.str (cutD l lo hi)) else none
  | _ => none
def eSl (b : Bool) (g : Env → R D) (gl gh : Env → R (Option Int)) : Env → R D := fun c => g c >>= fun d => gl c >>= fun lo => gh c >>= fun hi => lift (opSl b d lo hi)
def rSlX' (K : PySem.W.Frag) : V → Option Int → Option Int → Hp → VK → Prop := fun x lo hi H Q => rSlL K x lo hi H Q ∨ rSlA K x lo hi H Q ∨ rSlS x lo hi H Q
theorem sl_X : SlR X (rSlX' X.K) := sl_list.or (sl_tupA.or sl_str)
theorem RpL.cut {E : Wd} {G : Hp} {vs : List V} {ds : List D} (h : RpL E G vs ds) (lo hi : Option Int) : RpL E G (cutV vs lo hi) (cutD ds lo hi) := by
  unfold cutV cutD
  rw [h.length]
  exact (h.drop _).take _
theorem cut_whole {α : Type} {xs : List α} {lo hi : Option Int} (h : HT.sIx xs.length 0 lo = 0 ∧ HT.sIx xs.length xs.length hi = xs.length) : cutD xs lo hi = xs := by
  unfold cutD
  rw [h.1, h.2]
  simp
theorem ok_sl {B : Bs} {G H : Hp} {c : Env} {σ : L2.St} {fp : List Addr} {x : V} {d d' : D} {lo hi : Option Int} {Q : VK} (A : Abs ⟨X.K, X.mg⟩ B G H c σ fp) (rx : Rp ⟨X.K, X.mg⟩ (vw b G H) x d) (e : opSl b d lo hi = some d') (p : Post ⟨X.K, X.mg⟩ B c σ fp G H true Q d') : rSlX' X.K x lo hi H Q := by
  unfold opSl at e
  split at e
  · split at e
    · cases e
      rename_i hok
      obtain ⟨a, vs, rfl, h1, r1⟩ := rx.lstH A.fine.le
      exact .inl ⟨_, _, rfl, h1, fun q hq => p.new A hq fun s => .lst (.inl (.inl upd_same)) (((r1.cut lo hi).known A.fine hok).mono s)⟩
    · cases e
  · split at e
    · cases e
      rename_i ds hok
      obtain ⟨a, vs, rfl, h1, r1⟩ := rx.tupH A.fine.le
      have r2 := (r1.cut lo hi).known A.fine hok
      refine .inr (.inl ⟨_, _, rfl, h1, fun hw => ?_, fun hw q hq => p.new A hq fun s => .tup (.inl (.inl upd_same)) (r2.mono s)⟩)
      have e1 : cutV vs lo hi = vs := cut_whole hw
      rw [r1.length] at hw
      have e2 : cutD ds lo hi = ds := cut_whole hw
      rw [e1, e2] at r2
      rw [e2] at p
      refine p.here A (.tup ?_ r2)
      rcases h1 with (z | ⟨o, z⟩) | z
      · exact .inl (.inl (A.fine.tup _ _ z rfl))
      · exact .inl (.inr ⟨o, A.fine.tup _ _ z rfl⟩)
      · exact .inr z
    · cases e
  · split at e
    · cases e
      rename_i l hl
      refine .inr (.inr ⟨S l, rx.strH, by rw [S_len, sizeLine_eq]; exact hl, ?_⟩)
      have e2 : cutS (S l) lo hi = S (cutD l lo hi) := by
        unfold cutS cutD S
        simp [Str.length]
      rw [e2]
      exact p.here A (.str _)
    · cases e
  · cases e
theorem px_sl {a : Expr} {lo hi : Option Expr} {pos p2 : Pos} {g : Env → R D} {gl gh : Env → R (Option Int)} (ha : PX X W b a g) (hl : PXO X W lo gl) (hh : PXO X W hi gh) : PX X W true (.Subscript a (.Slice lo hi none p2) pos) (eSl b g gl gh) :=
  pe_mono (pe_slice sl_X ha hl hh) fun σ H Q ⟨B, G, c, fp, A, q⟩ => tx_seq A q fun d e v G1 H1 s1 t1 A1 r1 q1 => txo_seq A1 q1 fun lo e2 G2 H2 s2 t2 A2 q2 => txo_seq A2 q2 fun hi e3 G3 H3 s3 t3 A3 q3 => by
    obtain ⟨d3, e3, p3⟩ := Res.lift q3
    exact ok_sl A3 (vw_mono (s2.trans s3) (t2.trans t3) r1) e3 (p3.grow (s1.trans (s2.trans s3)) (t1.trans (t2.trans t3)))
end
end VS

/-! VS: built-in functions and methods. -/
namespace VS
open PySem PySem.Spec PyProof.Rows L2

section
variable {X : Cx} {W : WX} {b b' b1 b2 : Bool}
theorem RpL.one {E : Wd} {G : Hp} {vs : List V} {d : D} (h : RpL E G vs [d]) : ∃ v, vs = [v] ∧ Rp E G v d := by
  cases h with
  | cons h r => cases r; exact ⟨_, rfl, h⟩
theorem RpL.two {E : Wd} {G : Hp} {vs : List V} {d e : D} (h : RpL E G vs [d, e]) : ∃ v w, vs = [v, w] ∧ Rp E G v d ∧ Rp E G w e := by
  cases h with
  | cons h r => cases r with
    | cons k r => cases r; exact ⟨_, _, rfl, h, k⟩
theorem vw_rd {G H : Hp} {a : Addr} {u : HO} (s : Same G H) (h : Rd (vw b G H) a u) : Rd H a u := Same.rd (same_vw b s) h
theorem Rp.dicH {E : Wd} {G H : Hp} {v : V} {ks ds : List D} (r : Rp E (vw b G H) v (.dic ks ds)) (s : Same G H) : ∃ a kvs, v = .ref a ∧ Rd H a (.dK kvs) ∧ ks.map D.key = kvs.map (fun p => some p.1) ∧ RpL E (vw b G H) (kvs.map (·.2)) ds := by
  cases r with
  | dic h e r => exact ⟨_, _, rfl, Same.rd (same_vw b s) h, e, r⟩

/-! ### len -/
def fLen : List D → Option D
  | [.str l] => if l.length ≤ 16777216 then some (.int l.length) else none
  | [.lst ds] => some (.int ds.length)
  | [.tup ds] => some (.int ds.length)
  | [.dic ks _] => some (.int ks.length)
  | _ => none
def rLenA (K : PySem.W.Frag) : List V → Hp → VK → Prop := fun xs H Q => (∃ x n, xs = [x] ∧ LenV K x H n ∧ Q (.int n) H) ∨ ∃ a kvs, xs = [V.ref a] ∧ Rd H a (.dK kvs) ∧ Q (.int kvs.length) H
theorem call_lenA : CallR X (.builtin "len") (rLenA X.K) := call_len.or fun pins s σ H xs us Q I r h => by
  obtain ⟨a, kvs, rfl, ha, q⟩ := h
  obtain ⟨u, rfl, ru⟩ := vals1 r
  cases ru
  exact d_len I ha fun t s' I' => ⟨.int kvs.length, H, I', ⟨t, rfl⟩, q⟩
theorem ok_len : CallOk ⟨X.K, X.mg⟩ (rLenA X.K) b true fLen := by
  intro B G H c σ fp vs ds d Q A r e p
  unfold fLen at e
  split at e
  · split at e
    · cases e
      rename_i l hl
      obtain ⟨v, rfl, rv⟩ := r.one
      cases rv.strH
      exact .inl ⟨_, l.length, rfl, ⟨by rw [S_len, sizeLine_eq]; exact hl, by rw [S_len]⟩, p.here A (.int _)⟩
    · cases e
  · cases e
    rename_i ds
    obtain ⟨v, rfl, rv⟩ := r.one
    obtain ⟨a, vs, rfl, h1, r1⟩ := rv.lstH A.fine.le
    exact .inl ⟨_, ds.length, rfl, .inl ⟨vs, h1, r1.length.symm⟩, p.here A (.int _)⟩
  · cases e
    rename_i ds
    obtain ⟨v, rfl, rv⟩ := r.one
    obtain ⟨a, vs, rfl, h1, r1⟩ := rv.tupH A.fine.le
    exact .inl ⟨_, ds.length, rfl, .inr ⟨vs, h1, r1.length.symm⟩, p.here A (.int _)⟩
  · cases e
    rename_i ks ds
    obtain ⟨v, rfl, rv⟩ := r.one
    obtain ⟨a, kvs, rfl, h1, e1, r1⟩ := rv.dicH A.fine.le
    have hl : kvs.length = ks.length := by
      have := congrArg List.length e1
      simpa using this.symm
    refine .inr ⟨_, _, rfl, h1, ?_⟩
    rw [hl]
    exact p.here A (.int _)
  · cases e

/-! ### abs, int, max, min, list, tuple, sum, any, all -/
def fAbs : List D → Option D
  | [.int i] => some (.int (if i < 0 then -i else i))
  | _ => none
theorem ok_abs : CallOk ⟨X.K, X.mg⟩ (fun xs H Q => ∃ i, xs = [V.int i] ∧ Q (.int (if i < 0 then -i else i)) H) b true fAbs := by
  intro B G H c σ fp vs ds d Q A r e p
  unfold fAbs at e
  split at e
  · cases e
    obtain ⟨v, rfl, rv⟩ := r.one
    cases rv.intH
    exact ⟨_, rfl, p.here A (.int _)⟩
  · cases e
def fInt : List D → Option D
  | [.int i] => some (.int i)
  | [.bl t] => some (.int (if t then 1 else 0))
  | _ => none
theorem ok_int : CallOk ⟨X.K, X.mg⟩ (fun xs H Q => (∃ i, xs = [V.int i] ∧ Q (.int i) H) ∨ ∃ k, xs = [V.bl k] ∧ Q (.int (if k then 1 else 0)) H) b true fInt := by
  intro B G H c σ fp vs ds d Q A r e p
  unfold fInt at e
  split at e
  · cases e
    obtain ⟨v, rfl, rv⟩ := r.one
    cases rv.intH
    exact .inl ⟨_, rfl, p.here A (.int _)⟩
  · cases e
    obtain ⟨v, rfl, rv⟩ := r.one
    cases rv.blH
    exact .inr ⟨_, rfl, p.here A (.int _)⟩
  · cases e
def fMax2 : List D → Option D
  | [.int i, .int j] => some (.int (if j > i then j else i))
  | _ => none
theorem ok_max2 : CallOk ⟨X.K, X.mg⟩ (fun xs H Q => ∃ i j, xs = [V.int i, V.int j] ∧ Q (.int (if j > i then j else i)) H) b true fMax2 := by
  intro B G H c σ fp vs ds d Q A r e p
  unfold fMax2 at e
  split at e
  · cases e
    obtain ⟨v, w, rfl, rv, rw'⟩ := r.two
    cases rv.intH
    cases rw'.intH
    exact ⟨_, _, rfl, p.here A (.int _)⟩
  · cases e
def fMin2 : List D → Option D
  | [.int i, .int j] => some (.int (if j < i then j else i))
  | _ => none
theorem ok_min2 : CallOk ⟨X.K, X.mg⟩ (fun xs H Q => ∃ i j, xs = [V.int i, V.int j] ∧ Q (.int (if j < i then j else i)) H) b true fMin2 := by
  intro B G H c σ fp vs ds d Q A r e p
  unfold fMin2 at e
  split at e
  · cases e
    obtain ⟨v, w, rfl, rv, rw'⟩ := r.two
    cases rv.intH
    cases rw'.intH
    exact ⟨_, _, rfl, p.here A (.int _)⟩
  · cases e
def fList (b : Bool) : List D → Option D
  | [.lst ds] => if okEl b ds then some (.lst ds) else none
  | [.tup ds] => if okEl b ds then some (.lst ds) else none
  | [.dic ks _] => if ks.length ≤ 16777216 then some (.lst ks) else none
  | _ => none
def rListA (K : PySem.W.Frag) : List V → Hp → VK → Prop := fun xs H Q => (∃ p ys, xs = [V.ref p] ∧ (SqL K H p ys ∨ SqT K H p ys) ∧ ∀ l, H l = none → Q (.ref l) (upd H l (.lst ys))) ∨
  ∃ (a : Addr) (kvs : List (Key × V)), xs = [.ref a] ∧ Rd H a (.dK kvs) ∧ ∀ p, H p = none → Q (.ref p) (upd H p (.lst (kvs.map fun kv => kV kv.1)))
theorem call_listA (hc : X.calm = true) : CallR X (.type "list") (rListA X.K) := call_list_of.or (call_listD hc)
theorem key_rp {E : Wd} {G : Hp} {d : D} {k : Key} (h : d.key = some k) : Rp E G (kV k) d := by
  cases d <;> simp [D.key] at h
  · subst h; exact .int _
  · subst h; exact .str _
theorem keys_rp {E : Wd} {G : Hp} : ∀ {ks : List D} {kvs : List (Key × V)}, ks.map D.key = kvs.map (fun p => some p.1) → RpL E G (kvs.map fun kv => kV kv.1) ks
  | [], [], _ => .nil
  | [], _ :: _, h => by simp at h
  | _ :: _, [], h => by simp at h
  | k :: ks, kv :: kvs, h => by
    simp at h
    exact .cons (key_rp h.1) (keys_rp (by simpa using h.2))
theorem ok_list : CallOk ⟨X.K, X.mg⟩ (rListA X.K) b true (fList b) := by
  intro B G H c σ fp vs ds d Q A r e p
  unfold fList at e
  split at e
  · split at e
    · cases e
      rename_i hk
      obtain ⟨v, rfl, rv⟩ := r.one
      obtain ⟨a, vs, rfl, h1, r1⟩ := rv.lstH A.fine.le
      exact .inl ⟨_, _, rfl, .inl h1, fun q hq => p.new A hq fun s => .lst (.inl (.inl upd_same)) ((r1.known A.fine hk).mono s)⟩
    · cases e
  · split at e
    · cases e
      rename_i hk
      obtain ⟨v, rfl, rv⟩ := r.one
      obtain ⟨a, vs, rfl, h1, r1⟩ := rv.tupH A.fine.le
      exact .inl ⟨_, _, rfl, .inr h1, fun q hq => p.new A hq fun s => .lst (.inl (.inl upd_same)) ((r1.known A.fine hk).mono s)⟩
    · cases e
  · split at e
    · cases e
      rename_i ks ds hl
      obtain ⟨v, rfl, rv⟩ := r.one
      obtain ⟨a, kvs, rfl, h1, e1, r1⟩ := rv.dicH A.fine.le
      exact .inr ⟨_, _, rfl, h1, fun q hq => p.new A hq fun s => .lst (.inl (.inl upd_same)) (keys_rp e1)⟩
    · cases e
  · cases e
def fTuple (b : Bool) : List D → Option D
  | [.lst ds] => if okEl b ds then some (.tup ds) else none
  | [.tup ds] => if okEl b ds then some (.tup ds) else none
  | _ => none
theorem known_tup {B : Bs} {G H : Hp} {K : PySem.W.Frag} (f : Fine B G H) {a : Addr} {xs : List V} (h : SqT K H a xs) : SqT K G a xs := by
  rcases h with (z | ⟨o, z⟩) | z
  · exact .inl (.inl (f.tup _ _ z rfl))
  · exact .inl (.inr ⟨o, f.tup _ _ z rfl⟩)
  · exact .inr z
theorem ok_tuple : CallOk ⟨X.K, X.mg⟩ (fun xs H Q => ∃ p ys, xs = [V.ref p] ∧ ((SqL X.K H p ys ∧ ∀ l, H l = none → Q (.ref l) (upd H l (.tup ys))) ∨ (SqT X.K H p ys ∧ Q (.ref p) H))) b true (fTuple b) := by
  intro B G H c σ fp vs ds d Q A r e p
  unfold fTuple at e
  split at e
  · split at e
    · cases e
      rename_i hk
      obtain ⟨v, rfl, rv⟩ := r.one
      obtain ⟨a, vs, rfl, h1, r1⟩ := rv.lstH A.fine.le
      exact ⟨_, _, rfl, .inl ⟨h1, fun q hq => p.new A hq fun s => .tup (.inl (.inl upd_same)) ((r1.known A.fine hk).mono s)⟩⟩
    · cases e
  · split at e
    · cases e
      rename_i hk
      obtain ⟨v, rfl, rv⟩ := r.one
      obtain ⟨a, vs, rfl, h1, r1⟩ := rv.tupH A.fine.le
      exact ⟨_, _, rfl, .inr ⟨h1, p.here A (.tup (known_tup A.fine h1) (r1.known A.fine hk))⟩⟩
    · cases e
  · cases e
def asInt : D → Option Int
  | .int i => some i
  | _ => none
def asInts (ds : List D) : Option (List Int) := ds.mapM asInt
theorem asInts_cons (d : D) (ds : List D) : asInts (d :: ds) = (asInt d).bind fun i => (asInts ds).map fun is => i :: is := by
  unfold asInts
  rw [List.mapM_cons]
  cases asInt d <;> simp
  cases List.mapM asInt ds <;> rfl
@[simp] theorem asInts_map (ns : List Int) : asInts (ns.map D.int) = some ns := by
  induction ns with
  | nil => rfl
  | cons n ns ih => rw [List.map_cons, asInts_cons, ih]; rfl
theorem asInts_rp {E : Wd} {G : Hp} : ∀ {ds : List D} {vs : List V} {ns : List Int}, RpL E G vs ds → asInts ds = some ns → vs = ns.map V.int
  | [], _, _, r, e => by cases r; cases e; rfl
  | d :: ds, _, ns, r, e => by
    cases r with
    | cons h r =>
      rw [asInts_cons] at e
      cases d <;> simp [asInt] at e
      obtain ⟨a, e1, rfl⟩ := e
      rw [asInts_rp r e1, h.intH]
      rfl
def fSum : List D → Option D
  | [.lst ds] => (asInts ds).map fun ns => .int ns.sum
  | _ => none
theorem ok_sum : CallOk ⟨X.K, X.mg⟩ (rSum X.K) b true fSum := by
  intro B G H c σ fp vs ds d Q A r e p
  unfold fSum at e
  split at e
  · obtain ⟨ns, e1, rfl⟩ := Option.map_eq_some_iff.mp e
    obtain ⟨v, rfl, rv⟩ := r.one
    obtain ⟨a, vs, rfl, h1, r1⟩ := rv.lstH A.fine.le
    rw [asInts_rp r1 e1] at h1
    exact ⟨_, ns, rfl, h1, p.here A (.int _)⟩
  · cases e
def asBs (ds : List D) : Option (List Bool) := ds.mapM asB
theorem asBs_cons (d : D) (ds : List D) : asBs (d :: ds) = (asB d).bind fun i => (asBs ds).map fun is => i :: is := by
  unfold asBs
  rw [List.mapM_cons]
  cases asB d <;> simp
  cases List.mapM asB ds <;> rfl
@[simp] theorem asBs_map (ns : List Bool) : asBs (ns.map D.bl) = some ns := by
  induction ns with
  | nil => rfl
  | cons n ns ih => rw [List.map_cons, asBs_cons, ih]; rfl
theorem asBs_rp {E : Wd} {G : Hp} : ∀ {ds : List D} {vs : List V} {ns : List Bool}, RpL E G vs ds → asBs ds = some ns → vs = ns.map V.bl
  | [], _, _, r, e => by cases r; cases e; rfl
  | d :: ds, _, ns, r, e => by
    cases r with
    | cons h r =>
      rw [asBs_cons] at e
      cases d <;> simp [asB] at e
      obtain ⟨a, e1, rfl⟩ := e
      rw [asBs_rp r e1, h.blH]
      rfl
def fAny : List D → Option D
  | [.lst ds] => (asBs ds).map fun ns => .bl (ns.any id)
  | _ => none
theorem ok_any : CallOk ⟨X.K, X.mg⟩ (rAny X.K) b true fAny := by
  intro B G H c σ fp vs ds d Q A r e p
  unfold fAny at e
  split at e
  · obtain ⟨ns, e1, rfl⟩ := Option.map_eq_some_iff.mp e
    obtain ⟨v, rfl, rv⟩ := r.one
    obtain ⟨a, vs, rfl, h1, r1⟩ := rv.lstH A.fine.le
    rw [asBs_rp r1 e1] at h1
    exact ⟨_, ns, rfl, h1, p.here A (.bl _)⟩
  · cases e
def fAll : List D → Option D
  | [.lst ds] => (asBs ds).map fun ns => .bl (ns.all id)
  | _ => none
theorem ok_all : CallOk ⟨X.K, X.mg⟩ (rAll X.K) b true fAll := by
  intro B G H c σ fp vs ds d Q A r e p
  unfold fAll at e
  split at e
  · obtain ⟨ns, e1, rfl⟩ := Option.map_eq_some_iff.mp e
    obtain ⟨v, rfl, rv⟩ := r.one
    obtain ⟨a, vs, rfl, h1, r1⟩ := rv.lstH A.fine.le
    rw [asBs_rp r1 e1] at h1
    exact ⟨_, ns, rfl, h1, p.here A (.bl _)⟩
  · cases e

/-! ### isinstance of a built-in type -/
inductive Ty where | bool | int | str | list | tuple | dict
def Ty.name : Ty → String
  | .bool => "bool" | .int => "int" | .str => "str" | .list => "list" | .tuple => "tuple" | .dict => "dict"
def isI : Ty → D → Option Bool
  | T, .non => some false
  | .bool, .bl _ => some true
  | .int, .bl _ => some true
  | _, .bl _ => some false
  | .int, .int _ => some true
  | _, .int _ => some false
  | .str, .str _ => some true
  | _, .str _ => some false
  | .list, .lst _ => some true
  | _, .lst _ => some false
  | .tuple, .tup _ => some true
  | _, .tup _ => some false
  | .dict, .dic _ _ => some true
  | _, .dic _ _ => some false
  | _, .obj _ _ _ => none
def eIs (T : Ty) (g : Env → R D) : Env → R D := fun c => g c >>= fun d => lift ((isI T d).map D.bl)
theorem is_kit : ∀ (T : Ty), kitB "NoneType" T.name = some false ∧ kitB "bool" T.name = some (match T with | .bool => true | .int => true | _ => false) ∧ kitB "int" T.name = some (match T with | .int => true | _ => false) ∧
    kitB "str" T.name = some (match T with | .str => true | _ => false) ∧ kitB "list" T.name = some (match T with | .list => true | _ => false) ∧ kitB "tuple" T.name = some (match T with | .tuple => true | _ => false) ∧ kitB "dict" T.name = some (match T with | .dict => true | _ => false) := by
  intro T
  cases T <;> decide +kernel
theorem is_ty {K : PySem.W.Frag} {mg : Str → Option Value} {H : Hp} {T : Ty} {v : V} {d : D} {t : Bool} (r : Rp ⟨K, mg⟩ H v d) (e : isI T d = some t) : ∃ u, TyX K H v u ∧ PySem.W.kitOne K u (.type T.name) = some t := by
  obtain ⟨k1, k2, k3, k4, k5, k6, k7⟩ := is_kit T
  cases r with
  | non => exact ⟨_, .base .non, kit_ty (by rw [k1]; cases T <;> simpa [isI] using e)⟩
  | bl x => exact ⟨_, .base (.bl x), kit_ty (by rw [k2]; cases T <;> simpa [isI] using e)⟩
  | int i => exact ⟨_, .base (.int i), kit_ty (by rw [k3]; cases T <;> simpa [isI] using e)⟩
  | str l => exact ⟨_, .base (.str _), kit_ty (by rw [k4]; cases T <;> simpa [isI] using e)⟩
  | lst h r =>
    refine ⟨.type "list", ?_, kit_ty (by rw [k5]; cases T <;> simpa [isI] using e)⟩
    rcases h with (h | ⟨o, h⟩) | ⟨o, its, n, h1, h2, _⟩
    · exact .base (.lst h)
    · exact .base (.frz h)
    · exact .kList h1 h2
  | tup h r =>
    refine ⟨.type "tuple", ?_, kit_ty (by rw [k6]; cases T <;> simpa [isI] using e)⟩
    rcases h with (h | ⟨o, h⟩) | ⟨o, its, n, h1, h2, _⟩
    · exact .base (.tup h)
    · exact .fTuple h
    · exact .kTuple h1 h2
  | dic h _ _ =>
    refine ⟨.type "dict", ?_, kit_ty (by rw [k7]; cases T <;> simpa [isI] using e)⟩
    rcases h with h | ⟨o, h⟩
    · exact .base (.dK h)
    · exact .fDict h
  | obj _ _ _ _ => cases T <;> simp [isI] at e
theorem px_is {a : Expr} {g : Env → R D} {x : Str} {p p2 pos : Pos} (T : Ty) (h : PX X W b a g) (hm : X.mg "isinstance" = none) (hx : X.mg x = none) (hT : bootBuiltins x = some (.type T.name) := by decide +kernel) (hgx : Gl X x := by rfl) (hg : Gl X "isinstance" := by rfl)
    (hn : x ≠ "__name__" := by decide) (hdb : (x == ("__debug__" : Str)) = false := by decide) (he : starEach [a, .Name x p2] X.env = (false, eval a X.env) :: starEach [.Name x p2] X.env := by rfl) (hpl : (backTo pos (starEach [.Name x p2] X.env)).any (·.1) = false := by rfl)
    (hs2 : starEach [.Name x p2] X.env = (false, eval (.Name x p2) X.env) :: starEach [] X.env := by rfl) :
    PX X W true (.Call (.Name "isinstance" p) [a, .Name x p2] [] pos) (eIs T g) :=
  pe_mono (pe_callB call_isi hg hm (by decide +kernel) (pa_cons h (pa_cons (pe_bltn (v := .ty T.name) hgx hx hT rfl hn hdb) pa_nil hs2) he) (by decide) (by decide) he hpl) fun σ H Q ⟨B, G, c, fp, A, q⟩ => tx_seq A q fun d e v G1 H1 s1 t1 A1 r1 q1 => by
    obtain ⟨d3, e3, p3⟩ := Res.lift q1
    obtain ⟨t, ht, rfl⟩ := Option.map_eq_some_iff.mp e3
    obtain ⟨u, h1, h2⟩ := is_ty (vw_rp A1.fine.le r1) ht
    exact ⟨_, _, u, _, t, rfl, .ty _, h1, h2, p3 _ G1 H1 s1 t1 A1 (.bl _)⟩

/-! ### methods of texts -/
def asS : D → Option (List Nat)
  | .str l => some l
  | _ => none
def eMS (f : List Nat → List D → Option D) (g : Env → R D) (gs : Env → R (List D)) : Env → R D := fun c => g c >>= fun d => lift (asS d) >>= fun l => gs c >>= fun ds => lift (f l ds)
def MethOk (E : Wd) (r : V → List V → Hp → VK → Prop) (b b' : Bool) (f : List Nat → List D → Option D) : Prop :=
  ∀ {B : Bs} {G H : Hp} {c : Env} {σ : L2.St} {fp : List Addr} {l : List Nat} {vs : List V} {ds : List D} {d : D} {Q : VK}, Abs E B G H c σ fp → RpL E (vw b G H) vs ds → f l ds = some d → Post E B c σ fp G H b' Q d → r (.str (S l)) vs H Q
theorem asS_rp {E : Wd} {G : Hp} {v : V} {d : D} {l : List Nat} (h : Rp E G v d) (e : asS d = some l) : v = .str (S l) := by
  cases d <;> simp [asS] at e
  subst e
  exact h.strH
theorem px_ms {id : String} {name : Str} {r : V → List V → Hp → VK → Prop} {f : List Nat → List D → Option D} {o e : Expr} {es : List Expr} {g : Env → R D} {gs : Env → R (List D)} {apos cpos : Pos} (slot : Slot "str" name id) (hty : typeOf (.builtin id) = pure (.type "method_descriptor")) (hm : MtR X id r) (hr : MethOk ⟨X.K, X.mg⟩ r b b' f)
    (ho : PX X W b1 o g) (ha : PXA X W b (e :: es) gs)
    (hbase : attributeBase o name X.env (eval o X.env) = eval o X.env := by rfl)
    (hfew : ((backTo cpos (starEach (e :: es) X.env)).all (fun x => !x.1) && (backToKw cpos (keywordEach [] X.env)).all (fun x => x.1.isSome)
      && decide ((e :: es).length + ([] : List Keyword).length + (if ([] : List Keyword).isEmpty then 0 else 1) < 30)) = true := by rfl)
    (hline : (apos.endLine == cpos.line) = true := by rfl) (hs : starEach (e :: es) X.env = (false, eval e X.env) :: starEach es X.env := by rfl) (hplain : (backTo cpos (starEach es X.env)).any (·.1) = false := by rfl) :
    PX X W b' (.Call (.Attribute o name apos) (e :: es) [] cpos) (eMS f g gs) :=
  pe_mono (pe_bm PySem.F.plainAttrs_str slot hty hm ho ha hbase hfew hline hs hplain) fun σ H Q ⟨B, G, c, fp, A, q⟩ => tx_seq A q fun d e v G1 H1 s1 t1 A1 r1 q1 => by
    cases hd : asS d with
    | none => rw [hd] at q1; exact q1.elim
    | some l =>
      rw [hd] at q1
      cases asS_rp r1 hd
      refine ⟨rfl, txa_seq A1 q1 fun ds e2 vs G2 H2 s2 t2 A2 r2 q2 => ?_⟩
      obtain ⟨d3, e3, p3⟩ := Res.lift q2
      exact hr A2 r2 e3 (p3.grow (s1.trans s2) (t1.trans t2))
def asSs (ds : List D) : Option (List (List Nat)) := ds.mapM asS
theorem asSs_cons (d : D) (ds : List D) : asSs (d :: ds) = (asS d).bind fun i => (asSs ds).map fun is => i :: is := by
  unfold asSs
  rw [List.mapM_cons]
  cases asS d <;> simp
  cases List.mapM asS ds <;> rfl
@[simp] theorem asSs_map (ns : List (List Nat)) : asSs (ns.map D.str) = some ns := by
  induction ns with
  | nil => rfl
  | cons n ns ih => rw [List.map_cons, asSs_cons, ih]; rfl
theorem asSs_rp {E : Wd} {G : Hp} : ∀ {ds : List D} {vs : List V} {ns : List (List Nat)}, RpL E G vs ds → asSs ds = some ns → vs = (ns.map S).map V.str
  | [], _, _, r, e => by cases r; cases e; rfl
  | d :: ds, _, ns, r, e => by
    cases r with
    | cons h r =>
      rw [asSs_cons] at e
      cases d <;> simp [asS] at e
      obtain ⟨a, e1, rfl⟩ := e
      rw [asSs_rp r e1, h.strH]
      rfl
/-- sep.join(list of texts) -/
def fJoin (l : List Nat) : List D → Option D
  | [.lst ds] => (asSs ds).bind fun xs => if (xs.map List.length).sum + xs.length * l.length ≤ 16777216 then some (.str (TL.joinL l xs)) else none
  | [.tup ds] => (asSs ds).bind fun xs => if (xs.map List.length).sum + xs.length * l.length ≤ 16777216 then some (.str (TL.joinL l xs)) else none
  | _ => none
theorem join_S (l : List Nat) (xs : List (List Nat)) : Txt.join (S l) (xs.map S) = S (TL.joinL l xs) := by
  have h := TL.tl_join (S l) (xs.map S)
  rw [TL.join_eq]
  have e : (xs.map S).map TL.tl = xs := by
    rw [List.map_map]
    have : TL.tl ∘ S = id := by funext x; rfl
    rw [this, List.map_id]
  rw [e] at h
  have h2 : (Str.join (S l) (xs.map S)).cps.toList = TL.joinL l xs := h
  show _ = (⟨(TL.joinL l xs).toArray⟩ : Str)
  rw [← h2]
theorem ok_join : MethOk ⟨X.K, X.mg⟩ (fun x xs H Q => ∃ a p, ∃ ys : List Str, x = .str a ∧ xs = [.ref p] ∧ (SqL X.K H p (ys.map V.str) ∨ SqT X.K H p (ys.map V.str)) ∧ (ys.map (·.length)).sum + ys.length * a.length ≤ 16777216 ∧ Q (.str (Txt.join a ys)) H) b true fJoin := by
  intro B G H c σ fp l vs ds d Q A r e p
  have hlen : ∀ xs : List (List Nat), ((xs.map S).map (·.length)).sum + (xs.map S).length * (S l).length = (xs.map List.length).sum + xs.length * l.length := fun xs => by
    have : ((fun y : Str => y.length) ∘ S) = List.length := by funext x; simp
    rw [List.map_map, this]; simp
  unfold fJoin at e
  split at e
  · obtain ⟨xs, e1, e2⟩ := Option.bind_eq_some_iff.mp e
    split at e2
    · cases e2
      rename_i hl
      obtain ⟨v, rfl, rv⟩ := r.one
      obtain ⟨a, vs, rfl, h1, r1⟩ := rv.lstH A.fine.le
      rw [asSs_rp r1 e1] at h1
      refine ⟨S l, a, xs.map S, rfl, rfl, .inl h1, by rw [hlen]; exact hl, ?_⟩
      rw [join_S]
      exact p.here A (.str _)
    · cases e2
  · obtain ⟨xs, e1, e2⟩ := Option.bind_eq_some_iff.mp e
    split at e2
    · cases e2
      rename_i hl
      obtain ⟨v, rfl, rv⟩ := r.one
      obtain ⟨a, vs, rfl, h1, r1⟩ := rv.tupH A.fine.le
      rw [asSs_rp r1 e1] at h1
      refine ⟨S l, a, xs.map S, rfl, rfl, .inr h1, by rw [hlen]; exact hl, ?_⟩
      rw [join_S]
      exact p.here A (.str _)
    · cases e2
  · cases e
/-- s.index(t), t within -/
def fSIndex (l : List Nat) : List D → Option D
  | [.str k] => match Builtin.Str.occurrences (S l) (S k) 0 l.length 1 with
    | i :: _ => some (.int i)
    | [] => none
  | _ => none
theorem ok_sindex : MethOk ⟨X.K, X.mg⟩ (fun x xs H Q => ∃ a b i rest, x = .str a ∧ xs = [.str b] ∧ Builtin.Str.occurrences a b 0 a.length 1 = i :: rest ∧ Q (.int (i : Nat)) H) b true fSIndex := by
  intro B G H c σ fp l vs ds d Q A r e p
  unfold fSIndex at e
  split at e
  · rename_i k
    split at e
    · rename_i i rest ho
      cases e
      obtain ⟨v, rfl, rv⟩ := r.one
      cases rv.strH
      exact ⟨S l, S k, i, rest, rfl, rfl, by rw [S_len]; exact ho, p.here A (.int _)⟩
    · cases e
  · cases e
end
end VS

/-! VS: statements. -/
namespace VS
open PySem PySem.Spec PyProof.Rows L2

inductive Fl where | nx | bk | ct | rt (d : D)
inductive Rs where | ok (f : Fl) (c : Env) | ex (e : D) (c : Env) | stuck
def PinOk (pn : List Nat) (B : Bs) : Prop := (∀ q ∈ B.pn, q.1 ∈ pn) ∧ (pn = [] → ∀ a, ¬ B.br a)
def ResS (E : Wd) (W : WX) (B : Bs) (G H : Hp) (r : Rs) (Dn : Ends) : Prop :=
  match r with
  | .ok .nx c' => ∀ σ' G' H' fp', Same G G' → Abs E B G' H' c' σ' fp' → Dn.nx σ' H'
  | .ok .bk c' => ∀ σ' G' H' fp', Same G G' → Abs E B G' H' c' σ' fp' → Dn.bk σ' H'
  | .ok .ct c' => ∀ σ' G' H' fp', Same G G' → Abs E B G' H' c' σ' fp' → Dn.ct σ' H'
  | .ok (.rt d) c' => ∀ v σ' G' H' fp', Same G G' → Abs E B G' H' c' σ' fp' → Rp E G' v d → Dn.rt v H'
  | .ex e c' => ∀ cl dx σ' G' H' fp', Same G G' → Abs E B G' H' c' σ' fp' → XRep E G' cl dx e → W cl dx σ' H'
  | .stuck => False
def TSt (E : Wd) (W : WX) (pn : List Nat) (g : Env → Rs) : TS := fun Dn σ H => ∃ B G c fp, Abs E B G H c σ fp ∧ PinOk pn B ∧ ResS E W B G H (g c) Dn
def PXS (X : Cx) (W : WX) (pn : List Nat) (st : Stmt) (g : Env → Rs) : Prop := PS X st (TSt ⟨X.K, X.mg⟩ W pn g)
def PXSs (X : Cx) (W : WX) (pn : List Nat) (st : List Stmt) (g : Env → Rs) : Prop := PSs X st (TSt ⟨X.K, X.mg⟩ W pn g)
theorem ps_mono {X : Cx} {st : Stmt} {t t' : TS} (h : PS X st t) (k : ∀ Dn σ H, t' Dn σ H → t Dn σ H) : PS X st t' := ⟨fun pins s σ H Dn I q => h.run pins s σ H Dn I (k Dn σ H q)⟩
theorem pss_mono {X : Cx} {st : List Stmt} {t t' : TS} (h : PSs X st t) (k : ∀ Dn σ H, t' Dn σ H → t Dn σ H) : PSs X st t' := ⟨fun pins s σ H Dn I q => h.run pins s σ H Dn I (k Dn σ H q)⟩
theorem ResS.grow {E : Wd} {W : WX} {B : Bs} {G H G' H' : Hp} {r : Rs} {Dn : Ends} (h : ResS E W B G H r Dn) (s : Same G G') : ResS E W B G' H' r Dn := by
  cases r with
  | ok f c =>
    cases f with
    | nx => exact fun σ' G2 H2 fp2 t A => h σ' G2 H2 fp2 (s.trans t) A
    | bk => exact fun σ' G2 H2 fp2 t A => h σ' G2 H2 fp2 (s.trans t) A
    | ct => exact fun σ' G2 H2 fp2 t A => h σ' G2 H2 fp2 (s.trans t) A
    | rt d => exact fun v σ' G2 H2 fp2 t A r => h v σ' G2 H2 fp2 (s.trans t) A r
  | ex e c => exact fun cl dx σ' G2 H2 fp2 t A r => h cl dx σ' G2 H2 fp2 (s.trans t) A r
  | stuck => exact h
/-- a part of a statement that is an expression -/
def R.st {α : Type} (r : R α) (c : Env) (f : α → Rs) : Rs :=
  match r with
  | .ok a => f a
  | .ex e => .ex e c
  | .stuck => .stuck
@[simp] theorem st_ok {α : Type} (a : α) (c : Env) (f : α → Rs) : R.st (.ok a) c f = f a := rfl
@[simp] theorem st_stuck {α : Type} (c : Env) (f : α → Rs) : R.st (.stuck : R α) c f = .stuck := rfl
@[simp] theorem st_ex {α : Type} (e : D) (c : Env) (f : α → Rs) : R.st (.ex e : R α) c f = .ex e c := rfl
section
variable {E : Wd} {W : WX} {B : Bs} {c : Env} {σ : L2.St} {fp : List Addr} {G H : Hp} {b : Bool} {Dn : Ends}
theorem tx_st {ga : Env → R D} {f : D → Rs} {Q' : VK} (A : Abs E B G H c σ fp) (h : ResS E W B G H (R.st (ga c) c f) Dn)
    (k : ∀ d, ga c = .ok d → ∀ v G1 H1, Same G G1 → Same H H1 → Abs E B G1 H1 c σ fp → Rp E (vw b G1 H1) v d → ResS E W B G1 H1 (f d) Dn → Q' v H1) : TX E W b ga σ H Q' := by
  refine ⟨B, G, c, fp, A, ?_⟩
  cases e : ga c with
  | ok d =>
    rw [e] at h
    exact fun v G1 H1 s t A1 r => k d e v G1 H1 s t A1 r (ResS.grow (r := f d) h s)
  | ex x => rw [e] at h; exact fun cl dx G1 H1 s t A1 r => h cl dx σ G1 H1 fp s A1 r
  | stuck => rw [e] at h; exact h
theorem txa_st {ga : Env → R (List D)} {f : List D → Rs} {Q' : List V → Hp → Prop} (A : Abs E B G H c σ fp) (h : ResS E W B G H (R.st (ga c) c f) Dn)
    (k : ∀ ds, ga c = .ok ds → ∀ vs G1 H1, Same G G1 → Same H H1 → Abs E B G1 H1 c σ fp → RpL E (vw b G1 H1) vs ds → ResS E W B G1 H1 (f ds) Dn → Q' vs H1) : TXA E W b ga σ H Q' := by
  refine ⟨B, G, c, fp, A, ?_⟩
  cases e : ga c with
  | ok d =>
    rw [e] at h
    exact fun v G1 H1 s t A1 r => k d e v G1 H1 s t A1 r (ResS.grow (r := f d) h s)
  | ex x => rw [e] at h; exact fun cl dx G1 H1 s t A1 r => h cl dx σ G1 H1 fp s A1 r
  | stuck => rw [e] at h; exact h
theorem txt_st {ga : Env → R Bool} {f : Bool → Rs} {Q' : Bool → Hp → Prop} (A : Abs E B G H c σ fp) (h : ResS E W B G H (R.st (ga c) c f) Dn)
    (k : ∀ t, ga c = .ok t → ∀ G1 H1, Same G G1 → Same H H1 → Abs E B G1 H1 c σ fp → ResS E W B G1 H1 (f t) Dn → Q' t H1) : TXT E W ga σ H Q' := by
  refine ⟨B, G, c, fp, A, ?_⟩
  cases e : ga c with
  | ok d =>
    rw [e] at h
    exact fun G1 H1 s t A1 => k d e G1 H1 s t A1 (ResS.grow (r := f d) h s)
  | ex x => rw [e] at h; exact fun cl dx G1 H1 s t A1 r => h cl dx σ G1 H1 fp s A1 r
  | stuck => rw [e] at h; exact h
/-- a name is stored -/
theorem Abs.set {v : V} {o : O} {fq : List Addr} {i : Nat} (A : Abs E B G H c σ fp) (h : Own E G H v o fq) (n : fq.Nodup) (d : ∀ p ∈ fq, p ∉ fp) (f : ∀ p ∈ fq, G p = none ∧ (B.H0 p = none ∨ B.br p)) (hp : ∀ q ∈ B.pn, q.1 ≠ i) :
    ∃ fr, Abs E B G H (c.set i (some o)) (σ.set i (some v)) fr := by
  obtain ⟨fr, h1, h2, h3⟩ := A.cells.set i h A.nd n d
  refine ⟨fr, A.fine, h1, h2, fun p hp => (h3 p hp).elim (A.fresh p) (f p), fun q hq => ?_⟩
  rw [List.getElem?_set_ne (Ne.symm (hp q hq))]
  exact A.pin q hq
theorem Abs.setV {v : V} {d : D} {i : Nat} (A : Abs E B G H c σ fp) (h : Rp E G v d) (hp : ∀ q ∈ B.pn, q.1 ≠ i) : ∃ fr, Abs E B G H (c.set i (some (.v d))) (σ.set i (some v)) fr :=
  A.set (.v h) List.nodup_nil (fun p hp => nomatch hp) (fun p hp => nomatch hp) hp
end
theorem PinOk.ne {pn : List Nat} {B : Bs} {i : Nat} (h : PinOk pn B) (hi : i ∉ pn) : ∀ q ∈ B.pn, q.1 ≠ i := fun q hq e => hi (e ▸ h.1 q hq)

/-! ### blocks -/
def sNil : Env → Rs := fun c => .ok .nx c
def sSeq (g k : Env → Rs) : Env → Rs := fun c => match g c with
  | .ok .nx c' => k c'
  | r => r
section
variable {X : Cx} {W : WX} {pn : List Nat} {b : Bool} {st : Stmt} {sts : List Stmt} {g k : Env → Rs} {pos : Pos} {e : Expr}
theorem pxs_nil : PXSs X W pn [] sNil := pss_mono pss_nil fun Dn σ H ⟨B, G, c, fp, A, P, q⟩ => q σ G H fp (Same.refl _) A
theorem tst_seq : ∀ Dn σ H, TSt ⟨X.K, X.mg⟩ W pn (sSeq g k) Dn σ H → tSeq (TSt ⟨X.K, X.mg⟩ W pn g) (TSt ⟨X.K, X.mg⟩ W pn k) Dn σ H := fun Dn σ H ⟨B, G, c, fp, A, P, q⟩ => by
  refine ⟨B, G, c, fp, A, P, ?_⟩
  unfold sSeq at q
  cases e : g c with
  | ok f c' =>
    rw [e] at q
    cases f with
    | nx => exact fun σ' G' H' fp' s A' => ⟨B, G', c', fp', A', P, ResS.grow (r := k c') q s⟩
    | bk => exact q
    | ct => exact q
    | rt d => exact q
  | ex x c' => rw [e] at q; exact q
  | stuck => rw [e] at q; exact q
theorem pxs_cons (h : PXS X W pn st g) (h2 : PXSs X W pn sts k) : PXSs X W pn (st :: sts) (sSeq g k) := pss_mono (pss_cons h h2) tst_seq
theorem pxs_one (h : PXS X W pn st g) : PXSs X W pn [st] g := pss_one h
theorem ps_pass' : PXS X W pn (.Pass pos) sNil := ps_mono ps_pass fun Dn σ H ⟨B, G, c, fp, A, P, q⟩ => q σ G H fp (Same.refl _) A
def sBreak : Env → Rs := fun c => .ok .bk c
def sCont : Env → Rs := fun c => .ok .ct c
theorem pxs_break : PXS X W pn (.Break pos) sBreak := ps_mono ps_break fun Dn σ H ⟨B, G, c, fp, A, P, q⟩ => q σ G H fp (Same.refl _) A
theorem pxs_continue : PXS X W pn (.Continue pos) sCont := ps_mono ps_continue fun Dn σ H ⟨B, G, c, fp, A, P, q⟩ => q σ G H fp (Same.refl _) A
/-- a way that is never taken -/
def sNo : Env → Rs := fun _ => .stuck
theorem pxs_no : PXS X W pn st sNo := ps_mono ps_never fun Dn σ H ⟨B, G, c, fp, A, P, q⟩ => q
/-! ### x = e -/
def sSet (i : Nat) (g : Env → R D) : Env → Rs := fun c => (g c).st c fun d => .ok .nx (c.set i (some (.v d)))
theorem pxs_set {x : Str} {p : Pos} (i : Nat) {g : Env → R D} (h : PX X W true e g) (nd : X.N.Nodup) (hN : X.N[i]? = some x := by rfl) (hl : Loc X.env.scope x := by first | exact Or.inl rfl | exact Or.inr rfl) (hi : i ∉ pn := by decide)
    (hs : swapsWith e (some (.Name x p)) pos.line X.env = pure false := by rfl) (hf : X.fn x = true ∨ X.env.scope.names.lookup x = some .local := by first | exact .inl rfl | exact .inr rfl) : PXS X W pn (.Assign [.Name x p] e pos) (sSet i g) :=
  ps_mono (ps_asg h (pg_name (i := i) nd hN hl) hs) fun Dn σ H ⟨B, G, c, fp, A, P, q⟩ => tx_st A q fun d e v G1 H1 s1 t1 A1 r1 q1 => by
    obtain ⟨fr, A2⟩ := A1.setV (i := i) r1 (P.ne hi)
    exact q1 _ G1 H1 fr (Same.refl _) A2
/-! ### return, an expression alone -/
def sRet (g : Env → R D) : Env → Rs := fun c => (g c).st c fun d => .ok (.rt d) c
theorem pxs_ret {g : Env → R D} (h : PX X W true e g) : PXS X W pn (.Return (some e) pos) (sRet g) :=
  ps_mono (ps_ret h) fun Dn σ H ⟨B, G, c, fp, A, P, q⟩ => tx_st A q fun d e v G1 H1 s1 t1 A1 r1 q1 => q1 v σ G1 H1 fp (Same.refl _) A1 r1
def sRetN : Env → Rs := fun c => .ok (.rt .non) c
theorem pxs_retN : PXS X W pn (.Return none pos) sRetN := ps_mono ps_retN fun Dn σ H ⟨B, G, c, fp, A, P, q⟩ => q .non σ G H fp (Same.refl _) A .non
def sExpr (g : Env → R D) : Env → Rs := fun c => (g c).st c fun _ => .ok .nx c
theorem pxs_expr {g : Env → R D} (h : PX X W b e g) (hs : swapsWith e none pos.line X.env = pure false := by rfl) : PXS X W pn (.Expr e pos) (sExpr g) :=
  ps_mono (ps_expr h hs) fun Dn σ H ⟨B, G, c, fp, A, P, q⟩ => tx_st A q fun d e v G1 H1 s1 t1 A1 r1 q1 => q1 σ G1 H1 fp (Same.refl _) A1
/-! ### if -/
def sIf (t : Env → R Bool) (g k : Env → Rs) : Env → Rs := fun c => (t c).st c fun b => if b then g c else k c
theorem pxs_if {ec : Expr} {sa sb : List Stmt} {t : Env → R Bool} (h : PXT X W ec t) (ha : PXSs X W pn sa g) (hb : PXSs X W pn sb k) : PXS X W pn (.If ec sa sb pos) (sIf t g k) :=
  ps_mono (ps_if h ha hb) fun Dn σ H ⟨B, G, c, fp, A, P, q⟩ => txt_st A q fun t e G1 H1 s1 t1 A1 q1 => by
    cases t with
    | true => exact ⟨B, G1, c, fp, A1, P, q1⟩
    | false => exact ⟨B, G1, c, fp, A1, P, q1⟩
/-! ### while -/
def whileL (t : Env → R Bool) (g : Env → Rs) : Nat → Env → Rs
  | 0, _ => .stuck
  | n + 1, c => (t c).st c fun b => if b then (match g c with
    | .ok .nx c' => whileL t g n c'
    | .ok .ct c' => whileL t g n c'
    | .ok .bk c' => .ok .nx c'
    | r => r) else .ok .nx c
theorem pxs_while {ec : Expr} {body : List Stmt} {t : Env → R Bool} (n : Nat) (hp : PassesOwn (model X.prog X.w) X.A X.env X.xe) (h : PXT X W ec t) (hb : PXSs X W pn body g) : PXS X W pn (.While ec body [] pos) (whileL t g n) :=
  ps_mono (ps_while hp h hb) fun Dn σ H ⟨B, G, c, fp, A, P, q⟩ => by
    refine ⟨fun m σ H => ∃ G c fp, Abs ⟨X.K, X.mg⟩ B G H c σ fp ∧ ResS ⟨X.K, X.mg⟩ W B G H (whileL t g m c) Dn, ⟨n, G, c, fp, A, q⟩, ?_⟩
    rintro m σ H ⟨G, c, fp, A, q⟩
    cases m with
    | zero => exact q.elim
    | succ m =>
      refine txt_st A q fun b e G1 H1 s1 t1 A1 q1 => ?_
      cases b with
      | false => exact q1 σ G1 H1 fp (Same.refl _) A1
      | true =>
        refine ⟨fun σ' H' => ∃ G c fp, Abs ⟨X.K, X.mg⟩ B G H' c σ' fp ∧ ResS ⟨X.K, X.mg⟩ W B G H' (whileL t g m c) Dn, fun σ' H' h' => ⟨m, Nat.lt_succ_self _, h'⟩, ?_⟩
        refine ⟨B, G1, c, fp, A1, P, ?_⟩
        have q2 : ResS ⟨X.K, X.mg⟩ W B G1 H1 (match g c with
          | .ok .nx c' => whileL t g m c'
          | .ok .ct c' => whileL t g m c'
          | .ok .bk c' => .ok .nx c'
          | r => r) Dn := q1
        cases eg : g c with
        | ok f c' =>
          rw [eg] at q2
          cases f with
          | nx => exact fun σ' G' H' fp' s A' => ⟨G', c', fp', A', ResS.grow (r := whileL t g m c') q2 s⟩
          | ct => exact fun σ' G' H' fp' s A' => ⟨G', c', fp', A', ResS.grow (r := whileL t g m c') q2 s⟩
          | bk => exact q2
          | rt d => exact q2
        | ex x c' => rw [eg] at q2; exact q2
        | stuck => rw [eg] at q2; exact q2
/-! ### for -/
def forL (i : Nat) (g : Env → Rs) : List D → Env → Rs
  | [], c => .ok .nx c
  | d :: ds, c => match g (c.set i (some (.v d))) with
    | .ok .nx c' => forL i g ds c'
    | .ok .ct c' => forL i g ds c'
    | .ok .bk c' => .ok .nx c'
    | r => r
theorem for_turn {i : Nat} {E : Wd} {B : Bs} {G H : Hp} {c : Env} {σ : L2.St} {fp : List Addr} {Dn : Ends} {d : D} {ds : List D} {v : V} {N : L2.St → Hp → Prop} (A : Abs E B G H c σ fp) (P : PinOk pn B) (hi : i ∉ pn) (rv : Rp E G v d) (q : ResS E W B G H (forL i g (d :: ds) c) Dn)
    (hN : ∀ σ' G' H' c' fp', Same G G' → Abs E B G' H' c' σ' fp' → ResS E W B G' H' (forL i g ds c') Dn → N σ' H') : TSt E W pn g { Dn with nx := N, ct := N, bk := Dn.nx } (σ.set i (some v)) H := by
  obtain ⟨fr, A2⟩ := A.setV (i := i) rv (P.ne hi)
  refine ⟨B, G, _, fr, A2, P, ?_⟩
  have q2 : ResS E W B G H (match g (c.set i (some (.v d))) with
    | .ok .nx c' => forL i g ds c'
    | .ok .ct c' => forL i g ds c'
    | .ok .bk c' => .ok .nx c'
    | r => r) Dn := q
  cases eg : g (c.set i (some (.v d))) with
  | ok f c' =>
    rw [eg] at q2
    cases f with
    | nx => exact fun σ' G' H' fp' s A' => hN σ' G' H' c' fp' s A' (ResS.grow (r := forL i g ds c') q2 s)
    | ct => exact fun σ' G' H' fp' s A' => hN σ' G' H' c' fp' s A' (ResS.grow (r := forL i g ds c') q2 s)
    | bk => exact q2
    | rt d => exact q2
  | ex x c' => rw [eg] at q2; exact q2
  | stuck => rw [eg] at q2; exact q2
def asL : D → Option (List D)
  | .lst ds => some ds
  | _ => none
def asT : D → Option (List D)
  | .tup ds => some ds
  | _ => none
def sForL (i : Nat) (ga : Env → R D) (g : Env → Rs) : Env → Rs := fun c => (ga c).st c fun d => match asL d with
  | some ds => forL i g ds c
  | none => .stuck
def sForT (i : Nat) (ga : Env → R D) (g : Env → Rs) : Env → Rs := fun c => (ga c).st c fun d => match asT d with
  | some ds => forL i g ds c
  | none => .stuck
theorem drop_cons {α : Type} {xs : List α} {i : Nat} {x : α} (h : xs[i]? = some x) : xs.drop i = x :: xs.drop (i + 1) := by
  obtain ⟨hl, e⟩ := List.getElem?_eq_some_iff.mp h
  rw [List.drop_eq_getElem_cons hl, e]
theorem pxs_forL {x : Str} {p : Pos} {body : List Stmt} (i : Nat) {ga : Env → R D} (hp : PassesOwn (model X.prog X.w) X.A X.env X.xe) (hc : X.calm = true) (ha : PX X W true e ga) (hb : PXSs X W pn body g) (nd : X.N.Nodup) (hN : X.N[i]? = some x := by rfl) (hl : Loc X.env.scope x := by first | exact Or.inl rfl | exact Or.inr rfl) (hi : i ∉ pn := by decide)
    (hf : X.fn x = true ∨ X.env.scope.names.lookup x = some .local := by first | exact .inl rfl | exact .inr rfl) (hs : ∀ y, foldedSetIterable e X.env y = pure y := by intro _; rfl) : PXS X W pn (.For (.Name x p) e body [] pos) (sForL i ga g) :=
  ps_mono (ps_for hp hc (pi_list ha) (pg_name (i := i) nd hN hl) hb hs) fun Dn σ H ⟨B, G, c, fp, A, P, q⟩ => tx_st A q fun d e v G1 H1 s1 t1 A1 r1 q1 => by
    cases d with
    | lst ds =>
      have q1 : ResS ⟨X.K, X.mg⟩ W B G1 H1 (forL i g ds c) Dn := q1
      have r1 : Rp ⟨X.K, X.mg⟩ G1 v (.lst ds) := r1
      cases r1 with
      | @lst a vs _ h1 h2 =>
        refine ⟨a, rfl, ⟨vs, Same.sqL A1.fine.le h1⟩, ?_⟩
        refine for_list (xs := vs) (fun j σ H => ∃ G' c' fp', Same G1 G' ∧ Abs ⟨X.K, X.mg⟩ B G' H c' σ fp' ∧ ResS ⟨X.K, X.mg⟩ W B G' H (forL i g (ds.drop j) c') Dn) ⟨G1, c, fp, Same.refl _, A1, q1⟩ ?_ ?_ ?_
        · rintro j σ' H' _ ⟨G', c', fp', s', A', _⟩
          exact Same.sqL (s'.trans A'.fine.le) h1
        · rintro j w σ' H' hw ⟨G', c', fp', s', A', q'⟩
          obtain ⟨d, hd, rd⟩ := h2.getV hw
          rw [drop_cons hd] at q'
          exact for_turn A' P hi (rd.mono s') q' fun σ2 G2 H2 c2 fp2 s2 A2 q2 => ⟨G2, c2, fp2, s'.trans s2, A2, q2⟩
        · rintro σ' H' ⟨G', c', fp', s', A', q'⟩
          rw [h2.length, List.drop_length] at q'
          exact q' σ' G' H' fp' (Same.refl _) A'
    | _ => exact q1.elim
theorem pxs_forT {x : Str} {p : Pos} {body : List Stmt} (i : Nat) {ga : Env → R D} (hp : PassesOwn (model X.prog X.w) X.A X.env X.xe) (hc : X.calm = true) (ha : PX X W true e ga) (hb : PXSs X W pn body g) (nd : X.N.Nodup) (hN : X.N[i]? = some x := by rfl) (hl : Loc X.env.scope x := by first | exact Or.inl rfl | exact Or.inr rfl) (hi : i ∉ pn := by decide)
    (hf : X.fn x = true ∨ X.env.scope.names.lookup x = some .local := by first | exact .inl rfl | exact .inr rfl) (hs : ∀ y, foldedSetIterable e X.env y = pure y := by intro _; rfl) : PXS X W pn (.For (.Name x p) e body [] pos) (sForT i ga g) :=
  ps_mono (ps_for hp hc (pi_tup ha) (pg_name (i := i) nd hN hl) hb hs) fun Dn σ H ⟨B, G, c, fp, A, P, q⟩ => tx_st A q fun d e v G1 H1 s1 t1 A1 r1 q1 => by
    cases d with
    | tup ds =>
      have q1 : ResS ⟨X.K, X.mg⟩ W B G1 H1 (forL i g ds c) Dn := q1
      have r1 : Rp ⟨X.K, X.mg⟩ G1 v (.tup ds) := r1
      cases r1 with
      | @tup a vs _ h1 h2 =>
        refine ⟨a, rfl, ⟨vs, Same.sqT A1.fine.le h1⟩, ?_⟩
        refine for_tup (xs := vs) (fun j σ H => ∃ G' c' fp', Same G1 G' ∧ Abs ⟨X.K, X.mg⟩ B G' H c' σ fp' ∧ ResS ⟨X.K, X.mg⟩ W B G' H (forL i g (ds.drop j) c') Dn) ⟨G1, c, fp, Same.refl _, A1, q1⟩ ?_ ?_ ?_
        · rintro j σ' H' _ ⟨G', c', fp', s', A', _⟩
          exact Same.sqT (s'.trans A'.fine.le) h1
        · rintro j w σ' H' hw ⟨G', c', fp', s', A', q'⟩
          obtain ⟨d, hd, rd⟩ := h2.getV hw
          rw [drop_cons hd] at q'
          exact for_turn A' P hi (rd.mono s') q' fun σ2 G2 H2 c2 fp2 s2 A2 q2 => ⟨G2, c2, fp2, s'.trans s2, A2, q2⟩
        · rintro σ' H' ⟨G', c', fp', s', A', q'⟩
          rw [h2.length, List.drop_length] at q'
          exact q' σ' G' H' fp' (Same.refl _) A'
    | _ => exact q1.elim
/-- lo, lo + 1, .. below hi -/
def rangeD (lo hi : Int) : List D := (List.range (hi - lo).toNat).map fun (k : Nat) => .int (lo + (k : Int))
def asI : D → Option Int
  | .int i => if -(2 ^ 62) ≤ i ∧ i < 2 ^ 62 then some i else none
  | _ => none
theorem asI_rp {E : Wd} {G : Hp} {v : V} {d : D} {i : Int} (h : Rp E G v d) (e : asI d = some i) : v = .int i ∧ -(2 ^ 62) ≤ i ∧ i < 2 ^ 62 := by
  cases d <;> simp only [asI] at e
  all_goals try cases e
  split at e
  · cases e; rename_i hb; exact ⟨h.intH, hb⟩
  · cases e
def sForR (i : Nat) (ga gb : Env → R D) (g : Env → Rs) : Env → Rs := fun c => (ga c).st c fun d => (lift (asI d)).st c fun lo => (gb c).st c fun d2 => (lift (asI d2)).st c fun hi => forL i g (rangeD lo hi) c
theorem rangeD_at {lo hi : Int} {j : Nat} (h : j < (hi - lo).toNat) : (rangeD lo hi)[j]? = some (.int (lo + (j : Int))) := by
  unfold rangeD
  rw [List.getElem?_map, List.getElem?_range h]
  rfl
theorem for_rng {E : Wd} {B : Bs} {G H : Hp} {c : Env} {σ : L2.St} {fp : List Addr} {Dn : Ends} {i : Nat} {lo hi : Int} (A : Abs E B G H c σ fp) (P : PinOk pn B) (hi' : i ∉ pn) (q : ResS E W B G H (forL i g (rangeD lo hi) c) Dn) :
    ∃ W' : Nat → Nat → L2.St → Hp → Prop, (∃ m, W' 0 m σ H) ∧ ∀ j m σ H, W' j m σ H →
      ((Itr lo (hi - lo).toNat).stop j H ∧ Dn.nx σ H) ∨ ((Itr lo (hi - lo).toNat).go j H ∧ ∃ N : L2.St → Hp → Prop, (∀ σ' H', N σ' H' → ∃ m', m' < m ∧ W' (j + 1) m' σ' H') ∧ ∀ x H', (Itr lo (hi - lo).toNat).yld j H x H' → gName i x σ H' fun σ2 H2 => TSt E W pn g { Dn with nx := N, ct := N, bk := Dn.nx } σ2 H2) := by
  refine for_range (lo := lo) (n := (hi - lo).toNat) (fun j σ H => ∃ G' c' fp', Same G G' ∧ Abs E B G' H c' σ fp' ∧ ResS E W B G' H (forL i g ((rangeD lo hi).drop j) c') Dn) ⟨G, c, fp, Same.refl _, A, q⟩ ?_ ?_
  · rintro j σ' H' hj ⟨G', c', fp', s', A', q'⟩
    rw [drop_cons (rangeD_at hj)] at q'
    exact for_turn A' P hi' (.int _) q' fun σ2 G2 H2 c2 fp2 s2 A2 q2 => ⟨G2, c2, fp2, s'.trans s2, A2, q2⟩
  · rintro σ' H' ⟨G', c', fp', s', A', q'⟩
    have : (rangeD lo hi).drop (hi - lo).toNat = [] := List.drop_eq_nil_of_le (by simp [rangeD])
    rw [this] at q'
    exact q' σ' G' H' fp' (Same.refl _) A'
theorem lift_st {E : Wd} {B : Bs} {G H : Hp} {c : Env} {Dn : Ends} {α : Type} {o : Option α} {f : α → Rs} (h : ResS E W B G H ((lift o).st c f) Dn) : ∃ a, o = some a ∧ ResS E W B G H (f a) Dn := by
  cases o with
  | some a => exact ⟨a, rfl, h⟩
  | none => exact h.elim
theorem pxs_forR1 {x : Str} {p p2 p3 : Pos} {a : Expr} {body : List Stmt} (i : Nat) {ga : Env → R D} (hp : PassesOwn (model X.prog X.w) X.A X.env X.xe) (hc : X.calm = true) (hm : X.mg "range" = none) (ha : PX X W b a ga) (hb : PXSs X W pn body g) (nd : X.N.Nodup) (hN : X.N[i]? = some x := by rfl) (hl : Loc X.env.scope x := by first | exact Or.inl rfl | exact Or.inr rfl) (hi : i ∉ pn := by decide)
    (hg : Gl X "range" := by rfl) (hf : X.fn x = true ∨ X.env.scope.names.lookup x = some .local := by first | exact .inl rfl | exact .inr rfl) (hs0 : starEach [a] X.env = [(false, eval a X.env)] := by rfl) (hs : ∀ y, foldedSetIterable (.Call (.Name "range" p2) [a] [] p3) X.env y = pure y := by intro _; rfl) :
    PXS X W pn (.For (.Name x p) (.Call (.Name "range" p2) [a] [] p3) body [] pos) (sForR i (eC (.int 0)) ga g) :=
  ps_mono (ps_for hp hc (pi_range1 hg hm (pa_cons ha pa_nil hs0) hs0) (pg_name (i := i) nd hN hl) hb hs) fun Dn σ H ⟨B, G, c, fp, A, P, q⟩ => by
    have q0 : ResS ⟨X.K, X.mg⟩ W B G H ((ga c).st c fun d2 => (lift (asI d2)).st c fun hi => forL i g (rangeD 0 hi) c) Dn := q
    refine tx_st A q0 fun d e v G1 H1 s1 t1 A1 r1 q1 => ?_
    obtain ⟨hi, e1, q2⟩ := lift_st q1
    obtain ⟨rfl, h1, h2⟩ := asI_rp r1 e1
    refine ⟨hi, rfl, h1, h2, ?_⟩
    have z := for_rng (lo := 0) (hi := hi) A1 P ‹_› q2
    simpa using z
theorem pxs_forR2 {x : Str} {p p2 p3 : Pos} {a a2 : Expr} {body : List Stmt} (i : Nat) {b2 : Bool} {ga gb : Env → R D} (hp : PassesOwn (model X.prog X.w) X.A X.env X.xe) (hc : X.calm = true) (hm : X.mg "range" = none) (ha : PX X W b a ga) (ha2 : PX X W b2 a2 gb) (hb : PXSs X W pn body g) (nd : X.N.Nodup) (hN : X.N[i]? = some x := by rfl) (hl : Loc X.env.scope x := by first | exact Or.inl rfl | exact Or.inr rfl) (hi : i ∉ pn := by decide)
    (hg : Gl X "range" := by rfl) (hf : X.fn x = true ∨ X.env.scope.names.lookup x = some .local := by first | exact .inl rfl | exact .inr rfl) (hs0 : starEach [a, a2] X.env = [(false, eval a X.env), (false, eval a2 X.env)] := by rfl) (hs1 : starEach [a2] X.env = [(false, eval a2 X.env)] := by rfl) (hs2 : starEach [a, a2] X.env = (false, eval a X.env) :: starEach [a2] X.env := by rfl)
    (hs : ∀ y, foldedSetIterable (.Call (.Name "range" p2) [a, a2] [] p3) X.env y = pure y := by intro _; rfl) :
    PXS X W pn (.For (.Name x p) (.Call (.Name "range" p2) [a, a2] [] p3) body [] pos) (sForR i ga gb g) :=
  ps_mono (ps_for hp hc (pi_range2 hg hm (pa_cons ha (pa_cons ha2 pa_nil hs1) hs2) hs0 hs1) (pg_name (i := i) nd hN hl) hb hs) fun Dn σ H ⟨B, G, c, fp, A, P, q⟩ => by
    refine tx_st A q fun d e v G1 H1 s1 t1 A1 r1 q1 => ?_
    obtain ⟨lo, e1, q2⟩ := lift_st q1
    obtain ⟨rfl, h1, h2⟩ := asI_rp r1 e1
    refine tx_st A1 q2 fun d2 e3 v2 G2 H2 s2 t2 A2 r2 q3 => ?_
    obtain ⟨hi, e4, q4⟩ := lift_st q3
    obtain ⟨rfl, h3, h4⟩ := asI_rp r2 e4
    exact ⟨lo, hi, rfl, ⟨h1, h2, h3, h4⟩, for_rng A2 P ‹_› q4⟩
end
end VS

/-! VS: what is owned: new lists and dicts, changed in place; freezing; comprehensions. -/
namespace VS
open PySem PySem.Spec PyProof.Rows L2

section
variable {E : Wd} {B : Bs} {c : Env} {σ : L2.St} {fp : List Addr} {G G' H H' : Hp}
/-- a new object that is nobody's knowledge yet -/
theorem Abs.newO {p : Addr} {u : HO} (A : Abs E B G H c σ fp) (hp : H p = none) (hu : isT u = false) : Abs E B G (upd H p u) c σ fp :=
  A.grow (same_upd hp) fun a w e k => by
    by_cases ha : a = p
    · subst ha; rw [upd_same] at e; cases e; rw [hu] at k; cases k
    · rw [upd_ne ha] at e; exact A.fine.tup a w e k
theorem ownL_v : ∀ {vs : List V} {ds : List D}, RpL E G vs ds → OwnL E G H vs (ds.map O.v) []
  | _, [], r => by cases r; exact .nil
  | _, d :: ds, r => by
    cases r with
    | cons h r => exact OwnL.cons (fp := []) (fq := []) (.v h) (ownL_v r)
theorem OwnL.append {vs ws : List V} {os ps : List O} {fp fq : List Addr} (h : OwnL E G H vs os fp) (k : OwnL E G H ws ps fq) : OwnL E G H (vs ++ ws) (os ++ ps) (fp ++ fq) := by
  induction os generalizing vs fp with
  | nil => cases h; simpa using k
  | cons o os ih => cases h with | cons h r => rw [List.append_assoc]; exact .cons h (ih r)
theorem OwnL.length : ∀ {vs : List V} {os : List O} {fp : List Addr}, OwnL E G H vs os fp → vs.length = os.length
  | _, [], _, h => by cases h; rfl
  | _, o :: os, _, h => by cases h with | cons h r => simp [r.length]
/-- an item is replaced by a value -/
theorem OwnL.setV : ∀ {vs : List V} {os : List O} {fp : List Addr} {v : V} {d : D} (i : Nat), OwnL E G H vs os fp → Rp E G v d → fp.Nodup → ∃ fq, OwnL E G H (vs.set i v) (os.set i (.v d)) fq ∧ fq.Nodup ∧ ∀ p ∈ fq, p ∈ fp
  | _, [], _, v, d, i, h, r, n => by cases h; exact ⟨[], .nil, List.nodup_nil, fun p hp => hp⟩
  | _, o :: os, _, v, d, 0, h, r, n => by
    cases h with
    | @cons _ _ _ _ f1 f2 h k => exact ⟨_, .cons (.v r) k, by simpa using (List.nodup_append.mp n).2.1, fun p hp => List.mem_append_right _ (by simpa using hp)⟩
  | _, o :: os, _, v, d, i + 1, h, r, n => by
    cases h with
    | @cons _ _ _ _ f1 f2 h k =>
      obtain ⟨n1, n2, n3⟩ := List.nodup_append.mp n
      obtain ⟨fq, k1, k2, k3⟩ := OwnL.setV i k r n2
      refine ⟨_, .cons h k1, List.nodup_append.mpr ⟨n1, k2, fun a ha b hb => n3 a ha b (k3 b hb)⟩, fun p hp => ?_⟩
      rcases List.mem_append.mp hp with z | z
      · exact List.mem_append_left _ z
      · exact List.mem_append_right _ (k3 p z)
theorem OwnL.upd {vs : List V} {os : List O} {fp : List Addr} {p : Addr} {u : HO} (h : OwnL E G H vs os fp) (hp : p ∉ fp) : OwnL E G (L2.upd H p u) vs os fp :=
  h.keep (Same.refl _) fun q hq w e => by
    have hne : q ≠ p := fun z => hp (z ▸ hq)
    rw [upd_ne hne]; exact e
/-- what one name owns is changed -/
theorem Cells.poke : ∀ {c : Env} {σ : L2.St} {fp : List Addr} {i : Nat} {o : O}, Cells E G H c σ fp → fp.Nodup → c[i]? = some (some o) → ∃ v fq, σ[i]? = some (some v) ∧ Own E G H v o fq ∧ fq.Nodup ∧ (∀ p ∈ fq, p ∈ fp) ∧
    ∀ {G' H' : Hp} {o' : O} {fr : List Addr}, Same G G' → (∀ p ∈ fp, p ∉ fq → ∀ u, H p = some u → H' p = some u) → Own E G' H' v o' fr → fr.Nodup → (∀ p ∈ fr, p ∈ fq ∨ p ∉ fp) → ∃ fp', Cells E G' H' (c.set i (some o')) σ fp' ∧ fp'.Nodup ∧ ∀ p ∈ fp', (p ∈ fp ∧ p ∉ fq) ∨ p ∈ fr
  | _, _, _, i, o, .nil, n, e => by simp at e
  | _, _, _, 0, o, .no h, n, e => by simp at e
  | _, _, _, i + 1, o, .no h, n, e => by
    obtain ⟨v, fq, h1, h2, h3, h4, h5⟩ := Cells.poke (i := i) h n (by simpa using e)
    refine ⟨v, fq, by simpa using h1, h2, h3, h4, fun s k w m d => ?_⟩
    obtain ⟨fp', k1, k2, k3⟩ := h5 s k w m d
    exact ⟨fp', .no k1, k2, k3⟩
  | _, _, _, 0, o, .yes (fp := f1) (fq := f2) h r, n, e => by
    simp at e
    subst e
    obtain ⟨n1, n2, n3⟩ := List.nodup_append.mp n
    refine ⟨_, f1, rfl, h, n1, fun p hp => List.mem_append_left _ hp, fun s k w m d => ?_⟩
    have r' := Cells.keep s r fun p hp u e => k p (List.mem_append_right _ hp) (fun z => n3 p z p hp rfl) u e
    refine ⟨_, .yes w r', List.nodup_append.mpr ⟨m, n2, fun a ha b hb e => ?_⟩, fun p hp => ?_⟩
    · subst e
      rcases d a ha with z | z
      · exact n3 a z a hb rfl
      · exact z (List.mem_append_right _ hb)
    · rcases List.mem_append.mp hp with z | z
      · exact .inr z
      · exact .inl ⟨List.mem_append_right _ z, fun y => n3 p y p z rfl⟩
  | _, _, _, i + 1, o, .yes (fp := f1) (fq := f2) h r, n, e => by
    obtain ⟨n1, n2, n3⟩ := List.nodup_append.mp n
    obtain ⟨v, fq, h1, h2, h3, h4, h5⟩ := Cells.poke (i := i) r n2 (by simpa using e)
    refine ⟨v, fq, by simpa using h1, h2, h3, fun p hp => List.mem_append_right _ (h4 p hp), fun s k w m d => ?_⟩
    obtain ⟨fp', k1, k2, k3⟩ := h5 s (fun p hp hq u e => k p (List.mem_append_right _ hp) hq u e) w m (fun p hp => (d p hp).elim .inl fun z => .inr fun z2 => z (List.mem_append_right _ z2))
    have hk := h.keep (H' := _) s fun p hp u e => k p (List.mem_append_left _ hp) (fun z => n3 p hp p (h4 p z) rfl) u e
    refine ⟨_, .yes hk k1, List.nodup_append.mpr ⟨n1, k2, fun a ha b hb e => ?_⟩, fun p hp => ?_⟩
    · subst e
      rcases k3 a hb with ⟨z, _⟩ | z
      · exact n3 a ha a z rfl
      · rcases d a z with y | y
        · exact n3 a ha a (h4 a y) rfl
        · exact y (List.mem_append_left _ ha)
    · rcases List.mem_append.mp hp with z | z
      · exact .inl ⟨List.mem_append_left _ z, fun y => n3 p z p (h4 p y) rfl⟩
      · rcases k3 p z with ⟨y, w⟩ | y
        · exact .inl ⟨List.mem_append_right _ y, w⟩
        · exact .inr y
/-- one own object is written -/
theorem Abs.poke {i : Nat} {o : O} (A : Abs E B G H c σ fp) (e : c[i]? = some (some o)) : ∃ v fq, σ[i]? = some (some v) ∧ Own E G H v o fq ∧ fq.Nodup ∧ (∀ p ∈ fq, p ∈ fp) ∧
    ∀ {p : Addr} {u : HO} {o' : O} {fr : List Addr}, p ∈ fq → isT u = false → Own E G (upd H p u) v o' fr → fr.Nodup → (∀ q ∈ fr, q ∈ fq) → ∃ fp', Abs E B G (upd H p u) (c.set i (some o')) σ fp' := by
  obtain ⟨v, fq, h1, h2, h3, h4, h5⟩ := A.cells.poke A.nd e
  refine ⟨v, fq, h1, h2, h3, h4, fun {p u o' fr} hp hu w m d => ?_⟩
  obtain ⟨fp', k1, k2, k3⟩ := h5 (Same.refl G) (fun q hq hn w e => by
    have : q ≠ p := fun z => hn (z ▸ hp)
    rw [upd_ne this]; exact e) w m fun q hq => .inl (d q hq)
  obtain ⟨gp, bp⟩ := A.fresh p (h4 p hp)
  refine ⟨fp', ⟨fun a o e n => ?_, fun a e => ?_, A.fine.x, fun a o e => ?_, fun a o e k => ?_⟩, k1, k2, fun q hq => (k3 q hq).elim (fun z => A.fresh q z.1) fun z => A.fresh q (h4 q (d q z)), A.pin⟩
  · have ha : a ≠ p := fun z => by
      subst z
      rcases bp with z | z
      · rw [z] at e; cases e
      · exact n z
    rw [upd_ne ha]; exact A.fine.base a o e n
  · by_cases ha : a = p
    · subst ha; rw [upd_same] at e; cases e
    · rw [upd_ne ha] at e; exact A.fine.there a e
  · have ha : a ≠ p := fun z => by subst z; rw [gp] at e; cases e
    rw [upd_ne ha]; exact A.fine.le a o e
  · by_cases ha : a = p
    · subst ha; rw [upd_same] at e; cases e; rw [hu] at k; cases k
    · rw [upd_ne ha] at e; exact A.fine.tup a o e k
end

/-! ### a fresh thing -/
def PostF (E : Wd) (B : Bs) (c : Env) (σ : L2.St) (fp : List Addr) (G H : Hp) (Q : VK) (o : O) : Prop :=
  ∀ v G' H' fq, Same G G' → Same H H' → Abs E B G' H' c σ fp → Own E G' H' v o fq → fq.Nodup → (∀ p ∈ fq, H p = none ∧ G' p = none) → Q v H'
def TF (E : Wd) (W : WX) (g : Env → R O) : TE := fun σ H Q => ∃ B G c fp, Abs E B G H c σ fp ∧ Res E W B c σ fp G H (g c) (PostF E B c σ fp G H Q)
/-- an expression that is worth a new thing -/
def PF (X : Cx) (W : WX) (e : Expr) (g : Env → R O) : Prop := PE X e (TF ⟨X.K, X.mg⟩ W g)
section
variable {E : Wd} {W : WX} {B : Bs} {c : Env} {σ : L2.St} {fp : List Addr} {G H : Hp} {b : Bool} {Dn : Ends}
theorem PostF.grow {Q : VK} {o : O} {G' H' : Hp} (h : PostF E B c σ fp G H Q o) (s : Same G G') (t : Same H H') : PostF E B c σ fp G' H' Q o := fun v G2 H2 fq s2 t2 A w n k =>
  h v G2 H2 fq (s.trans s2) (t.trans t2) A w n fun p hp => ⟨t.free (k p hp).1, (k p hp).2⟩
theorem tf_st {ga : Env → R O} {f : O → Rs} {Q' : VK} (A : Abs E B G H c σ fp) (h : ResS E W B G H (R.st (ga c) c f) Dn)
    (k : ∀ o, ga c = .ok o → ∀ v G1 H1 fq, Same G G1 → Same H H1 → Abs E B G1 H1 c σ fp → Own E G1 H1 v o fq → fq.Nodup → (∀ p ∈ fq, H p = none ∧ G1 p = none) → ResS E W B G1 H1 (f o) Dn → Q' v H1) : TF E W ga σ H Q' := by
  refine ⟨B, G, c, fp, A, ?_⟩
  cases e : ga c with
  | ok o =>
    rw [e] at h
    exact fun v G1 H1 fq s t A1 w n d => k o e v G1 H1 fq s t A1 w n d (ResS.grow (r := f o) h s)
  | ex x => rw [e] at h; exact fun cl dx G1 H1 s t A1 r => h cl dx σ G1 H1 fp s A1 r
  | stuck => rw [e] at h; exact h
end
section
variable {X : Cx} {W : WX} {pn : List Nat} {b b1 b2 : Bool} {e : Expr} {pos : Pos} {g : Env → Rs}
/-- a fresh thing may be taken as known -/
def eFz (g : Env → R O) : Env → R D := fun c => g c >>= fun o => .ok o.toD
def fLstO (ds : List D) : Option O := if ds.length ≤ 16777216 then some (.lst (ds.map O.v)) else none
def eFnO (f : List D → Option O) (gs : Env → R (List D)) : Env → R O := fun c => gs c >>= fun ds => lift (f ds)
theorem PostF.new {B : Bs} {c : Env} {σ : L2.St} {fp : List Addr} {G H : Hp} {Q : VK} {ds : List D} {vs : List V} (h : PostF ⟨X.K, X.mg⟩ B c σ fp G H Q (.lst (ds.map O.v))) (A : Abs ⟨X.K, X.mg⟩ B G H c σ fp) {p : Addr} (hp : H p = none) (r : RpL ⟨X.K, X.mg⟩ G vs ds) : Q (.ref p) (upd H p (.lst vs)) := by
  refine h (.ref p) G _ [p] (Same.refl _) (same_upd hp) (A.newO hp rfl) (.lst upd_same (ownL_v r)) (by simp) fun q hq => ?_
  have : q = p := by simpa using hq
  subst this
  exact ⟨hp, A.fine.fresh hp⟩
theorem pf_lst {es : List Expr} {gs : Env → R (List D)} (h : PXA X W true es gs) : PF X W (.List es pos) (eFnO fLstO gs) :=
  pe_mono (pe_lst h) fun σ H Q ⟨B, G, c, fp, A, q⟩ => txa_seq A q fun ds e vs G1 H1 s1 t1 A1 r1 q1 => by
    obtain ⟨d3, e3, p3⟩ := Res.lift q1
    unfold fLstO at e3
    split at e3
    · cases e3
      rename_i hl
      exact ⟨sz_ok (by rw [r1.length]; exact hl), fun p hp => (p3.grow s1 t1).new A1 hp r1⟩
    · cases e3
/-- list(xs), a new list -/
def fListO (b : Bool) (ds : List D) : Option O := (fList b ds).bind fun d => match d with
  | .lst es => some (.lst (es.map O.v))
  | _ => none
theorem pf_list {x : Str} {e : Expr} {gs : Env → R (List D)} {p : Pos} (hc : X.calm = true) (hm : X.mg x = none) (ha : PXA X W b [e] gs) (hx : x = "list" := by rfl) (hg : Gl X x := by rfl) (hv : bootBuiltins x = some (.type "list") := by decide +kernel)
    (hn : x ≠ "__name__" := by decide) (hdb : (x == ("__debug__" : Str)) = false := by decide) (he : starEach [e] X.env = (false, eval e X.env) :: starEach [] X.env := by rfl) (hpl : (backTo pos (starEach [] X.env)).any (·.1) = false := by rfl) :
    PF X W (.Call (.Name x p) [e] [] pos) (eFnO (fListO b) gs) :=
  pe_mono (pe_callTy (call_listA hc) hg hm hv ha hn hdb he hpl) fun σ H Q ⟨B, G, c, fp, A, q⟩ => txa_seq A q fun ds e vs G1 H1 s1 t1 A1 r1 q1 => by
    obtain ⟨o, e3, p3⟩ := Res.lift q1
    have p3 := p3.grow s1 t1
    unfold fListO at e3
    obtain ⟨d, e4, e5⟩ := Option.bind_eq_some_iff.mp e3
    unfold fList at e4
    split at e4
    · split at e4
      · rename_i hk
        cases e4
        cases e5
        obtain ⟨v, rfl, rv⟩ := r1.one
        obtain ⟨a, vs, rfl, h1, r1⟩ := rv.lstH A1.fine.le
        exact .inl ⟨_, _, rfl, .inl h1, fun q hq => p3.new A1 hq (r1.known A1.fine hk)⟩
      · cases e4
    · split at e4
      · rename_i hk
        cases e4
        cases e5
        obtain ⟨v, rfl, rv⟩ := r1.one
        obtain ⟨a, vs, rfl, h1, r1⟩ := rv.tupH A1.fine.le
        exact .inl ⟨_, _, rfl, .inr h1, fun q hq => p3.new A1 hq (r1.known A1.fine hk)⟩
      · cases e4
    · split at e4
      · rename_i ks ds hl
        cases e4
        cases e5
        obtain ⟨v, rfl, rv⟩ := r1.one
        obtain ⟨a, kvs, rfl, h1, e1, r1⟩ := rv.dicH A1.fine.le
        exact .inr ⟨_, _, rfl, h1, fun q hq => p3.new A1 hq (keys_rp e1)⟩
      · cases e4
    · cases e4
/-! ### x = a fresh thing -/
def sSetO (i : Nat) (g : Env → R O) : Env → Rs := fun c => (g c).st c fun o => .ok .nx (c.set i (some o))
theorem set_fresh {E : Wd} {B : Bs} {c : Env} {σ : L2.St} {fp : List Addr} {G1 H H1 : Hp} {v : V} {o : O} {fq : List Addr} {i : Nat} {pn : List Nat} (A : Abs E B G1 H1 c σ fp) (t : ∀ p ∈ fp, H p ≠ none) (f0 : ∀ p, H p = none → B.H0 p = none) (w : Own E G1 H1 v o fq) (n : fq.Nodup) (d : ∀ p ∈ fq, H p = none ∧ G1 p = none) (P : PinOk pn B) (hi : i ∉ pn) :
    ∃ fr, Abs E B G1 H1 (c.set i (some o)) (σ.set i (some v)) fr :=
  A.set w n (fun p hp z => t p z (d p hp).1) (fun p hp => ⟨(d p hp).2, .inl (f0 p (d p hp).1)⟩) (P.ne hi)
theorem pxs_setO {x : Str} {p : Pos} (i : Nat) {g : Env → R O} (h : PF X W e g) (nd : X.N.Nodup) (hN : X.N[i]? = some x := by rfl) (hl : Loc X.env.scope x := by first | exact Or.inl rfl | exact Or.inr rfl) (hi : i ∉ pn := by decide)
    (hs : swapsWith e (some (.Name x p)) pos.line X.env = pure false := by rfl) (hf : X.fn x = true ∨ X.env.scope.names.lookup x = some .local := by first | exact .inl rfl | exact .inr rfl) : PXS X W pn (.Assign [.Name x p] e pos) (sSetO i g) :=
  ps_mono (ps_asg h (pg_name (i := i) nd hN hl) hs) fun Dn σ H ⟨B, G, c, fp, A, P, q⟩ => tf_st A q fun o e v G1 H1 fq s1 t1 A1 w n d q1 => by
    obtain ⟨fr, A2⟩ := set_fresh A1 (A.cells.there) A.fine.there w n d P hi
    exact q1 _ G1 H1 fr (Same.refl _) A2
/-! ### x.append(e), x[i] = e -/
def atL (i : Nat) (c : Env) : Option (List O) := match c[i]? with
  | some (some (.lst os)) => some os
  | _ => none
theorem atL_eq {i : Nat} {c : Env} {os : List O} (h : atL i c = some os) : c[i]? = some (some (.lst os)) := by
  unfold atL at h
  split at h
  · cases h; assumption
  · cases h
def sApp (i : Nat) (g : Env → R D) : Env → Rs := fun c => (lift (atL i c)).st c fun os => (g c).st c fun d => if os.length < 16777216 then .ok .nx (c.set i (some (.lst (os ++ [.v d])))) else .stuck
theorem pxs_app {x : Str} {p apos cpos : Pos} (i : Nat) {g : Env → R D} (h : PX X W true e g) (hN : X.N[i]? = some x := by rfl) (hv : Vis X.env.scope x := by first | exact Or.inl rfl | exact Or.inr (Or.inl rfl) | exact Or.inr (Or.inr rfl)) (hd : (x == ("__debug__" : Str)) = false := by decide) (hcd : (x == ("__classdict__" : Str)) = false := by decide)
    (hbase : attributeBase (.Name x p) "append" X.env (eval (.Name x p) X.env) = eval (.Name x p) X.env := by rfl)
    (hfew : ((backTo cpos (starEach [e] X.env)).all (fun x => !x.1) && (backToKw cpos (keywordEach [] X.env)).all (fun x => x.1.isSome)
      && decide ([e].length + ([] : List Keyword).length + (if ([] : List Keyword).isEmpty then 0 else 1) < 30)) = true := by rfl)
    (hline : (apos.endLine == cpos.line) = true := by rfl) (hs : starEach [e] X.env = (false, eval e X.env) :: starEach [] X.env := by rfl) (hplain : (backTo cpos (starEach [] X.env)).any (·.1) = false := by rfl)
    (hsw : swapsWith (.Call (.Attribute (.Name x p) "append" apos) [e] [] cpos) none pos.line X.env = pure false := by rfl) :
    PXS X W pn (.Expr (.Call (.Attribute (.Name x p) "append" apos) [e] [] cpos) pos) (sApp i g) :=
  ps_mono (ps_expr (pe_bm PySem.F.plainAttrs_list PySem.F.slot_list_append PySem.F.type_list_append mt_append (pe_var hN hv hd hcd) (pa_cons h pa_nil hs) hbase hfew hline hs hplain) hsw) fun Dn σ H ⟨B, G, c, fp, A, P, q⟩ => by
    obtain ⟨os, e0, q⟩ := lift_st q
    have e1 := atL_eq e0
    obtain ⟨v, fq, h1, h2, _, _, _⟩ := A.poke e1
    cases h2 with
    | @lst a vs _ fq ha ho =>
      refine ⟨_, h1, .inl ⟨rfl, vs, .inl (.inl ha)⟩, tx_st A q fun d e3 w G1 H1 s1 t1 A1 r1 q1 => ?_⟩
      obtain ⟨v, fq, h1', h2, n, hin, hpk⟩ := A1.poke e1
      rw [h1] at h1'
      cases h1'
      cases h2 with
      | @lst _ vs _ fq ha ho =>
        have hlen := ho.length
        by_cases hl : os.length < 16777216
        · have q2 : ResS ⟨X.K, X.mg⟩ W B G1 H1 (if os.length < 16777216 then .ok .nx (c.set i (some (.lst (os ++ [.v d])))) else .stuck) Dn := q1
          rw [if_pos hl] at q2
          refine ⟨a, vs, w, rfl, rfl, ha, by rw [hlen, sizeLine_eq]; exact hl, ?_⟩
          have nn := List.nodup_cons.mp n
          have ho' : OwnL ⟨X.K, X.mg⟩ G1 (upd H1 a (.lst (vs ++ [w]))) (vs ++ [w]) (os ++ [.v d]) (fq ++ ([] ++ [])) :=
            (ho.upd nn.1).append (.cons (.v r1) .nil)
          obtain ⟨fp', A2⟩ := hpk List.mem_cons_self (u := .lst (vs ++ [w])) rfl (.lst upd_same ho') (by simpa using n) (fun q hq => by simpa using hq)
          exact q2 σ G1 _ fp' (Same.refl _) A2
        · have q2 : ResS ⟨X.K, X.mg⟩ W B G1 H1 (if os.length < 16777216 then .ok .nx (c.set i (some (.lst (os ++ [.v d])))) else .stuck) Dn := q1
          rw [if_neg hl] at q2
          exact q2.elim
def sIxSet (i : Nat) (gi g : Env → R D) : Env → Rs := fun c => (g c).st c fun d => (lift (atL i c)).st c fun os => (gi c).st c fun k => match k with
  | .int k => (lift (ixN os.length k)).st c fun j => .ok .nx (c.set i (some (.lst (os.set j (.v d)))))
  | _ => .stuck
theorem pxs_ixset {x : Str} {ei : Expr} {p p2 : Pos} (i : Nat) {gi g : Env → R D} (h : PX X W true e g) (hi : PX X W b ei gi) (hN : X.N[i]? = some x := by rfl) (hv : Vis X.env.scope x := by first | exact Or.inl rfl | exact Or.inr (Or.inl rfl) | exact Or.inr (Or.inr rfl)) (hd : (x == ("__debug__" : Str)) = false := by decide) (hcd : (x == ("__classdict__" : Str)) = false := by decide)
    (hs : swapsWithSole [.Subscript (.Name x p) ei p2] e pos.line X.env = pure false := by rfl) (hw : swappedStores [.Subscript (.Name x p) ei p2] e X.env = pure none := by rfl)
    (h1 : (assignEach [.Subscript (.Name x p) ei p2] X.env).map (·.2) = [assign (.Subscript (.Name x p) ei p2) X.env] := by rfl)
    (ha : ∀ v, assign (.Subscript (.Name x p) ei p2) X.env v = (do
      let ov ← holding [v] (eval (.Name x p) X.env)
      let iv ← holding [v, ov] (eval ei X.env)
      standAt p2
      holding [v, ov, iv] (setItem ov iv v)
      release [v, ov, iv] []) := by intro _; rfl) : PXS X W pn (.Assign [.Subscript (.Name x p) ei p2] e pos) (sIxSet i gi g) :=
  ps_mono (ps_asg h (pg_sub (pe_var hN hv hd hcd) hi set_list ha) hs hw h1) fun Dn σ H ⟨B, G, c, fp, A, P, q⟩ => tx_st A q fun d e w G1 H1 s1 t1 A1 r1 q1 => by
    obtain ⟨os, e0, q1⟩ := lift_st q1
    have e1 := atL_eq e0
    obtain ⟨v, fq, h1, h2, _, _, _⟩ := A1.poke e1
    cases h2 with
    | @lst a vs _ fq ha ho =>
      refine ⟨_, h1, tx_st A1 q1 fun k e3 w2 G2 H2 s2 t2 A2 r2 q2 => ?_⟩
      cases k with
      | int k =>
        obtain ⟨j, ej, q3⟩ := lift_st q2
        obtain ⟨v, fq, h1', h2, n, hin, hpk⟩ := A2.poke e1
        rw [h1] at h1'
        cases h1'
        cases h2 with
        | @lst _ vs _ fq ha ho =>
          have hlen := ho.length
          refine ⟨a, vs, k, j, rfl, r2.intH, ha, by rw [hlen]; exact ej, ?_⟩
          have nn := List.nodup_cons.mp n
          have ho2 := ho.upd (p := a) (u := .lst (vs.set j w)) nn.1
          obtain ⟨fr, k1, k2, k3⟩ := ho2.setV j (r1.mono s2) nn.2
          obtain ⟨fp', A3⟩ := hpk List.mem_cons_self (u := .lst (vs.set j w)) rfl (.lst upd_same k1) (List.nodup_cons.mpr ⟨fun z => nn.1 (k3 a z), k2⟩) (fun q hq => by
            rcases List.mem_cons.mp hq with z | z
            · rw [z]; exact List.mem_cons_self
            · exact List.mem_cons_of_mem _ (k3 q z))
          exact q3 σ G2 _ fp' (Same.refl _) A3
      | _ => exact q2.elim
/-! ### freezing -/
def fz (i : Nat) (c : Env) : Env := match c[i]? with
  | some (some o) => c.set i (some (.v o.toD))
  | _ => c
def sFz (i : Nat) (g : Env → Rs) : Env → Rs := fun c => g (fz i c)
theorem Abs.fz {E : Wd} {B : Bs} {G H : Hp} {c : Env} {σ : L2.St} {fp : List Addr} (A : Abs E B G H c σ fp) (nb : ∀ a, ¬ B.br a) (i : Nat) : ∃ G' fp', Same G G' ∧ Abs E B G' H (VS.fz i c) σ fp' := by
  unfold VS.fz
  split
  · rename_i o e
    obtain ⟨v, fq, h1, h2, h3, h4, h5⟩ := A.cells.poke A.nd e
    have fr0 : ∀ p ∈ fq, G p = none ∧ B.H0 p = none := fun p hp => by
      obtain ⟨a1, a2⟩ := A.fresh p (h4 p hp)
      exact ⟨a1, a2.elim id fun z => (nb p z).elim⟩
    let G' : Hp := fun a => if a ∈ fq then H a else G a
    have gin : ∀ a, a ∈ fq → G' a = H a := fun a ha => if_pos ha
    have gout : ∀ a, a ∉ fq → G' a = G a := fun a ha => if_neg ha
    have s : Same G G' := fun a u ha => by
      have hn : a ∉ fq := fun z => by rw [(fr0 a z).1] at ha; cases ha
      rw [gout a hn]; exact ha
    have sl : Same G' H := fun a u ha => by
      by_cases hn : a ∈ fq
      · rw [gin a hn] at ha; exact ha
      · rw [gout a hn] at ha; exact A.fine.le a u ha
    have rp : Rp E G' v o.toD := by
      refine Own.rp (H' := G') (H := H) A.fine.le h2 (fun p hp u e => by rw [gin p hp]; exact e) s
    obtain ⟨fp', k1, k2, k3⟩ := h5 (H' := H) (o' := .v o.toD) (fr := []) s (fun p hp hn u e => e) (.v rp) List.nodup_nil (fun p hp => nomatch hp)
    have k4 : ∀ p ∈ fp', p ∈ fp ∧ G' p = none := fun p hp => by
      obtain ⟨z, w⟩ : p ∈ fp ∧ p ∉ fq := (k3 p hp).elim id fun z => nomatch z
      exact ⟨z, by rw [gout p w]; exact (A.fresh p z).1⟩
    exact ⟨G', fp', s, ⟨A.fine.base, A.fine.there, fun a e1 e2 => by
      by_cases hn : a ∈ fq
      · exact (e1 (fr0 a hn).2).elim
      · rw [gout a hn]; exact A.fine.x a e1 e2, sl, fun a u e k => by
      by_cases hn : a ∈ fq
      · rw [gin a hn]; exact e
      · rw [gout a hn]; exact A.fine.tup a u e k⟩, k1, k2, fun p hp => ⟨(k4 p hp).2, (A.fresh p (k4 p hp).1).2⟩, A.pin⟩
  · exact ⟨G, fp, Same.refl _, A⟩
theorem pxs_fz {st : Stmt} (i : Nat) (h : PXS X W [] st g) : PXS X W [] st (sFz i g) := ps_mono h fun Dn σ H ⟨B, G, c, fp, A, P, q⟩ => by
  obtain ⟨G', fp', s, A'⟩ := A.fz (P.2 rfl) i
  exact ⟨B, G', _, fp', A', P, ResS.grow (r := g (fz i c)) q s⟩
end
end VS

/-! VS: what is walked; for; list comprehensions. -/
namespace VS
open PySem PySem.Spec PyProof.Rows L2

/-- the iterator J yields ds, as long as Hs stands; the items are known in G -/
structure Wk (E : Wd) (J : It) (Hs G : Hp) (ds : List D) : Prop where
  go : ∀ j H, Same Hs H → j < ds.length → J.go j H
  yl : ∀ j H x H', Same Hs H → J.yld j H x H' → H' = H ∧ ∀ d, ds[j]? = some d → Rp E G x d
  st : ∀ j H, Same Hs H → ds.length ≤ j → J.stop j H
/-- what a for (b) or a comprehension walks -/
structure PSrc (X : Cx) (W : WX) (b : Bool) (tg iter : Expr) (wi : TI) (gs : Env → R (List D)) : Prop where
  pi : PI X tg iter wi
  run : ∀ {B : Bs} {G H : Hp} {c : Env} {σ : L2.St} {fp : List Addr} {P : List D → Prop} {R : It → Hp → Prop}, Abs ⟨X.K, X.mg⟩ B G H c σ fp → Res ⟨X.K, X.mg⟩ W B c σ fp G H (gs c) P →
    (∀ ds G1 H1 J, gs c = .ok ds → Same G G1 → Same H H1 → Abs ⟨X.K, X.mg⟩ B G1 H1 c σ fp → Wk ⟨X.K, X.mg⟩ J (vw b G1 H1) G1 ds → P ds → R J H1) → wi σ H R
section
variable {X : Cx} {W : WX} {pn : List Nat} {b b' b2 : Bool} {tg e : Expr} {pos : Pos} {g : Env → Rs}
theorem wk_list {E : Wd} {Hs G : Hp} {a : Addr} {vs : List V} {ds : List D} {K : PySem.W.Frag} (h : SqL K Hs a vs) (r : RpL E G vs ds) : Wk E (Itl K a) Hs G ds := by
  refine ⟨fun j H s hj => ?_, fun j H x H' s y => ⟨y.1, fun d e => ?_⟩, fun j H s hj => ⟨vs, Same.sqL s h, by rw [r.length]; exact hj⟩⟩
  · obtain ⟨v, e1, _⟩ := r.get (List.getElem?_eq_getElem hj)
    exact ⟨vs, v, Same.sqL s h, e1⟩
  · obtain ⟨v, e1, e2⟩ := r.get e
    have := y.2 vs (Same.sqL s h)
    rw [e1] at this
    cases this
    exact e2
theorem wk_tup {E : Wd} {Hs G : Hp} {a : Addr} {vs : List V} {ds : List D} {K : PySem.W.Frag} (h : SqT K Hs a vs) (r : RpL E G vs ds) : Wk E (Itt K a) Hs G ds := by
  refine ⟨fun j H s hj => ?_, fun j H x H' s y => ⟨y.1, fun d e => ?_⟩, fun j H s hj => ⟨vs, Same.sqT s h, by rw [r.length]; exact hj⟩⟩
  · obtain ⟨v, e1, _⟩ := r.get (List.getElem?_eq_getElem hj)
    exact ⟨vs, v, Same.sqT s h, e1⟩
  · obtain ⟨v, e1, e2⟩ := r.get e
    have := y.2 vs (Same.sqT s h)
    rw [e1] at this
    cases this
    exact e2
theorem rangeD_len (lo hi : Int) : (rangeD lo hi).length = (hi - lo).toNat := by simp [rangeD]
theorem wk_rng {E : Wd} {Hs G : Hp} {lo hi : Int} : Wk E (Itr lo (hi - lo).toNat) Hs G (rangeD lo hi) := by
  refine ⟨fun j H s hj => ?_, fun j H x H' s y => ⟨y.1, fun d e => ?_⟩, fun j H s hj => ?_⟩
  · rw [rangeD_len] at hj; exact hj
  · obtain ⟨hj, _⟩ := List.getElem?_eq_some_iff.mp e
    rw [rangeD_len] at hj
    rw [rangeD_at hj] at e
    cases e
    rw [y.2]
    exact .int _
  · rw [rangeD_len] at hj; exact hj
/-- the items of a list, a tuple, a text -/
def asA (b : Bool) : D → Option (List D)
  | .lst ds => if okEl b ds then some ds else none
  | .tup ds => if okEl b ds then some ds else none
  | .str l => if l.length ≤ 16777216 then some (l.map fun x => .str [x]) else none
  | _ => none
def eIt (b : Bool) (ga : Env → R D) : Env → R (List D) := fun c => ga c >>= fun d => lift (asA b d)
def eItR (ga gb : Env → R D) : Env → R (List D) := fun c => ga c >>= fun d => lift (asI d) >>= fun lo => gb c >>= fun d2 => lift (asI d2) >>= fun hi => .ok (rangeD lo hi)
theorem wk_str {E : Wd} {Hs G : Hp} (l : List Nat) : Wk E (Its (S l)) Hs G (l.map fun x => .str [x]) := by
  refine ⟨fun j H s hj => ?_, fun j H x H' s y => ⟨y.1, fun d e => ?_⟩, fun j H s hj => ?_⟩
  · show j < l.toArray.size
    simpa using hj
  · obtain ⟨z, h1, h2⟩ := y.2
    have h1 : l.toArray[j]? = some z := h1
    rw [List.getElem?_map] at e
    have h1 : l[j]? = some z := by simpa using h1
    rw [h1] at e
    cases e
    rw [h2]
    exact .str [z]
  · show l.toArray.size ≤ j
    simpa using hj
theorem Rp.lstV {E : Wd} {G : Hp} {v : V} {ds : List D} (r : Rp E G v (.lst ds)) : ∃ a vs, v = .ref a ∧ SqL E.K G a vs ∧ RpL E G vs ds := by
  cases r with
  | lst h r => exact ⟨_, _, rfl, h, r⟩
theorem pi_mono {tg e : Expr} {t t' : TI} (h : PI X tg e t) (k : ∀ σ H R, t' σ H R → t σ H R) : PI X tg e t' := ⟨fun pins s σ H R I q => h.run pins s σ H R I (k σ H R q)⟩
def iAny (K : PySem.W.Frag) (te : TE) : TI := fun σ H R => iList K te σ H R ∨ iTup K te σ H R ∨ iStr te σ H R
theorem pi_any {te : TE} (h : PE X e te) : PI X tg e (iAny X.K te) := ⟨fun pins s σ H R I q => by
  rcases q with q | q | q
  · exact (pi_list h).run pins s σ H R I q
  · exact (pi_tup h).run pins s σ H R I q
  · exact (pi_str h).run pins s σ H R I q⟩
theorem src_any {ga : Env → R D} (h : PX X W b e ga) : PSrc X W b tg e (iAny X.K (TX ⟨X.K, X.mg⟩ W b ga)) (eIt b ga) :=
  ⟨pi_any h, fun {B G H c σ fp P R} A q k => by
    cases e0 : ga c with
    | stuck => unfold eIt at q; rw [e0] at q; exact q.elim
    | ex x => exact .inl (tx_seq A q fun d e => by rw [e0] at e; cases e)
    | ok d0 =>
      have eq : eIt b ga c = lift (asA b d0) := by unfold eIt; rw [e0]; rfl
      have step : ∀ ds, asA b d0 = some ds → eIt b ga c = .ok ds := fun ds h => by rw [eq, h]; rfl
      cases d0 with
      | lst ds =>
        refine .inl (tx_seq A q fun d e v G1 H1 s1 t1 A1 r1 q1 => ?_)
        rw [e0] at e
        cases e
        obtain ⟨es, e2, p⟩ := Res.lift q1
        have e3 := e2
        unfold asA at e2
        simp only at e2
        split at e2
        · rename_i hk
          cases e2
          obtain ⟨a, vs, rfl, h0, r2⟩ := r1.lstV
          have h1 := Same.sqL (same_vw b A1.fine.le) h0
          exact ⟨a, rfl, ⟨vs, h1⟩, k _ G1 H1 _ (step _ e3) s1 t1 A1 (wk_list h0 (r2.known A1.fine hk)) p⟩
        · cases e2
      | tup ds =>
        refine .inr (.inl (tx_seq A q fun d e v G1 H1 s1 t1 A1 r1 q1 => ?_))
        rw [e0] at e
        cases e
        obtain ⟨es, e2, p⟩ := Res.lift q1
        have e3 := e2
        unfold asA at e2
        simp only at e2
        split at e2
        · rename_i hk
          cases e2
          obtain ⟨a, vs, rfl, h1, r2⟩ := r1.tupH A1.fine.le
          have h0 : SqT X.K (vw b G1 H1) a vs := by
            cases b with
            | true => exact known_tup A1.fine h1
            | false => exact h1
          exact ⟨a, rfl, ⟨vs, h1⟩, k _ G1 H1 _ (step _ e3) s1 t1 A1 (wk_tup h0 (r2.known A1.fine hk)) p⟩
        · cases e2
      | str l =>
        refine .inr (.inr (tx_seq A q fun d e v G1 H1 s1 t1 A1 r1 q1 => ?_))
        rw [e0] at e
        cases e
        obtain ⟨es, e2, p⟩ := Res.lift q1
        have e3 := e2
        unfold asA at e2
        simp only at e2
        split at e2
        · cases e2
          exact ⟨S l, r1.strH, k _ G1 H1 _ (step _ e3) s1 t1 A1 (wk_str l) p⟩
        · cases e2
      | _ => rw [eq] at q; exact q.elim⟩
theorem src_r1 {a : Expr} {ga : Env → R D} {p2 p3 : Pos} (hm : X.mg "range" = none) (h : PX X W b a ga) (hg : Gl X "range" := by rfl) (hs0 : starEach [a] X.env = [(false, eval a X.env)] := by rfl) :
    PSrc X W b' tg (.Call (.Name "range" p2) [a] [] p3) (iRng1 (tCons (TX ⟨X.K, X.mg⟩ W b ga) tNil)) (eItR (eC (.int 0)) ga) :=
  ⟨pi_range1 hg hm (pa_cons h pa_nil hs0) hs0, fun {B G H c σ fp P R} A q k => by
    have q0 : Res ⟨X.K, X.mg⟩ W B c σ fp G H (ga c >>= fun d2 => lift (asI d2) >>= fun hi => .ok (rangeD 0 hi)) P := q
    refine tx_seq A q0 fun d e v G1 H1 s1 t1 A1 r1 q1 => ?_
    cases hd : asI d with
    | none => rw [hd] at q1; exact q1.elim
    | some hi =>
      rw [hd] at q1
      obtain ⟨rfl, h1, h2⟩ := asI_rp r1 hd
      have w : Wk ⟨X.K, X.mg⟩ (Itr 0 hi.toNat) (vw b' G1 H1) G1 (rangeD 0 hi) := by have z := wk_rng (E := ⟨X.K, X.mg⟩) (Hs := vw b' G1 H1) (G := G1) (lo := 0) (hi := hi); simpa using z
      exact ⟨hi, rfl, h1, h2, k _ G1 H1 _ (by show (ga c >>= fun d2 => lift (asI d2) >>= fun hi => VS.R.ok (rangeD 0 hi)) = _; rw [e]; show (lift (asI d) >>= _) = _; rw [hd]; rfl) s1 t1 A1 w q1⟩⟩
theorem src_r2 {a a2 : Expr} {ga gb : Env → R D} {p2 p3 : Pos} (hm : X.mg "range" = none) (h : PX X W b a ga) (h2 : PX X W b2 a2 gb) (hg : Gl X "range" := by rfl) (hs0 : starEach [a, a2] X.env = [(false, eval a X.env), (false, eval a2 X.env)] := by rfl) (hs1 : starEach [a2] X.env = [(false, eval a2 X.env)] := by rfl)
    (hs2 : starEach [a, a2] X.env = (false, eval a X.env) :: starEach [a2] X.env := by rfl) :
    PSrc X W b' tg (.Call (.Name "range" p2) [a, a2] [] p3) (iRng2 (tCons (TX ⟨X.K, X.mg⟩ W b ga) (tCons (TX ⟨X.K, X.mg⟩ W b2 gb) tNil))) (eItR ga gb) :=
  ⟨pi_range2 hg hm (pa_cons h (pa_cons h2 pa_nil hs1) hs2) hs0 hs1, fun {B G H c σ fp P R} A q k => by
    refine tx_seq A q fun d e v G1 H1 s1 t1 A1 r1 q1 => ?_
    cases hd : asI d with
    | none => rw [hd] at q1; exact q1.elim
    | some lo =>
      rw [hd] at q1
      obtain ⟨rfl, h1, h2⟩ := asI_rp r1 hd
      refine tx_seq A1 q1 fun d2 e2 v2 G2 H2 s2 t2 A2 r2 q2 => ?_
      cases hd2 : asI d2 with
      | none => rw [hd2] at q2; exact q2.elim
      | some hi =>
        rw [hd2] at q2
        obtain ⟨rfl, h3, h4⟩ := asI_rp r2 hd2
        exact ⟨lo, hi, rfl, ⟨h1, h2, h3, h4⟩, k _ G2 H2 _ (by unfold eItR; rw [e]; simp only [ok_bind, hd, lift_some, e2, hd2]) (s1.trans s2) (t1.trans t2) A2 wk_rng q2⟩⟩
theorem st_res {E : Wd} {B : Bs} {c : Env} {σ : L2.St} {fp : List Addr} {G H : Hp} {Dn : Ends} {α : Type} {r : R α} {f : α → Rs} (h : ResS E W B G H (r.st c f) Dn) : Res E W B c σ fp G H r (fun a => r = .ok a ∧ ∀ G1 H1, Same G G1 → ResS E W B G1 H1 (f a) Dn) := by
  cases r with
  | ok a => exact ⟨rfl, fun G1 H1 s => ResS.grow (r := f a) h s⟩
  | ex e => exact fun cl dx G' H' s t A x => h cl dx σ G' H' fp s A x
  | stuck => exact h
def sFor (i : Nat) (gs : Env → R (List D)) (g : Env → Rs) : Env → Rs := fun c => (gs c).st c fun ds => forL i g ds c
theorem pxs_for {x : Str} {p : Pos} {body : List Stmt} {wi : TI} {gs : Env → R (List D)} (i : Nat) (hp : PassesOwn (model X.prog X.w) X.A X.env X.xe) (hc : X.calm = true) (ha : PSrc X W true (.Name x p) e wi gs) (hb : PXSs X W pn body g) (nd : X.N.Nodup) (hN : X.N[i]? = some x := by rfl) (hl : Loc X.env.scope x := by first | exact Or.inl rfl | exact Or.inr rfl) (hi : i ∉ pn := by decide)
    (hf : X.fn x = true ∨ X.env.scope.names.lookup x = some .local := by first | exact .inl rfl | exact .inr rfl) (hs : ∀ y, foldedSetIterable e X.env y = pure y := by intro _; rfl) : PXS X W pn (.For (.Name x p) e body [] pos) (sFor i gs g) :=
  ps_mono (ps_for hp hc ha.pi (pg_name (i := i) nd hN hl) hb hs) fun Dn σ H ⟨B, G, c, fp, A, P, q⟩ => ha.run A (st_res q) fun ds G1 H1 J e s1 t1 A1 w ⟨_, q1⟩ => by
    refine ⟨fun j m σ H => m = ds.length - j ∧ j ≤ ds.length ∧ ∃ G' c' fp', Same G1 G' ∧ Abs ⟨X.K, X.mg⟩ B G' H c' σ fp' ∧ ResS ⟨X.K, X.mg⟩ W B G' H (forL i g (ds.drop j) c') Dn, ⟨ds.length, by simp, Nat.zero_le _, G1, c, fp, Same.refl _, A1, q1 G1 H1 s1⟩, ?_⟩
    rintro j m σ' H' ⟨rfl, hj, G', c', fp', s', A', q'⟩
    by_cases hlt : j < ds.length
    · refine .inr ⟨w.go j H' (s'.trans A'.fine.le) hlt, fun σ2 H2 => ∃ G2 c2 fp2, Same G1 G2 ∧ Abs ⟨X.K, X.mg⟩ B G2 H2 c2 σ2 fp2 ∧ ResS ⟨X.K, X.mg⟩ W B G2 H2 (forL i g (ds.drop (j + 1)) c2) Dn, fun σ2 H2 h2 => ⟨_, by omega, rfl, hlt, h2⟩, fun x H3 y => ?_⟩
      obtain ⟨rfl, hr⟩ := w.yl j H' x H3 (s'.trans A'.fine.le) y
      have hd := List.getElem?_eq_getElem hlt
      rw [drop_cons hd] at q'
      exact for_turn A' P hi ((hr _ hd).mono s') q' fun σ2 G2 H2 c2 fp2 s2 A2 q2 => ⟨G2, c2, fp2, s'.trans s2, A2, q2⟩
    · have e : j = ds.length := by omega
      subst e
      rw [List.drop_length] at q'
      exact .inl ⟨w.st _ H' (s'.trans A'.fine.le) (Nat.le_refl _), q' σ' G' H' fp' (Same.refl _) A'⟩

/-! ### list comprehensions -/
def noX {α : Type} : R α → R α
  | .ok a => .ok a
  | _ => .stuck
@[simp] theorem noX_ok {α : Type} (a : α) : noX (.ok a) = R.ok a := rfl
@[simp] theorem noX_stuck {α : Type} : noX (.stuck : R α) = .stuck := rfl
@[simp] theorem noX_ex {α : Type} (e : D) : noX (.ex e : R α) = .stuck := rfl
def compL (t : Env → R Bool) (g : Env → R D) (i : Nat) (c : Env) : List D → R (List D)
  | [] => .ok []
  | d :: ds => noX (t (c.set i (some (.v d)))) >>= fun b => if b then noX (g (c.set i (some (.v d)))) >>= fun x => compL t g i c ds >>= fun xs => .ok (x :: xs) else compL t g i c ds
def eLcs (gs : Env → R (List D)) (t : Env → R Bool) (g : Env → R D) (i : Nat) : Env → R (List D) := fun c => gs c >>= fun ds => compL t g i c ds >>= fun es => if es.length ≤ 16777216 then .ok es else .stuck
def eLc (gs : Env → R (List D)) (t : Env → R Bool) (g : Env → R D) (i : Nat) : Env → R D := fun c => eLcs gs t g i c >>= fun es => .ok (.lst es)
def eLcO (gs : Env → R (List D)) (t : Env → R Bool) (g : Env → R D) (i : Nat) : Env → R O := fun c => eLcs gs t g i c >>= fun es => .ok (.lst (es.map O.v))
def tYes' : Env → R Bool := fun _ => .ok true
abbrev W0 : WX := fun _ _ _ _ => False
/-- a block's tests -/
def PXTs (X : Cx) (ifs : List Expr) (t : Env → R Bool) : Prop := PTs X ifs (TXT ⟨X.K, X.mg⟩ W0 t)
theorem pts_mono {X : Cx} {ifs : List Expr} {t t' : TT} (h : PTs X ifs t) (k : ∀ σ H Q, t' σ H Q → t σ H Q) : PTs X ifs t' := ⟨fun pins s σ H Q I q => h.run pins s σ H Q I (k σ H Q q)⟩
theorem pxts_nil {X : Cx} : PXTs X [] tYes' := pts_mono pts_nil fun σ H Q ⟨B, G, c, fp, A, q⟩ => q G H (Same.refl _) (Same.refl _) A
theorem pxts_one {X : Cx} {c : Expr} {t : Env → R Bool} (h : PXT X W0 c t) : PXTs X [c] t := pts_one h
end
section
variable {E : Wd} {B : Bs} {c : Env} {σ : L2.St} {fp : List Addr} {G G' H H' : Hp}
/-- a block begins -/
theorem Abs.enter {i : Nat} {v : V} {d : D} (A : Abs E B G H c σ fp) (rv : Rp E G v d) : ∃ B' fr, Abs E B' G H (c.set i (some (.v d))) (σ.set i (some v)) fr ∧
    ∀ G' H' c2 σ2 fp2, Same G G' → Same H H' → Abs E B' G' H' c2 σ2 fp2 → Abs E B G' H' c σ fp ∧ ∀ a, H a ≠ none → G a = none → G' a = none := by
  obtain ⟨fr, h1, h2, h3⟩ := A.cells.set i (Own.v rv) A.nd List.nodup_nil fun p hp => nomatch hp
  have sub : ∀ p ∈ fr, p ∈ fp := fun p hp => (h3 p hp).elim id fun z => nomatch z
  refine ⟨⟨H, G, [], fun a => a ∈ fr⟩, fr, ⟨⟨fun a o e _ => e, fun a e => e, fun a _ e => e, A.fine.le, A.fine.tup⟩, h1, h2, fun p hp => ⟨(A.fresh p (sub p hp)).1, .inr hp⟩, fun q hq => nomatch hq⟩, fun G' H' c2 σ2 fp2 s t A2 => ?_⟩
  have gr : ∀ a, H a ≠ none → G a = none → G' a = none := A2.fine.x
  refine ⟨⟨⟨fun a o e n => t a o (A.fine.base a o e n), fun a e => A.fine.there a (t.free e), fun a h1 h2 => ?_, A2.fine.le, A2.fine.tup⟩, A.cells.keep s (fun p _ u e => t p u e), A.nd, fun p hp => ⟨gr p (A.cells.there p hp) (A.fresh p hp).1, (A.fresh p hp).2⟩, A.pin⟩, gr⟩
  exact gr a (fun z => h1 (A.fine.there a z)) (A.fine.x a h1 h2)
/-- a new list that no name owns is written -/
theorem Abs.pokeOut {p : Addr} {u : HO} (A : Abs E B G H c σ fp) (hf : p ∉ fp) (hG : G p = none) (h0 : B.H0 p = none) (hu : isT u = false) : Abs E B G (upd H p u) c σ fp := by
  refine ⟨⟨fun a o e n => ?_, fun a e => ?_, A.fine.x, fun a o e => ?_, fun a o e k => ?_⟩, A.cells.keep (Same.refl _) fun q hq w e => ?_, A.nd, A.fresh, A.pin⟩
  · have ha : a ≠ p := fun z => by subst z; rw [h0] at e; cases e
    rw [upd_ne ha]; exact A.fine.base a o e n
  · by_cases ha : a = p
    · rw [ha]; exact h0
    · rw [upd_ne ha] at e; exact A.fine.there a e
  · have ha : a ≠ p := fun z => by subst z; rw [hG] at e; cases e
    rw [upd_ne ha]; exact A.fine.le a o e
  · by_cases ha : a = p
    · subst ha; rw [upd_same] at e; cases e; rw [hu] at k; cases k
    · rw [upd_ne ha] at e; exact A.fine.tup a o e k
  · have hq' : q ≠ p := fun z => hf (z ▸ hq)
    rw [upd_ne hq']; exact e
/-- it is known from now on -/
theorem Abs.know {p : Addr} {u : HO} (A : Abs E B G H c σ fp) (hf : p ∉ fp) (hG : G p = none) (h0 : B.H0 p = none) (hH : H p = some u) : Abs E B (upd G p u) H c σ fp := by
  refine ⟨⟨A.fine.base, A.fine.there, fun a h1 h2 => ?_, fun a o e => ?_, fun a o e k => ?_⟩, A.cells.keep (same_upd hG) (fun q hq w e => e), A.nd, fun q hq => ⟨?_, (A.fresh q hq).2⟩, A.pin⟩
  · have ha : a ≠ p := fun z => h1 (by rw [z]; exact h0)
    rw [upd_ne ha]; exact A.fine.x a h1 h2
  · by_cases ha : a = p
    · subst ha; rw [upd_same] at e; cases e; exact hH
    · rw [upd_ne ha] at e; exact A.fine.le a o e
  · by_cases ha : a = p
    · subst ha; rw [hH] at e; cases e; exact upd_same
    · rw [upd_ne ha]; exact A.fine.tup a o e k
  · have ha : q ≠ p := fun z => hf (z ▸ hq)
    rw [upd_ne ha]; exact (A.fresh q hq).1
end
/-- what stands between two turns of a comprehension -/
structure LcAt (E : Wd) (B : Bs) (c : Env) (σ : L2.St) (fp : List Addr) (G1 : Hp) (p : Addr) (es : List D) (H : Hp) : Prop where
  ex : ∃ G' vs, Same G1 G' ∧ Abs E B G' H c σ fp ∧ H p = some (.lst vs) ∧ G' p = none ∧ RpL E G' vs es
theorem wipe1 (σ : L2.St) (i : Nat) : wipe σ [i] = σ.set i none := rfl
theorem noX_eq {α : Type} {r : R α} {a : α} (h : noX r = .ok a) : r = .ok a := by
  cases r with
  | ok b => exact h
  | ex e => cases h
  | stuck => cases h
theorem bind_ok_eq {α β : Type} {r : R α} {f : α → R β} {b : β} (h : (r >>= f) = .ok b) : ∃ a, r = .ok a ∧ f a = .ok b := by
  cases r with
  | ok a => exact ⟨a, rfl, h⟩
  | ex e => cases h
  | stuck => cases h
section
variable {X : Cx} {W : WX} {pn : List Nat} {e elt : Expr} {ifs : List Expr} {pos : Pos} {wi : TI} {gs : Env → R (List D)} {t : Env → R Bool} {g : Env → R D} {i : Nat}
theorem tlc_of (K : PySem.W.Frag) (mg : Str → Option Value) (hX : X.K = K) (hmg : X.mg = mg) {tg : Expr} {b : Bool} (ha : PSrc X W b tg e wi gs) {B : Bs} {G H : Hp} {c : Env} {σ : L2.St} {fp : List Addr} {Q : VK} {P : List D → Prop} (A : Abs ⟨X.K, X.mg⟩ B G H c σ fp) (q : Res ⟨X.K, X.mg⟩ W B c σ fp G H (eLcs gs t g i c) P)
    (k : ∀ es G1 H1 p, Same G G1 → Same H H1 → H p = none → p ∉ fp → B.H0 p = none → LcAt ⟨X.K, X.mg⟩ B c σ fp G1 p es H1 → P es → Q (.ref p) H1) : tLc wi (gName i) (TXT ⟨X.K, X.mg⟩ W0 t) (TX ⟨X.K, X.mg⟩ W0 true g) [i] σ H Q := by
  refine ha.run (P := fun ds => Res ⟨X.K, X.mg⟩ W B c σ fp G H (compL t g i c ds >>= fun es => if es.length ≤ 16777216 then R.ok es else .stuck) P) A ?_ fun ds G1 H1 J eds s1 t1 A1 w q1 => ?_
  · unfold eLcs at q
    cases h : gs c with
    | ok ds => rw [h] at q; exact q
    | ex x => rw [h] at q; exact q
    | stuck => rw [h] at q; exact q
  · intro p hp
    cases hes : compL t g i c ds with
    | stuck => rw [hes] at q1; exact q1.elim
    | ex x =>
      exfalso
      have : ∀ ds x, compL t g i c ds ≠ .ex x := by
        intro ds
        induction ds with
        | nil => intro x z; cases z
        | cons d ds ih =>
          intro x z
          rw [compL] at z
          cases ht : t (c.set i (some (.v d))) with
          | ok b =>
            rw [ht] at z
            simp only [noX_ok, ok_bind] at z
            split at z
            · cases hg : g (c.set i (some (.v d))) with
              | ok y =>
                rw [hg] at z
                simp only [noX_ok, ok_bind] at z
                cases hc : compL t g i c ds with
                | ok ys => rw [hc] at z; cases z
                | ex y => exact ih y hc
                | stuck => rw [hc] at z; cases z
              | ex y => rw [hg] at z; cases z
              | stuck => rw [hg] at z; cases z
            · exact ih x z
          | ex y => rw [ht] at z; cases z
          | stuck => rw [ht] at z; cases z
      exact this ds x hes
    | ok tot =>
      rw [hes] at q1
      by_cases hl : tot.length ≤ 16777216
      · have q2 : Res ⟨X.K, X.mg⟩ W B c σ fp G H (if tot.length ≤ 16777216 then R.ok tot else .stuck) P := q1
        rw [if_pos hl] at q2
        have pf : p ∉ fp := fun z => A1.cells.there p z hp
        have p0 : B.H0 p = none := A1.fine.there p hp
        refine ⟨fun j m H => m = ds.length - j ∧ j ≤ ds.length ∧ Same H1 (fun a => if a = p then H1 a else H a) ∧ ∃ es rest, LcAt ⟨X.K, X.mg⟩ B c σ fp G1 p es H ∧ compL t g i c (ds.drop j) = .ok rest ∧ es ++ rest = tot,
          ⟨ds.length, by simp, Nat.zero_le _, fun a o e => ?_, [], tot, ⟨G1, [], Same.refl _, A1.newO hp rfl, upd_same, A1.fine.fresh hp, .nil⟩, hes, rfl⟩, ?_⟩
        · have hne : a ≠ p := ne_of_none e hp
          show (if a = p then H1 a else upd H1 p (.lst []) a) = some o
          rw [if_neg hne, upd_ne hne]; exact e
        · rintro j m H2 ⟨rfl, hj, sm, es, rest, ⟨G2, vs, s2, A2, hD, gD, r2⟩, hc, htot⟩
          have ws : Same (vw b G1 H1) H2 := by
            cases b with
            | true => exact s2.trans A2.fine.le
            | false =>
              intro a o e
              have e : H1 a = some o := e
              have z := sm a o e
              have z : (if a = p then H1 a else H2 a) = some o := z
              rw [if_neg (ne_of_none e hp)] at z
              exact z
          by_cases hlt : j < ds.length
          · refine .inr ⟨w.go j H2 ws hlt, fun H' => j + 1 ≤ ds.length ∧ Same H1 (fun a => if a = p then H1 a else H' a) ∧ ∃ es rest, LcAt ⟨X.K, X.mg⟩ B c σ fp G1 p es H' ∧ compL t g i c (ds.drop (j + 1)) = .ok rest ∧ es ++ rest = tot, fun H' ⟨h1, h2, h3⟩ => ⟨_, by omega, rfl, h1, h2, h3⟩, fun x H3 y => ?_⟩
            obtain ⟨rfl, hr⟩ := w.yl j H2 x H3 ws y
            have hd := List.getElem?_eq_getElem hlt
            rw [drop_cons hd, compL] at hc
            obtain ⟨tb, ht, hc⟩ := bind_ok_eq hc
            have ht := noX_eq ht
            have hsig : (wipe σ [i]).set i (some x) = σ.set i (some x) := by rw [wipe1, List.set_set]
            show (fun σ2 H2 => wipe σ2 [i] = wipe σ [i] ∧ _) ((wipe σ [i]).set i (some x)) H3
            rw [hsig]
            refine ⟨by rw [wipe1, wipe1, List.set_set], ?_⟩
            obtain ⟨B', fr, A3, back⟩ := A2.enter (i := i) ((hr _ hd).mono s2)
            refine ⟨B', G2, _, fr, A3, ?_⟩
            rw [ht]
            intro G4 H4 s4 t4 A4
            have smn : ∀ {Hx Hy : Hp}, Same H1 (fun a => if a = p then H1 a else Hx a) → Same Hx Hy → Same H1 (fun a => if a = p then H1 a else Hy a) := fun {Hx Hy} h1 h2 a o e => by
              have z := h1 a o e
              by_cases hap : a = p
              · show (if a = p then H1 a else Hy a) = some o
                rw [if_pos hap]; exact e
              · have z : (if a = p then H1 a else Hx a) = some o := z
                rw [if_neg hap] at z
                show (if a = p then H1 a else Hy a) = some o
                rw [if_neg hap]; exact h2 a o z
            cases tb with
            | false =>
              rw [if_neg (by decide)]
              have hc : compL t g i c (ds.drop (j + 1)) = .ok rest := hc
              obtain ⟨A5, gr⟩ := back G4 H4 _ _ _ s4 t4 A4
              exact ⟨hlt, smn sm t4, es, rest, ⟨G4, vs, s2.trans s4, A5, t4 p _ hD, gr p (by rw [hD]; exact fun z => nomatch z) gD, r2.mono s4⟩, hc, htot⟩
            | true =>
              rw [if_pos rfl]
              have hc : (noX (g (c.set i (some (.v ds[j])))) >>= fun x => compL t g i c (ds.drop (j + 1)) >>= fun xs => R.ok (x :: xs)) = .ok rest := hc
              obtain ⟨x1, hg, hc⟩ := bind_ok_eq hc
              have hg := noX_eq hg
              obtain ⟨xs, hxs, hc⟩ := bind_ok_eq hc
              cases hc
              refine ⟨B', G4, _, fr, A4, ?_⟩
              rw [hg]
              intro v5 G5 H5 s5 t5 A5 r5
              obtain ⟨A6, gr⟩ := back G5 H5 _ _ _ (s4.trans s5) (t4.trans t5) A5
              have hD5 : H5 p = some (.lst vs) := t5 p _ (t4 p _ hD)
              have g5 : G5 p = none := gr p (by rw [hD]; exact fun z => nomatch z) gD
              have hvl : vs.length = es.length := r2.length
              have hle : es.length < tot.length := by rw [← htot]; simp
              refine ⟨vs, hD5, by rw [hvl, sizeLine_eq]; omega, hlt, fun a o e => ?_, es ++ [x1], xs, ⟨G5, vs ++ [v5], s2.trans (s4.trans s5), A6.pokeOut pf g5 p0 rfl, upd_same, g5, (r2.mono (s4.trans s5)).append (.cons r5 .nil)⟩, hxs, by rw [← htot]; simp⟩
              have z := smn (smn sm t4) t5 a o e
              by_cases hap : a = p
              · show (if a = p then H1 a else _) = some o
                rw [if_pos hap]; exact e
              · have z : (if a = p then H1 a else H5 a) = some o := z
                rw [if_neg hap] at z
                show (if a = p then H1 a else upd H5 p _ a) = some o
                rw [if_neg hap, upd_ne hap]; exact z
          · have ej : j = ds.length := by omega
            subst ej
            rw [List.drop_length] at hc
            cases hc
            rw [List.append_nil] at htot
            subst htot
            have smH : Same H H2 := fun a o e => by
              have e1 := t1 a o e
              have z := sm a o e1
              have z : (if a = p then H1 a else H2 a) = some o := z
              rw [if_neg (ne_of_none e1 hp)] at z
              exact z
            exact .inl ⟨w.st _ H2 ws (Nat.le_refl _), k es G1 H2 p s1 smH (t1.free hp) pf p0 ⟨G2, vs, s2, A2, hD, gD, r2⟩ q2⟩
      · have q2 : Res ⟨X.K, X.mg⟩ W B c σ fp G H (if tot.length ≤ 16777216 then R.ok tot else .stuck) P := q1
        rw [if_neg hl] at q2
        exact q2.elim

theorem lc_fin {B : Bs} {c : Env} {σ : L2.St} {fp : List Addr} {G G1 H H1 : Hp} {Q : VK} {p : Addr} {es : List D} (s : Same G G1) (t : Same H H1) (pf : p ∉ fp) (p0 : B.H0 p = none) (l : LcAt ⟨X.K, X.mg⟩ B c σ fp G1 p es H1) (q : Post ⟨X.K, X.mg⟩ B c σ fp G H true Q (.lst es)) : Q (.ref p) H1 := by
  obtain ⟨G2, vs, s2, A2, hD, gD, r2⟩ := l
  have A3 := A2.know pf gD p0 hD
  exact q _ _ _ (s.trans (s2.trans (same_upd gD))) t A3 (.lst (.inl (.inl upd_same)) (r2.mono (same_upd gD)))
theorem lc_finO {B : Bs} {c : Env} {σ : L2.St} {fp : List Addr} {G G1 H H1 : Hp} {Q : VK} {p : Addr} {es : List D} (s : Same G G1) (t : Same H H1) (hp : H p = none) (l : LcAt ⟨X.K, X.mg⟩ B c σ fp G1 p es H1) (q : PostF ⟨X.K, X.mg⟩ B c σ fp G H Q (.lst (es.map O.v))) : Q (.ref p) H1 := by
  obtain ⟨G2, vs, s2, A2, hD, gD, r2⟩ := l
  refine q _ _ _ [p] (s.trans s2) t A2 (.lst hD (ownL_v r2)) (by simp) fun a ha => ?_
  have : a = p := by simpa using ha
  subst this
  exact ⟨hp, gD⟩
theorem tlc_v {tg : Expr} {b : Bool} (ha : PSrc X W b tg e wi gs) : ∀ σ H Q, TX ⟨X.K, X.mg⟩ W true (eLc gs t g i) σ H Q → tLc wi (gName i) (TXT ⟨X.K, X.mg⟩ W0 t) (TX ⟨X.K, X.mg⟩ W0 true g) [i] σ H Q := fun σ H Q ⟨B, G, c, fp, A, q⟩ => by
  refine tlc_of X.K X.mg rfl rfl ha A (P := fun es => Post ⟨X.K, X.mg⟩ B c σ fp G H true Q (.lst es)) ?_ fun es G1 H1 p s1 t1 hp pf p0 l q1 => lc_fin s1 t1 pf p0 l q1
  unfold eLc at q
  cases h : eLcs gs t g i c with
  | ok es => rw [h] at q; exact q
  | ex x => rw [h] at q; exact q
  | stuck => rw [h] at q; exact q
theorem tlc_o {tg : Expr} {b : Bool} (ha : PSrc X W b tg e wi gs) : ∀ σ H Q, TF ⟨X.K, X.mg⟩ W (eLcO gs t g i) σ H Q → tLc wi (gName i) (TXT ⟨X.K, X.mg⟩ W0 t) (TX ⟨X.K, X.mg⟩ W0 true g) [i] σ H Q := fun σ H Q ⟨B, G, c, fp, A, q⟩ => by
  refine tlc_of X.K X.mg rfl rfl ha A (P := fun es => PostF ⟨X.K, X.mg⟩ B c σ fp G H Q (.lst (es.map O.v))) ?_ fun es G1 H1 p s1 t1 hp pf p0 l q1 => lc_finO s1 t1 hp l q1
  unfold eLcO at q
  cases h : eLcs gs t g i c with
  | ok es => rw [h] at q; exact q
  | ex x => rw [h] at q; exact q
  | stuck => rw [h] at q; exact q
section
variable {x y : Str} {p py : Pos} {scope : Scope} {spos : Pos}
theorem px_lc (i : Nat) (hc : X.calm = true) (hN : X.N.Nodup) {b : Bool} (ha : PSrc X W b (.Name x p) e wi gs) (ok : BlkOk X.N X.env.scope scope [(x, i)])
    (hg : ∀ (s : Shared) (H : Hp) (C : Addr) (cl : List (Str × Addr)) (fp : List Addr), PG (X.blk s H scope (compEnvC scope cl C X.env) fp) (.Name x p) (gName i)) (ht : ∀ (s : Shared) (H : Hp) (C : Addr) (cl : List (Str × Addr)) (fp : List Addr), PXTs (X.blk s H scope (compEnvC scope cl C X.env) fp) ifs t)
    (he : ∀ (s : Shared) (H : Hp) (C : Addr) (cl : List (Str × Addr)) (fp : List Addr), PX (X.blk s H scope (compEnvC scope cl C X.env) fp) W0 true elt g) (hs : ∀ z, foldedSetIterable e X.env z = pure z := by intro _; rfl) :
    PX X W true (.ListComp elt [⟨.Name x p, e, ifs, 0⟩] scope pos) (eLc gs t g i) := pe_mono (pe_lc (own := [(x, i)]) (tt := TXT ⟨X.K, X.mg⟩ W0 t) (te := TX ⟨X.K, X.mg⟩ W0 true g) hc hN ha.pi ok hg ht he hs) (tlc_v ha)
theorem pf_lc (i : Nat) (hc : X.calm = true) (hN : X.N.Nodup) {b : Bool} (ha : PSrc X W b (.Name x p) e wi gs) (ok : BlkOk X.N X.env.scope scope [(x, i)])
    (hg : ∀ (s : Shared) (H : Hp) (C : Addr) (cl : List (Str × Addr)) (fp : List Addr), PG (X.blk s H scope (compEnvC scope cl C X.env) fp) (.Name x p) (gName i)) (ht : ∀ (s : Shared) (H : Hp) (C : Addr) (cl : List (Str × Addr)) (fp : List Addr), PXTs (X.blk s H scope (compEnvC scope cl C X.env) fp) ifs t)
    (he : ∀ (s : Shared) (H : Hp) (C : Addr) (cl : List (Str × Addr)) (fp : List Addr), PX (X.blk s H scope (compEnvC scope cl C X.env) fp) W0 true elt g) (hs : ∀ z, foldedSetIterable e X.env z = pure z := by intro _; rfl) :
    PF X W (.ListComp elt [⟨.Name x p, e, ifs, 0⟩] scope pos) (eLcO gs t g i) := pe_mono (pe_lc (own := [(x, i)]) (tt := TXT ⟨X.K, X.mg⟩ W0 t) (te := TX ⟨X.K, X.mg⟩ W0 true g) hc hN ha.pi ok hg ht he hs) (tlc_o ha)
/-- y = [..] -/
theorem pxs_setLc (k i : Nat) (hc : X.calm = true) (hN : X.N.Nodup) (hsw : swapsWith (.ListComp elt [⟨.Name x p, e, ifs, 0⟩] scope pos) (some (.Name y py)) spos.line X.env = pure true) {b : Bool} (ha : PSrc X W b (.Name x p) e wi gs) (ok : BlkOk X.N X.env.scope scope [(x, i)])
    (hg : ∀ (s : Shared) (H : Hp) (C : Addr) (cl : List (Str × Addr)) (fp : List Addr), PG (X.blk s H scope (compEnvC scope cl C X.env) fp) (.Name x p) (gName i)) (ht : ∀ (s : Shared) (H : Hp) (C : Addr) (cl : List (Str × Addr)) (fp : List Addr), PXTs (X.blk s H scope (compEnvC scope cl C X.env) fp) ifs t)
    (he : ∀ (s : Shared) (H : Hp) (C : Addr) (cl : List (Str × Addr)) (fp : List Addr), PX (X.blk s H scope (compEnvC scope cl C X.env) fp) W0 true elt g) (hy : X.N[k]? = some y := by rfl) (hyl : X.env.scope.names.lookup y = some .local := by rfl) (hi : k ∉ pn := by decide) (hs : ∀ z, foldedSetIterable e X.env z = pure z := by intro _; rfl) :
    PXS X W pn (.Assign [.Name y py] (.ListComp elt [⟨.Name x p, e, ifs, 0⟩] scope pos) spos) (sSet k (eLc gs t g i)) :=
  ps_mono (ps_setLc (own := [(x, i)]) (tt := TXT ⟨X.K, X.mg⟩ W0 t) (te := TX ⟨X.K, X.mg⟩ W0 true g) hc hN hy hyl hsw ha.pi ok hg ht he hs) fun Dn σ H ⟨B, G, c, fp, A, P, q⟩ => tlc_v ha σ H _ (tx_st A q fun d e v G1 H1 s1 t1 A1 r1 q1 => by
    obtain ⟨fr, A2⟩ := A1.setV (i := k) r1 (P.ne hi)
    exact q1 _ G1 H1 fr (Same.refl _) A2)
theorem pxs_setLcO (k i : Nat) (hc : X.calm = true) (hN : X.N.Nodup) (hsw : swapsWith (.ListComp elt [⟨.Name x p, e, ifs, 0⟩] scope pos) (some (.Name y py)) spos.line X.env = pure true) {b : Bool} (ha : PSrc X W b (.Name x p) e wi gs) (ok : BlkOk X.N X.env.scope scope [(x, i)])
    (hg : ∀ (s : Shared) (H : Hp) (C : Addr) (cl : List (Str × Addr)) (fp : List Addr), PG (X.blk s H scope (compEnvC scope cl C X.env) fp) (.Name x p) (gName i)) (ht : ∀ (s : Shared) (H : Hp) (C : Addr) (cl : List (Str × Addr)) (fp : List Addr), PXTs (X.blk s H scope (compEnvC scope cl C X.env) fp) ifs t)
    (he : ∀ (s : Shared) (H : Hp) (C : Addr) (cl : List (Str × Addr)) (fp : List Addr), PX (X.blk s H scope (compEnvC scope cl C X.env) fp) W0 true elt g) (hy : X.N[k]? = some y := by rfl) (hyl : X.env.scope.names.lookup y = some .local := by rfl) (hi : k ∉ pn := by decide) (hs : ∀ z, foldedSetIterable e X.env z = pure z := by intro _; rfl) :
    PXS X W pn (.Assign [.Name y py] (.ListComp elt [⟨.Name x p, e, ifs, 0⟩] scope pos) spos) (sSetO k (eLcO gs t g i)) :=
  ps_mono (ps_setLc (own := [(x, i)]) (tt := TXT ⟨X.K, X.mg⟩ W0 t) (te := TX ⟨X.K, X.mg⟩ W0 true g) hc hN hy hyl hsw ha.pi ok hg ht he hs) fun Dn σ H ⟨B, G, c, fp, A, P, q⟩ => tlc_o ha σ H _ (tf_st A q fun o e v G1 H1 fq s1 t1 A1 w n d q1 => by
    obtain ⟨fr, A2⟩ := set_fresh A1 (A.cells.there) A.fine.there w n d P hi
    exact q1 _ G1 H1 fr (Same.refl _) A2)
end
end
end VS

/-! VS: defs, calls, the law's end. -/
namespace VS
open PySem PySem.Spec PyProof.Rows L2

/-- a def's run: n names -/
def runF (n : Nat) (body : Env → Rs) (ds : List D) : R D :=
  match body (ds.map (fun d => some (O.v d)) ++ List.replicate (n - ds.length) none) with
  | .ok (.rt d) _ => .ok d
  | .ok .nx _ => .ok .non
  | .ex e _ => .ex e
  | _ => .stuck
def spM (E : Wd) (n : Nat) (m : List D → R D) : Sp := fun vs H Q Ex => ∃ G ds, vs.length = n ∧ Same G H ∧ (∀ a u, H a = some u → isT u = true → G a = some u) ∧ RpL E G vs ds ∧
  match m ds with
  | .ok d => ∀ v G' H', Same G G' → Same G' H' → Same H H' → (∀ a, H a ≠ none → G a = none → G' a = none) → (∀ a u, H' a = some u → isT u = true → G' a = some u) → Rp E G' v d → Q v H'
  | _ => False
abbrev FnM (P : Program) (w : World) (K : PySem.W.Frag) (mg : Str → Option Value) (base : Heap) (k : Nat) (f : Addr) (fd : FuncData) (ps : List Str) (m : List D → R D) : Prop := FnOk P w K mg base CX0 k f fd ps (spM ⟨K, mg⟩ ps.length m)
section
variable {E : Wd} {B : Bs} {G G' H H' : Hp} {c : Env} {σ : L2.St} {fp : List Addr}
theorem cells_none : ∀ (k : Nat), Cells E G H (List.replicate k none) (List.replicate k none) []
  | 0 => .nil
  | k + 1 => by
    rw [List.replicate_succ, List.replicate_succ]
    exact .no (cells_none k)
theorem cells_start (k : Nat) : ∀ {vs : List V} {ds : List D}, RpL E G vs ds → Cells E G H (ds.map (fun d => some (O.v d)) ++ List.replicate k none) (vs.map some ++ List.replicate k none) []
  | _, [], r => by cases r; exact cells_none k
  | _, d :: ds, r => by
    cases r with
    | cons h r => exact Cells.yes (fp := []) (fq := []) (.v h) (cells_start k r)
/-- behind a call: all that was known or owned stays -/
theorem Abs.call (A : Abs E B G H c σ fp) (s : Same G G') (t : Same H H') (l : Same G' H') (gr : ∀ a, H a ≠ none → G a = none → G' a = none) (tp : ∀ a u, H' a = some u → isT u = true → G' a = some u) : Abs E B G' H' c σ fp :=
  ⟨⟨fun a o e n => t a o (A.fine.base a o e n), fun a e => A.fine.there a (t.free e), fun a h1 h2 => gr a (fun z => h1 (A.fine.there a z)) (A.fine.x a h1 h2), l, tp⟩, A.cells.keep s (fun p _ u e => t p u e), A.nd,
    fun p hp => ⟨gr p (A.cells.there p hp) (A.fresh p hp).1, (A.fresh p hp).2⟩, A.pin⟩
end
section
variable {P : Program} {w : World} {K : PySem.W.Frag} {mg : Str → Option Value} {base : Heap}
/-- a def whose body is worth body -/
theorem fnm_of {x qual : Str} {st : Stmt} {f : Addr} {fd : FuncData} {N ps : List Str} {k : Nat} {body : Env → Rs} (F : Fun K x qual st f fd) (S : FnScope N ps (defScope st))
    (hbody : ∀ (cdv : Value) (A : Around) (outer : List PySem.Env) (s : Shared) (H : Hp) (E : XK), Room k (A.deeper (envOfC qual (defScope st) s.heap.objs.size f cdv)) → PXSs (cxOf CX0 P w K mg base N qual (defScope st) f cdv A outer s H E).nox W0 [] (defBody st) body) :
    FnM P w K mg base (k + 1) f fd ps (runF N.length body) := by
  refine F.ok S (fun vs H Q E h => ?_) (fun cdv A outer s H vs Q E hr h => ?_)
  · obtain ⟨_, _, h, _⟩ := h
    exact h
  · obtain ⟨G, ds, hl, sG, tp, r, q⟩ := h
    refine ⟨_, hbody cdv A outer s H E hr, ?_⟩
    have hvl : vs.length = ds.length := r.length
    refine ⟨⟨H, G, [], fun _ => False⟩, G, ds.map (fun d => some (O.v d)) ++ List.replicate (N.length - ds.length) none, [], ⟨⟨fun a o e _ => e, fun a e => e, fun a _ e => e, sG, tp⟩, ?_, List.nodup_nil, (fun p hp => nomatch hp), (fun q hq => nomatch hq)⟩, ⟨(fun q hq => nomatch hq), fun _ a z => z⟩, ?_⟩
    · unfold L2.start
      rw [hvl]
      exact cells_start _ r
    · unfold runF at q
      cases e : body (ds.map (fun d => some (O.v d)) ++ List.replicate (N.length - ds.length) none) with
      | ok fl c' =>
        rw [e] at q
        cases fl with
        | nx => exact fun σ' G' H' fp' s' A' => q .non G' H' s' A'.fine.le (fun a o e => A'.fine.base a o e fun z => z) A'.fine.x A'.fine.tup .non
        | bk => exact q.elim
        | ct => exact q.elim
        | rt d => exact fun v σ' G' H' fp' s' A' r' => q v G' H' s' A'.fine.le (fun a o e => A'.fine.base a o e fun z => z) A'.fine.x A'.fine.tup r'
      | ex x c' => rw [e] at q; exact q.elim
      | stuck => rw [e] at q; exact q.elim
/-- no word -/
theorem fnm_stuck {x qual : Str} {st : Stmt} {f : Addr} {fd : FuncData} {ps : List Str} {k : Nat} : FnM P w K mg base k f fd ps (fun _ => .stuck) :=
  ⟨fun vs H Q E h => h.choose_spec.choose_spec.1, fun A outer s H args us vs Q E hr e0 hb r h => by
    obtain ⟨G, ds, _, _, _, _, q⟩ := h
    exact q.elim⟩
theorem FnM.eq {f : Addr} {fd : FuncData} {ps : List Str} {k : Nat} {m m' : List D → R D} (F : FnM P w K mg base k f fd ps m) (h : m = m') : FnM P w K mg base k f fd ps m' := h ▸ F
end
section
variable {X : Cx} {W : WX} {k : Nat} {f : Addr} {fd : FuncData} {ps : List Str} {x : Str} {p pos : Pos} {e : Expr} {es : List Expr} {gs : Env → R (List D)} {m : List D → R D}
def eCall (m : List D → R D) (gs : Env → R (List D)) : Env → R D := fun c => gs c >>= fun ds => noX (m ds)
theorem call_true {B : Bs} {G H : Hp} {c : Env} {σ : L2.St} {fp : List Addr} {vs : List V} {ds : List D} {Q : VK} {Ex : XK} (F : FnM X.prog X.w X.K X.mg X.base k f fd ps m) (A : Abs ⟨X.K, X.mg⟩ B G H c σ fp) (r : RpL ⟨X.K, X.mg⟩ G vs ds) (hl : ds.length = ps.length)
    (q : Res ⟨X.K, X.mg⟩ W B c σ fp G H (noX (m ds)) (Post ⟨X.K, X.mg⟩ B c σ fp G H true Q)) : spM ⟨X.K, X.mg⟩ ps.length m vs H Q Ex := by
  refine ⟨G, ds, by rw [r.length]; exact hl, A.fine.le, A.fine.tup, r, ?_⟩
  cases e : m ds with
  | ok d =>
    rw [e] at q
    exact fun v G' H' s l t gr tp rv => q v G' H' s t (A.call s t l gr tp) rv
  | ex y => rw [e] at q; exact q
  | stuck => rw [e] at q; exact q
theorem call_false {B : Bs} {G H : Hp} {c : Env} {σ : L2.St} {fp : List Addr} {vs : List V} {ds : List D} {Q : VK} {Ex : XK} (F : FnM X.prog X.w X.K X.mg X.base k f fd ps m) (A : Abs ⟨X.K, X.mg⟩ B G H c σ fp) (r : RpL ⟨X.K, X.mg⟩ H vs ds) (hl : ds.length = ps.length)
    (q : Res ⟨X.K, X.mg⟩ W B c σ fp G H (noX (m ds)) (Post ⟨X.K, X.mg⟩ B c σ fp G H false Q)) : spM ⟨X.K, X.mg⟩ ps.length m vs H Q Ex := by
  refine ⟨H, ds, by rw [r.length]; exact hl, Same.refl _, fun _ _ e _ => e, r, ?_⟩
  cases e : m ds with
  | ok d =>
    rw [e] at q
    intro v G' H' s l t gr tp rv
    let G2 : Hp := fun a => if H a = none then G' a else G a
    have g1 : ∀ a, H a = none → G2 a = G' a := fun a h => if_pos h
    have g2 : ∀ a, H a ≠ none → G2 a = G a := fun a h => if_neg h
    have ne : ∀ a o, H a = some o → H a ≠ none := fun a o h z => by rw [h] at z; cases z
    refine q v G2 H' (fun a o ha => ?_) t (A.call (fun a o ha => ?_) t (fun a o ha => ?_) (fun a h1 h2 => ?_) fun a u h1 h2 => ?_) (rv.mono l)
    · rw [g2 a (ne a o (A.fine.le a o ha))]; exact ha
    · rw [g2 a (ne a o (A.fine.le a o ha))]; exact ha
    · by_cases h : H a = none
      · rw [g1 a h] at ha; exact l a o ha
      · rw [g2 a h] at ha; exact t a o (A.fine.le a o ha)
    · rw [g2 a h1]; exact h2
    · by_cases h : H a = none
      · rw [g1 a h]; exact tp a u h1 h2
      · rw [g2 a h]
        cases hh : H a with
        | none => exact absurd hh h
        | some o =>
          have := t a o hh
          rw [h1] at this
          cases this
          exact A.fine.tup a u hh h2
  | ex y => rw [e] at q; exact q
  | stuck => rw [e] at q; exact q
/-- how many arguments -/
def eArgs (n : Nat) (gs : Env → R (List D)) : Env → R (List D) := fun c => gs c >>= fun ds => if ds.length = n then .ok ds else .stuck
theorem px_call (F : FnM X.prog X.w X.K X.mg X.base k f fd ps m) (hr : Room k X.A) (hm : X.mg x = some (.ref f)) (hk : PySem.W.keepIn X.K (.ref f) = true) (hb : Binds X.K fd ps []) (ha : PXA X W true (e :: es) gs) (hn : ∀ c ds, gs c = .ok ds → ds.length = ps.length) (hg : Gl X x := by rfl)
    (hdb : (x == ("__debug__" : Str)) = false := by decide) (he : starEach (e :: es) X.env = (false, eval e X.env) :: starEach es X.env := by rfl) (hpl : (backTo pos (starEach es X.env)).any (·.1) = false := by rfl) :
    PX X W true (.Call (.Name x p) (e :: es) [] pos) (eCall m gs) :=
  pe_mono (pe_call F hr hg hm hk hb .nil pass0 ha hdb he hpl) fun σ H Q ⟨B, G, c, fp, A, q⟩ => txa_seq A q fun ds e vs G1 H1 s1 t1 A1 r1 q1 => by
    rw [List.append_nil]
    exact call_true F A1 r1 (hn c ds e) (Res.grow (r := noX (m ds)) q1 (Same.refl _) (Same.refl _) fun d _ z => z.grow s1 t1)
theorem px_callL (F : FnM X.prog X.w X.K X.mg X.base k f fd ps m) (hr : Room k X.A) (hm : X.mg x = some (.ref f)) (hk : PySem.W.keepIn X.K (.ref f) = true) (hb : Binds X.K fd ps []) (ha : PXA X W false (e :: es) gs) (hn : ∀ c ds, gs c = .ok ds → ds.length = ps.length) (hg : Gl X x := by rfl)
    (hdb : (x == ("__debug__" : Str)) = false := by decide) (he : starEach (e :: es) X.env = (false, eval e X.env) :: starEach es X.env := by rfl) (hpl : (backTo pos (starEach es X.env)).any (·.1) = false := by rfl) :
    PX X W false (.Call (.Name x p) (e :: es) [] pos) (eCall m gs) :=
  pe_mono (pe_call F hr hg hm hk hb .nil pass0 ha hdb he hpl) fun σ H Q ⟨B, G, c, fp, A, q⟩ => txa_seq A q fun ds e vs G1 H1 s1 t1 A1 r1 q1 => by
    rw [List.append_nil]
    exact call_false F A1 r1 (hn c ds e) (Res.grow (r := noX (m ds)) q1 (Same.refl _) (Same.refl _) fun d _ z => z.grow s1 t1)
theorem px_call0 (F : FnM X.prog X.w X.K X.mg X.base k f fd [] m) (hr : Room k X.A) (hm : X.mg x = some (.ref f)) (hk : PySem.W.keepIn X.K (.ref f) = true) (hb : Binds X.K fd [] []) (hg : Gl X x := by rfl)
    (hdb : (x == ("__debug__" : Str)) = false := by decide) :
    PX X W true (.Call (.Name x p) [] [] pos) (eCall m eNil) :=
  pe_mono (pe_call0 F hr hg hm hk hb .nil pass0 hdb) fun σ H Q ⟨B, G, c, fp, A, q⟩ => call_true (Ex := E0) F A .nil rfl q
end
theorem len_nil {c : Env} {ds : List D} (h : eNil c = .ok ds) : ds.length = 0 := by cases h; rfl
theorem len_cons {c : Env} {g : Env → R D} {gs : Env → R (List D)} {n : Nat} (k : ∀ ds, gs c = .ok ds → ds.length = n) {ds : List D} (h : eCons g gs c = .ok ds) : ds.length = n + 1 := by
  unfold eCons at h
  obtain ⟨d, _, h⟩ := bind_ok_eq h
  obtain ⟨es, h1, h⟩ := bind_ok_eq h
  cases h
  simp [k es h1]
/-- the law's own promise, of its run -/
theorem law_sp {K : PySem.W.Frag} {mg : Str → Option Value} {m : List D → R D} (hm : ∀ ns : List Int, ns.length ≤ 63 → m [.lst (ns.map D.int)] = .ok (.bl true)) {H : Hp} {a : Addr} {ns : List Int} (hl : ns.length ≤ 63) (hO : Only H) (hS : SqL K H a (ns.map V.int)) :
    spM ⟨K, mg⟩ 1 m [.ref a] H (fun v _ => v = .bl true) fun _ _ _ => False := by
  refine ⟨H, [.lst (ns.map D.int)], rfl, Same.refl _, fun _ _ e _ => e, .cons (.lst hS (RpL.ofInt ns)) .nil, ?_⟩
  rw [hm ns hl]
  intro v G' H' _ _ _ _ _ r
  exact r.blH
end VS

/-! VS: more rules. -/
namespace VS
open PySem PySem.Spec PyProof.Rows L2
section
variable {X : Cx} {W : WX} {pn : List Nat} {b b' b1 b2 b3 : Bool} {a e : Expr} {pos : Pos}
def eNeg (g : Env → R D) : Env → R D := fun c => g c >>= fun d => match d with
  | .int i => .ok (.int (-i))
  | _ => .stuck
theorem px_neg {g : Env → R D} (h : PX X W b a g) : PX X W true (.UnaryOp .USub a pos) (eNeg g) := pe_mono (pe_un un_neg h) fun σ H Q ⟨B, G, c, fp, A, q⟩ => tx_seq A q fun d e v G1 H1 s1 t1 A1 r1 q1 => by
  cases d with
  | int i => exact ⟨i, r1.intH, q1 _ G1 H1 s1 t1 A1 (.int _)⟩
  | _ => exact q1.elim
/-- a < b < c -/
def eChain (f k : D → D → Option D) (ga gb gc : Env → R D) : Env → R D := fun c => ga c >>= fun x => gb c >>= fun y => lift (f x y) >>= fun z => lift (asB z) >>= fun t => if t then gc c >>= fun u => lift (k y u) else .ok (.bl false)
theorem tx_chain {r r' : R2} {f k : D → D → Option D} (hr : Op2Ok ⟨X.K, X.mg⟩ r b1 b2 true f) (hr' : Op2Ok ⟨X.K, X.mg⟩ r' b2 b3 true k) {ga gb gc : Env → R D} : ∀ σ H Q, TX ⟨X.K, X.mg⟩ W true (eChain f k ga gb gc) σ H Q → tChain r r' (TX ⟨X.K, X.mg⟩ W b1 ga) (TX ⟨X.K, X.mg⟩ W b2 gb) (TX ⟨X.K, X.mg⟩ W b3 gc) σ H Q :=
  fun σ H Q ⟨B, G, c, fp, A, q⟩ => tx_seq A q fun d e v G1 H1 s1 t1 A1 r1 q1 => tx_seq A1 q1 fun d2 e2 v2 G2 H2 s2 t2 A2 r2 q2 => by
    cases hf : f d d2 with
    | none => rw [hf] at q2; exact q2.elim
    | some z =>
      rw [hf] at q2
      have q2 : Res ⟨X.K, X.mg⟩ W B c σ fp G2 H2 (lift (asB z) >>= fun t => if t then gc c >>= fun u => lift (k d2 u) else .ok (.bl false)) _ := q2
      cases hz : asB z with
      | none => rw [hz] at q2; exact q2.elim
      | some t =>
        rw [hz] at q2
        have q2 : Res ⟨X.K, X.mg⟩ W B c σ fp G2 H2 (if t = true then gc c >>= fun u => lift (k d2 u) else .ok (.bl false)) _ := q2
        refine hr A2 (vw_mono s2 t2 r1) r2 hf fun v3 G3 H3 s3 t3 A3 r3 => ?_
        refine ⟨t, asB_rp r3 hz, ?_⟩
        cases t with
        | true =>
          rw [if_pos rfl] at q2 ⊢
          refine tx_seq A3 (Res.grow (r := gc c >>= fun u => lift (k d2 u)) q2 s3 t3 fun _ _ z => z) fun d4 e4 v4 G4 H4 s4 t4 A4 r4 q4 => ?_
          obtain ⟨d5, e5, p5⟩ := Res.lift q4
          exact hr' A4 (vw_mono (s3.trans s4) (t3.trans t4) r2) r4 e5 (p5.grow (s1.trans (s2.trans (s3.trans s4))) (t1.trans (t2.trans (t3.trans t4))))
        | false =>
          rw [if_neg (by decide)] at q2 ⊢
          exact (show Post _ _ _ _ _ _ _ _ _ _ from q2) _ G3 H3 (s1.trans (s2.trans s3)) (t1.trans (t2.trans t3)) A3 (.bl _)
theorem px_chain {op op' : CmpOp} {r r' : R2} {f k : D → D → Option D} {eb ec : Expr} (ho : OpR X (compareOp op) r) (ho' : OpR X (compareOp op') r') (hr : Op2Ok ⟨X.K, X.mg⟩ r b1 b2 true f) (hr' : Op2Ok ⟨X.K, X.mg⟩ r' b2 b3 true k) {ga gb gc : Env → R D} (ha : PX X W b1 a ga) (hb : PX X W b2 eb gb) (hc : PX X W b3 ec gc) (hm : lastMarks [op, op'] [eb, ec] = false := by with_unfolding_all rfl) :
    PX X W true (.Compare a [op, op'] [eb, ec] pos) (eChain f k ga gb gc) := pe_mono (pe_chain ho ho' ha hb hc hm) (tx_chain hr hr')
theorem pxt_chain {op op' : CmpOp} {r r' : R2} {f k : D → D → Option D} {eb ec : Expr} (ho : OpR X (compareOp op) r) (ho' : OpR X (compareOp op') r') (hr : Op2Ok ⟨X.K, X.mg⟩ r b1 b2 true f) (hr' : Op2Ok ⟨X.K, X.mg⟩ r' b2 b3 true k) {ga gb gc : Env → R D} (ha : PX X W b1 a ga) (hb : PX X W b2 eb gb) (hc : PX X W b3 ec gc) (hm : lastMarks [op, op'] [eb, ec] = false := by with_unfolding_all rfl) :
    PXT X W (.Compare a [op, op'] [eb, ec] pos) (eB (eChain f k ga gb gc)) := pt_mono (pt_chain ho ho' ha hb hc hm) fun σ H Q q => tx_chain hr hr' σ H _ (tx_test (b := true) σ H Q q)

/-! ### an item of what a name owns -/
def ixO (o : O) (k : D) : Option D :=
  match o, k with
  | .lst os, .int k => (atI os k).bind fun o => match o with
    | .v d => some d
    | _ => none
  | .v d, k => opIx true d k
  | _, _ => none
def eIxo (i : Nat) (gb : Env → R D) : Env → R D := fun c => match c[i]? with
  | some (some o) => gb c >>= fun k => lift (ixO o k)
  | _ => .stuck
theorem OwnL.get : ∀ {E : Wd} {G H : Hp} {vs : List V} {os : List O} {fp : List Addr} {j : Nat} {o : O}, OwnL E G H vs os fp → os[j]? = some o → ∃ v fq, vs[j]? = some v ∧ Own E G H v o fq
  | _, _, _, _, [], _, j, o, h, e => by simp at e
  | _, _, _, _, o' :: os, _, 0, o, h, e => by
    cases h with
    | cons h r => simp at e; subst e; exact ⟨_, _, rfl, h⟩
  | _, _, _, _, o' :: os, _, j + 1, o, h, e => by
    cases h with
    | cons h r =>
      obtain ⟨v, fq, e1, e2⟩ := OwnL.get (j := j) r (by simpa using e)
      exact ⟨v, fq, by simpa using e1, e2⟩
theorem px_ixo {x : Str} {p : Pos} (i : Nat) {eb : Expr} {gb : Env → R D} (hb : PX X W b eb gb) (hN : X.N[i]? = some x := by rfl) (hv : Vis X.env.scope x := by first | exact Or.inl rfl | exact Or.inr (Or.inl rfl) | exact Or.inr (Or.inr rfl)) (hd : (x == ("__debug__" : Str)) = false := by decide)
    (hcd : (x == ("__classdict__" : Str)) = false := by decide) (hs : PlainIx eb := by exact fun _ _ => rfl) : PX X W true (.Subscript (.Name x p) eb pos) (eIxo i gb) :=
  pe_mono (pe_ix ix_seq (pe_var hN hv hd hcd) hb hs) fun σ H Q ⟨B, G, c, fp, A, q⟩ => by
    unfold eIxo at q
    split at q
    · rename_i o e1
      obtain ⟨v, fq, h1, h2, _⟩ := A.cells.get e1
      refine ⟨v, h1, tx_seq A q fun k e3 w G1 H1 s1 t1 A1 r1 q1 => ?_⟩
      obtain ⟨d, e4, p4⟩ := Res.lift q1
      obtain ⟨v', fq', h1', h2', _⟩ := A1.cells.get e1
      rw [h1] at h1'
      cases h1'
      unfold ixO at e4
      split at e4
      · rename_i os k
        obtain ⟨o', e5, e6⟩ := Option.bind_eq_some_iff.mp e4
        cases h2' with
        | @lst a vs _ fq ha ho =>
          unfold atI at e5
          obtain ⟨j, e7, e8⟩ := Option.bind_eq_some_iff.mp e5
          obtain ⟨v8, f8, e9, e10⟩ := ho.get e8
          split at e6
          · cases e6
            cases e10 with
            | v rv =>
              refine .inl ⟨a, vs, k, v8, rfl, r1.intH, .inl (.inl ha), ?_, p4 _ G1 H1 s1 t1 A1 rv⟩
              unfold atI
              rw [ho.length, e7]
              exact e9
          · cases e6
      · rename_i dk
        cases h2' with
        | v rv => exact ok_ix (b := true) A1 rv r1 e4 (p4.grow s1 t1)
      · cases e4
    · exact q.elim
/-- an item at the loan's level -/
theorem ok_ixL : Op2Ok ⟨X.K, X.mg⟩ (rIx X.K) false b2 false (opIx true) := by
  intro B G H c σ fp x y dx dy d Q A rx ry e p
  unfold opIx at e
  split at e
  · rename_i ds i
    obtain ⟨d', hk, e⟩ := Option.bind_eq_some_iff.mp e
    simp at e
    subst e
    obtain ⟨a, vs, rfl, h1, r1⟩ := rx.lstH A.fine.le
    obtain ⟨v, hv, rv⟩ := r1.at hk
    exact .inl ⟨_, _, _, _, rfl, ry.intH, h1, hv, p.here A rv⟩
  · rename_i ds i
    obtain ⟨d', hk, e⟩ := Option.bind_eq_some_iff.mp e
    simp at e
    subst e
    obtain ⟨a, vs, rfl, h1, r1⟩ := rx.tupH A.fine.le
    obtain ⟨v, hv, rv⟩ := r1.at hk
    exact .inr (.inl ⟨_, _, _, _, rfl, ry.intH, h1, hv, p.here A rv⟩)
  · rename_i l i
    split at e
    · rename_i hl
      obtain ⟨z, hk, rfl⟩ := Option.map_eq_some_iff.mp e
      exact .inr (.inr ⟨_, _, z, rx.strH, ry.intH, by rw [S_len, sizeLine_eq]; exact hl, hk, p.here A (.str [z])⟩)
    · cases e
  · cases e
theorem px_ixL {eb : Expr} {ga gb : Env → R D} (ha : PX X W false a ga) (hb : PX X W b2 eb gb) (hs : PlainIx eb := by exact fun _ _ => rfl) : PX X W false (.Subscript a eb pos) (eOp2 (opIx true) ga gb) :=
  pe_mono (pe_ix ix_seq ha hb hs) (tx_op2 ok_ixL)
end
/-! ### a def by its name -/
structure Cal (P : Program) (w : World) (K : PySem.W.Frag) (mg : Str → Option Value) (base : Heap) (k : Nat) (x : Str) (ps : List Str) (m : List D → R D) : Prop where
  ex : ∃ f fd, FnM P w K mg base k f fd ps m ∧ mg x = some (.ref f) ∧ PySem.W.keepIn K (.ref f) = true ∧ L2.Binds K fd ps []
/-- where a def of the text stands -/
structure Def (K : PySem.W.Frag) (mg : Str → Option Value) (x : Str) (st : Stmt) : Prop where
  ex : ∃ f fd, Fun K x x st f fd ∧ mg x = some (.ref f)
section
variable {X : Cx} {W : WX} {k j : Nat} {ps : List Str} {x : Str} {p pos : Pos} {e : Expr} {es : List Expr} {gs : Env → R (List D)} {m : List D → R D}
theorem px_callC (C : Cal X.prog X.w X.K X.mg X.base k x ps m) (hr : Room j X.A) (hkj : k ≤ j) (ha : PXA X W true (e :: es) gs) (hn : ∀ c ds, gs c = .ok ds → ds.length = ps.length) (hg : Gl X x := by rfl)
    (hdb : (x == ("__debug__" : Str)) = false := by decide) (he : starEach (e :: es) X.env = (false, eval e X.env) :: starEach es X.env := by rfl) (hpl : (backTo pos (starEach es X.env)).any (·.1) = false := by rfl) :
    PX X W true (.Call (.Name x p) (e :: es) [] pos) (eCall m gs) := by
  obtain ⟨f, fd, F, hm, hk, hb⟩ := C.ex
  exact px_call F (hr.mono hkj) hm hk hb ha hn hg hdb he hpl
theorem px_callCL (C : Cal X.prog X.w X.K X.mg X.base k x ps m) (hr : Room j X.A) (hkj : k ≤ j) (ha : PXA X W false (e :: es) gs) (hn : ∀ c ds, gs c = .ok ds → ds.length = ps.length) (hg : Gl X x := by rfl)
    (hdb : (x == ("__debug__" : Str)) = false := by decide) (he : starEach (e :: es) X.env = (false, eval e X.env) :: starEach es X.env := by rfl) (hpl : (backTo pos (starEach es X.env)).any (·.1) = false := by rfl) :
    PX X W false (.Call (.Name x p) (e :: es) [] pos) (eCall m gs) := by
  obtain ⟨f, fd, F, hm, hk, hb⟩ := C.ex
  exact px_callL F (hr.mono hkj) hm hk hb ha hn hg hdb he hpl
theorem px_callC0 (C : Cal X.prog X.w X.K X.mg X.base k x [] m) (hr : Room j X.A) (hkj : k ≤ j) (hg : Gl X x := by rfl)
    (hdb : (x == ("__debug__" : Str)) = false := by decide) :
    PX X W true (.Call (.Name x p) [] [] pos) (eCall m eNil) := by
  obtain ⟨f, fd, F, hm, hk, hb⟩ := C.ex
  exact px_call0 F (hr.mono hkj) hm hk hb hg hdb
end
section
variable {P : Program} {w : World} {K : PySem.W.Frag} {mg : Str → Option Value} {base : Heap}
theorem cal_of {x : Str} {st : Stmt} {N ps : List Str} {k : Nat} {body : Env → Rs} (T : Def K mg x st) (S : FnScope N ps (defScope st))
    (hb : ∀ (kV doc pm : Value) (an : Option Addr) (cdv ct : Value) (us : List Value), us.length = ps.length → bindArgs (PySem.W.fnOf x x (defArgs st) (defBody st) (defScope st) .none kV doc pm an cdv ct) ⟨us, []⟩ = pure (ps.zip us))
    (hbody : ∀ (f : Addr) (cdv : Value) (A : Around) (outer : List PySem.Env) (s : Shared) (H : Hp) (E : XK), Room k (A.deeper (envOfC x (defScope st) s.heap.objs.size f cdv)) → PXSs (cxOf CX0 P w K mg base N x (defScope st) f cdv A outer s H E).nox W0 [] (defBody st) body) :
    Cal P w K mg base (k + 1) x ps (runF N.length body) := by
  obtain ⟨f, fd, F, g⟩ := T.ex
  exact ⟨f, fd, fnm_of F S (hbody f), g, F.kp, F.binds hb⟩
theorem Cal.mono {x : Str} {ps : List Str} {k j : Nat} {m : List D → R D} (C : Cal P w K mg base k x ps m) (h : k ≤ j) : Cal P w K mg base j x ps m := by
  obtain ⟨f, fd, F, g, kp, b⟩ := C.ex
  exact ⟨f, fd, F.mono h, g, kp, b⟩
/-- a def that is never called so deep -/
theorem cal_stuck {x : Str} {st : Stmt} {ps : List Str} {k : Nat} (T : Def K mg x st)
    (hb : ∀ (kV doc pm : Value) (an : Option Addr) (cdv ct : Value) (us : List Value), us.length = ps.length → bindArgs (PySem.W.fnOf x x (defArgs st) (defBody st) (defScope st) .none kV doc pm an cdv ct) ⟨us, []⟩ = pure (ps.zip us)) : Cal P w K mg base k x ps (fun _ => .stuck) := by
  obtain ⟨f, fd, F, g⟩ := T.ex
  exact ⟨f, fd, ⟨fun vs H Q E h => h.choose_spec.choose_spec.1, fun A outer s H args us vs Q E hr e0 hb r h => by
    obtain ⟨G, ds, _, _, _, _, q⟩ := h
    exact q.elim⟩, g, F.kp, F.binds hb⟩
end
end VS

/-! VS: reckoning with the worth of programs, in plain Lean. -/
namespace VS
open PySem PySem.Spec PyProof.Rows L2

/-! ### what the words are worth -/
@[simp] theorem eV_def (i : Nat) (c : Env) : eV i c = match c[i]? with | some (some (.v d)) => .ok d | _ => .stuck := (rfl)
@[simp] theorem eL_def (i : Nat) (c : Env) : eL i c = match c[i]? with | some (some o) => .ok o.toD | _ => .stuck := (rfl)
@[simp] theorem eC_def (d : D) (c : Env) : eC d c = .ok d := (rfl)
@[simp] theorem eNil_def (c : Env) : eNil c = .ok [] := (rfl)
@[simp] theorem eCons_def (g : Env → R D) (gs : Env → R (List D)) (c : Env) : eCons g gs c = g c >>= fun d => gs c >>= fun ds => .ok (d :: ds) := (rfl)
@[simp] theorem eFn_def (f : List D → Option D) (gs : Env → R (List D)) (c : Env) : eFn f gs c = gs c >>= fun ds => lift (f ds) := (rfl)
@[simp] theorem eFnO_def (f : List D → Option O) (gs : Env → R (List D)) (c : Env) : eFnO f gs c = gs c >>= fun ds => lift (f ds) := (rfl)
@[simp] theorem eOp2_def (f : D → D → Option D) (ga gb : Env → R D) (c : Env) : eOp2 f ga gb c = ga c >>= fun x => gb c >>= fun y => lift (f x y) := (rfl)
@[simp] theorem eB_def (g : Env → R D) (c : Env) : eB g c = g c >>= fun d => lift (asB d) := (rfl)
@[simp] theorem asB_bl (t : Bool) : asB (.bl t) = some t := (rfl)
@[simp] theorem eTru_def (g : Env → R D) (c : Env) : eTru g c = g c >>= fun d => lift (truD d) := (rfl)
@[simp] theorem truD_bl (t : Bool) : truD (.bl t) = some t := (rfl)
@[simp] theorem truD_non : truD .non = some false := (rfl)
@[simp] theorem truD_int (i : Int) : truD (.int i) = some (i != 0) := (rfl)
@[simp] theorem tAnd_def (g k : Env → R Bool) (c : Env) : tAnd' g k c = g c >>= fun t => if t then k c else .ok false := (rfl)
@[simp] theorem tOr_def (g k : Env → R Bool) (c : Env) : tOr' g k c = g c >>= fun t => if t then .ok true else k c := (rfl)
@[simp] theorem tNot_def (g : Env → R Bool) (c : Env) : tNot' g c = g c >>= fun t => .ok (!t) := (rfl)
@[simp] theorem tYes_def (c : Env) : tYes' c = .ok true := (rfl)
@[simp] theorem eAnd_def (ga gb : Env → R D) (c : Env) : eAnd ga gb c = ga c >>= fun d => lift (asB d) >>= fun t => if t then gb c else .ok (.bl false) := (rfl)
@[simp] theorem eOr_def (ga gb : Env → R D) (c : Env) : eOr ga gb c = ga c >>= fun d => lift (asB d) >>= fun t => if t then .ok (.bl true) else gb c := (rfl)
@[simp] theorem eNot_def (ga : Env → R D) (c : Env) : eNot ga c = ga c >>= fun d => lift (asB d) >>= fun t => .ok (.bl !t) := (rfl)
@[simp] theorem eIf_def (g : Env → R Bool) (ga gb : Env → R D) (c : Env) : eIf g ga gb c = g c >>= fun t => if t then ga c else gb c := (rfl)
@[simp] theorem eIs_def (T : Ty) (g : Env → R D) (c : Env) : eIs T g c = g c >>= fun d => lift ((isI T d).map D.bl) := (rfl)
@[simp] theorem eFlat_def (g : Env → R D) (c : Env) : eFlat g c = g c >>= fun d => if d.flat then .ok d else .stuck := (rfl)
@[simp] theorem eNeg_def (g : Env → R D) (c : Env) : eNeg g c = g c >>= fun d => match d with | .int i => .ok (.int (-i)) | _ => .stuck := (rfl)
@[simp] theorem eO_def (g : Env → R D) (c : Env) : eO g c = g c >>= fun d => match d with | .int i => .ok (some i) | _ => .stuck := (rfl)
@[simp] theorem eNoO_def (c : Env) : eNoO c = .ok none := (rfl)
@[simp] theorem eSl_def (b : Bool) (g : Env → R D) (gl gh : Env → R (Option Int)) (c : Env) : eSl b g gl gh c = g c >>= fun d => gl c >>= fun lo => gh c >>= fun hi => lift (opSl b d lo hi) := (rfl)
@[simp] theorem eMS_def (f : List Nat → List D → Option D) (g : Env → R D) (gs : Env → R (List D)) (c : Env) : eMS f g gs c = g c >>= fun d => lift (asS d) >>= fun l => gs c >>= fun ds => lift (f l ds) := (rfl)
@[simp] theorem asS_str (l : List Nat) : asS (.str l) = some l := (rfl)
@[simp] theorem eCall_def (m : List D → R D) (gs : Env → R (List D)) (c : Env) : eCall m gs c = gs c >>= fun ds => noX (m ds) := (rfl)
@[simp] theorem eIxo_def (i : Nat) (gb : Env → R D) (c : Env) : eIxo i gb c = match c[i]? with | some (some o) => gb c >>= fun k => lift (ixO o k) | _ => .stuck := (rfl)
@[simp] theorem eChain_def (f k : D → D → Option D) (ga gb gc : Env → R D) (c : Env) : eChain f k ga gb gc c = ga c >>= fun x => gb c >>= fun y => lift (f x y) >>= fun z => lift (asB z) >>= fun t => if t then gc c >>= fun u => lift (k y u) else .ok (.bl false) := (rfl)
@[simp] theorem eIt_def (b : Bool) (ga : Env → R D) (c : Env) : eIt b ga c = ga c >>= fun d => lift (asA b d) := (rfl)
@[simp] theorem eItR_def (ga gb : Env → R D) (c : Env) : eItR ga gb c = ga c >>= fun d => lift (asI d) >>= fun lo => gb c >>= fun d2 => lift (asI d2) >>= fun hi => .ok (rangeD lo hi) := (rfl)
@[simp] theorem eLc_def (gs : Env → R (List D)) (t : Env → R Bool) (g : Env → R D) (i : Nat) (c : Env) : eLc gs t g i c = eLcs gs t g i c >>= fun es => .ok (.lst es) := (rfl)
@[simp] theorem eLcO_def (gs : Env → R (List D)) (t : Env → R Bool) (g : Env → R D) (i : Nat) (c : Env) : eLcO gs t g i c = eLcs gs t g i c >>= fun es => .ok (.lst (es.map O.v)) := (rfl)
@[simp] theorem eLcs_def (gs : Env → R (List D)) (t : Env → R Bool) (g : Env → R D) (i : Nat) (c : Env) : eLcs gs t g i c = gs c >>= fun ds => compL t g i c ds >>= fun es => if es.length ≤ 16777216 then .ok es else .stuck := (rfl)
@[simp] theorem sNil_def (c : Env) : sNil c = .ok .nx c := (rfl)
@[simp] theorem sSeq_def (g k : Env → Rs) (c : Env) : sSeq g k c = match g c with | .ok .nx c' => k c' | r => r := (rfl)
@[simp] theorem sSet_def (i : Nat) (g : Env → R D) (c : Env) : sSet i g c = (g c).st c fun d => .ok .nx (c.set i (some (.v d))) := (rfl)
@[simp] theorem sSetO_def (i : Nat) (g : Env → R O) (c : Env) : sSetO i g c = (g c).st c fun o => .ok .nx (c.set i (some o)) := (rfl)
@[simp] theorem sRet_def (g : Env → R D) (c : Env) : sRet g c = (g c).st c fun d => .ok (.rt d) c := (rfl)
@[simp] theorem sRetN_def (c : Env) : sRetN c = .ok (.rt .non) c := (rfl)
@[simp] theorem sExpr_def (g : Env → R D) (c : Env) : sExpr g c = (g c).st c fun _ => .ok .nx c := (rfl)
@[simp] theorem sIf_def (t : Env → R Bool) (g k : Env → Rs) (c : Env) : sIf t g k c = (t c).st c fun b => if b then g c else k c := (rfl)
@[simp] theorem sBreak_def (c : Env) : sBreak c = .ok .bk c := (rfl)
@[simp] theorem sCont_def (c : Env) : sCont c = .ok .ct c := (rfl)
@[simp] theorem sApp_def (i : Nat) (g : Env → R D) (c : Env) : sApp i g c = (lift (atL i c)).st c fun os => (g c).st c fun d => if os.length < 16777216 then .ok .nx (c.set i (some (.lst (os ++ [.v d])))) else .stuck := (rfl)
@[simp] theorem sIxSet_def (i : Nat) (gi g : Env → R D) (c : Env) : sIxSet i gi g c = (g c).st c fun d => (lift (atL i c)).st c fun os => (gi c).st c fun k => match k with
  | .int k => (lift (ixN os.length k)).st c fun j => .ok .nx (c.set i (some (.lst (os.set j (.v d)))))
  | _ => .stuck := (rfl)
@[simp] theorem atL_def (i : Nat) (c : Env) : atL i c = match c[i]? with | some (some (.lst os)) => some os | _ => none := (rfl)
@[simp] theorem sFz_def (i : Nat) (g : Env → Rs) (c : Env) : sFz i g c = g (fz i c) := (rfl)
@[simp] theorem fz_def (i : Nat) (c : Env) : fz i c = match c[i]? with | some (some o) => c.set i (some (.v o.toD)) | _ => c := (rfl)
@[simp] theorem sFor_def (i : Nat) (gs : Env → R (List D)) (g : Env → Rs) (c : Env) : sFor i gs g c = (gs c).st c fun ds => forL i g ds c := (rfl)
@[simp] theorem toD_v (d : D) : (O.v d).toD = d := by rw [O.toD]
@[simp] theorem toD_lst (os : List O) : (O.lst os).toD = .lst (os.map O.toD) := by rw [O.toD, O.toDs_map]
@[simp] theorem map_toD_v (ds : List D) : (ds.map O.v).map O.toD = ds := by
  rw [List.map_map]
  have h : (O.toD ∘ O.v : D → D) = id := by funext x; rw [Function.comp_apply, O.toD, id]
  rw [h, List.map_id]
@[simp] theorem compToD {α : Type} (f : α → D) : O.toD ∘ (fun x => O.v (f x)) = f := by funext x; simp
@[simp] theorem compToD' : O.toD ∘ O.v = id := by funext x; simp
@[simp] theorem opAdd_int (b1 b2 : Bool) (i j : Int) : opAdd b1 b2 (.int i) (.int j) = some (.int (i + j)) := (rfl)
@[simp] theorem opAdd_str (b1 b2 : Bool) (x y : List Nat) : opAdd b1 b2 (.str x) (.str y) = if x.length + y.length ≤ 16777216 then some (.str (x ++ y)) else none := (rfl)
@[simp] theorem opAdd_lst (b1 b2 : Bool) (x y : List D) : opAdd b1 b2 (.lst x) (.lst y) = if x.length + y.length ≤ 16777216 ∧ okEl b1 x = true ∧ okEl b2 y = true then some (.lst (x ++ y)) else none := (rfl)
@[simp] theorem opSub_int (i j : Int) : opSub (.int i) (.int j) = some (.int (i - j)) := (rfl)
@[simp] theorem opMul_int (i j : Int) : opMul (.int i) (.int j) = if (-(2 ^ 64) < i ∧ i < 2 ^ 64) ∨ (-(2 ^ 64) < j ∧ j < 2 ^ 64) then some (.int (i * j)) else none := (rfl)
@[simp] theorem opMod_int (i j : Int) : opMod (.int i) (.int j) = if 0 < j then some (.int (i % j)) else none := (rfl)
@[simp] theorem opDiv_int (i j : Int) : opDiv (.int i) (.int j) = if 0 < j ∧ j < 1073741824 then some (.int (i / j)) else none := (rfl)
@[simp] theorem opRel_int (f : Int → Int → Bool) (i j : Int) : opRel f (.int i) (.int j) = some (.bl (f i j)) := (rfl)
@[simp] theorem opIs_non (d : D) : opIs d .non = some (.bl d.isNon) := (rfl)
@[simp] theorem opIsnt_non (d : D) : opIsnt d .non = some (.bl (!d.isNon)) := (rfl)
@[simp] theorem isNon_non : D.isNon .non = true := (rfl)
@[simp] theorem isNon_str (l : List Nat) : D.isNon (.str l) = false := (rfl)
@[simp] theorem isNon_int (i : Int) : D.isNon (.int i) = false := (rfl)
@[simp] theorem isNon_bl (i : Bool) : D.isNon (.bl i) = false := (rfl)
@[simp] theorem isNon_tup (i : List D) : D.isNon (.tup i) = false := (rfl)
@[simp] theorem isNon_lst (i : List D) : D.isNon (.lst i) = false := (rfl)
@[simp] theorem fLen_lst (ds : List D) : fLen [.lst ds] = some (.int ds.length) := (rfl)
@[simp] theorem fLen_tup (ds : List D) : fLen [.tup ds] = some (.int ds.length) := (rfl)
@[simp] theorem fLen_str (l : List Nat) : fLen [.str l] = if l.length ≤ 16777216 then some (.int l.length) else none := (rfl)
@[simp] theorem fAbs_int (i : Int) : fAbs [.int i] = some (.int (if i < 0 then -i else i)) := (rfl)
@[simp] theorem fInt_bl (t : Bool) : fInt [.bl t] = some (.int (if t then 1 else 0)) := (rfl)
@[simp] theorem fMin2_int (i j : Int) : fMin2 [.int i, .int j] = some (.int (if j < i then j else i)) := (rfl)
@[simp] theorem fMax2_int (i j : Int) : fMax2 [.int i, .int j] = some (.int (if j > i then j else i)) := (rfl)
@[simp] theorem fTuple_lst (b : Bool) (ds : List D) : fTuple b [.lst ds] = if okEl b ds then some (.tup ds) else none := (rfl)
@[simp] theorem fTuple_tup (b : Bool) (ds : List D) : fTuple b [.tup ds] = if okEl b ds then some (.tup ds) else none := (rfl)
@[simp] theorem fList_lst (b : Bool) (ds : List D) : fList b [.lst ds] = if okEl b ds then some (.lst ds) else none := (rfl)
@[simp] theorem fList_tup (b : Bool) (ds : List D) : fList b [.tup ds] = if okEl b ds then some (.lst ds) else none := (rfl)
@[simp] theorem fSum_lst (ds : List D) : fSum [.lst ds] = (asInts ds).map fun ns => .int ns.sum := (rfl)
@[simp] theorem opIx_lst (b : Bool) (ds : List D) (i : Int) : opIx b (.lst ds) (.int i) = (L2.atI ds i).bind fun d => if okE b d then some d else none := (rfl)
@[simp] theorem opIx_tup (b : Bool) (ds : List D) (i : Int) : opIx b (.tup ds) (.int i) = (L2.atI ds i).bind fun d => if okE b d then some d else none := (rfl)
@[simp] theorem opIx_str (b : Bool) (l : List Nat) (i : Int) : opIx b (.str l) (.int i) = if l.length ≤ 16777216 then (L2.atI l i).map fun x => .str [x] else none := (rfl)
@[simp] theorem opSl_lst (b : Bool) (ds : List D) (lo hi : Option Int) : opSl b (.lst ds) lo hi = if okEl b (cutD ds lo hi) then some (.lst (cutD ds lo hi)) else none := (rfl)
@[simp] theorem opSl_tup (b : Bool) (ds : List D) (lo hi : Option Int) : opSl b (.tup ds) lo hi = if okEl b (cutD ds lo hi) then some (.tup (cutD ds lo hi)) else none := (rfl)
@[simp] theorem opSl_str (b : Bool) (l : List Nat) (lo hi : Option Int) : opSl b (.str l) lo hi = if l.length ≤ 16777216 then some (.str (cutD l lo hi)) else none := (rfl)
@[simp] theorem ixO_lst (os : List O) (k : Int) : ixO (.lst os) (.int k) = (L2.atI os k).bind fun o => match o with | .v d => some d | _ => none := (rfl)
@[simp] theorem ixO_v (d k : D) : ixO (.v d) k = opIx true d k := by cases k <;> rfl
@[simp] theorem fLstO_def (ds : List D) : fLstO ds = if ds.length ≤ 16777216 then some (.lst (ds.map O.v)) else none := (rfl)
@[simp] theorem fLst_def (ds : List D) : fLst ds = if ds.length ≤ 16777216 then some (.lst ds) else none := (rfl)
@[simp] theorem fTup_def (ds : List D) : fTup ds = if ds.length ≤ 16777216 then some (.tup ds) else none := (rfl)
@[simp] theorem asA_lst (b : Bool) (ds : List D) : asA b (.lst ds) = if okEl b ds then some ds else none := (rfl)
@[simp] theorem asA_tup (b : Bool) (ds : List D) : asA b (.tup ds) = if okEl b ds then some ds else none := (rfl)
@[simp] theorem asA_str (b : Bool) (l : List Nat) : asA b (.str l) = if l.length ≤ 16777216 then some (l.map fun x => .str [x]) else none := (rfl)
@[simp] theorem asI_int (i : Int) : asI (.int i) = if -(2 ^ 62) ≤ i ∧ i < 2 ^ 62 then some i else none := (rfl)
@[simp] theorem fJoin_lst (l : List Nat) (ds : List D) : fJoin l [.lst ds] = (asSs ds).bind fun xs => if (xs.map List.length).sum + xs.length * l.length ≤ 16777216 then some (.str (TL.joinL l xs)) else none := (rfl)
@[simp] theorem compL_nil (t : Env → R Bool) (g : Env → R D) (i : Nat) (c : Env) : compL t g i c [] = .ok [] := (rfl)
theorem compL_cons (t : Env → R Bool) (g : Env → R D) (i : Nat) (c : Env) (d : D) (ds : List D) : compL t g i c (d :: ds) = (noX (t (c.set i (some (.v d)))) >>= fun b => if b then noX (g (c.set i (some (.v d)))) >>= fun x => compL t g i c ds >>= fun xs => .ok (x :: xs) else compL t g i c ds) := (rfl)
@[simp] theorem forL_nil (i : Nat) (g : Env → Rs) (c : Env) : forL i g [] c = .ok .nx c := (rfl)
theorem forL_cons (i : Nat) (g : Env → Rs) (d : D) (ds : List D) (c : Env) : forL i g (d :: ds) c = match g (c.set i (some (.v d))) with
    | .ok .nx c' => forL i g ds c'
    | .ok .ct c' => forL i g ds c'
    | .ok .bk c' => .ok .nx c'
    | r => r := (rfl)
theorem runF_def (n : Nat) (body : Env → Rs) (ds : List D) : runF n body ds = match body (ds.map (fun d => some (O.v d)) ++ List.replicate (n - ds.length) none) with
  | .ok (.rt d) _ => .ok d
  | .ok .nx _ => .ok .non
  | .ex e _ => .ex e
  | _ => .stuck := (rfl)

/-! ### places -/
theorem atI_ofNat {α : Type} (xs : List α) (k : Nat) : L2.atI xs (k : Int) = xs[k]? := by
  unfold L2.atI L2.ixN
  rw [if_pos (Int.natCast_nonneg k)]
  by_cases h : (k : Int) < xs.length
  · rw [if_pos h]; rfl
  · rw [if_neg h]
    have : xs.length ≤ k := by omega
    rw [List.getElem?_eq_none this]; rfl
theorem atI_pos {α : Type} (xs : List α) {i : Int} (h : 0 ≤ i) : L2.atI xs i = xs[i.toNat]? := by
  have := atI_ofNat xs i.toNat
  rwa [Int.toNat_of_nonneg h] at this
theorem ixN_pos {n : Nat} {i : Int} (h : 0 ≤ i) (k : i < n) : L2.ixN n i = some i.toNat := by
  unfold L2.ixN
  rw [if_pos h, if_pos k]
theorem sIx_nat' (n d k : Nat) : HT.sIx n d (some (k : Int)) = min k n := HT.sIx_nat n d k
theorem cut_nat {α : Type} (xs : List α) (i j : Nat) : cutD xs (some (i : Int)) (some (j : Int)) = (xs.drop (min i xs.length)).take (min j xs.length - min i xs.length) := by
  unfold cutD
  rw [HT.sIx_nat, HT.sIx_nat]
theorem cut_to {α : Type} (xs : List α) (j : Nat) : cutD xs none (some (j : Int)) = xs.take j := by
  unfold cutD
  rw [HT.sIx_nat, HT.sIx_none]
  simp
theorem cut_from {α : Type} (xs : List α) (i : Nat) : cutD xs (some (i : Int)) none = xs.drop i := by
  unfold cutD
  rw [HT.sIx_nat, HT.sIx_none]
  by_cases h : i ≤ xs.length
  · rw [Nat.min_eq_left h]
    exact List.take_of_length_le (by simp)
  · rw [Nat.min_eq_right (by omega)]
    simp
    omega
theorem rangeD_nat (n : Nat) : rangeD 0 (n : Int) = (List.range n).map fun (k : Nat) => D.int k := by
  unfold rangeD
  simp
/-! ### loops -/
/-- a loop whose turns all go on; slot i apart -/
theorem forL_inv (i : Nat) (g : Env → Rs) (ds : List D) (I : Nat → Env) (h : ∀ j d, ds[j]? = some d → ∃ c', g ((I j).set i (some (.v d))) = .ok .nx c' ∧ ∀ x, c'.set i x = (I (j + 1)).set i x) :
    ∃ x, forL i g ds (I 0) = .ok .nx ((I ds.length).set i x) := by
  have self : ∀ c : Env, ∃ x, c = c.set i x := fun c => by
    by_cases hi : i < c.length
    · exact ⟨c[i], (List.set_getElem_self hi).symm⟩
    · exact ⟨none, (List.set_eq_of_length_le (by omega)).symm⟩
  have main : ∀ (n j : Nat) (c : Env), j + n = ds.length → (∃ x, c = (I j).set i x) → ∃ x, forL i g (ds.drop j) c = .ok .nx ((I ds.length).set i x) := by
    intro n
    induction n with
    | zero =>
      intro j c hj ⟨x, hc⟩
      have : j = ds.length := by omega
      subst this
      rw [List.drop_length, hc]
      exact ⟨x, rfl⟩
    | succ n ih =>
      intro j c hj ⟨x, hc⟩
      have hlt : j < ds.length := by omega
      have hd := List.getElem?_eq_getElem hlt
      rw [drop_cons hd, forL_cons]
      obtain ⟨c', h1, h2⟩ := h j _ hd
      rw [hc, List.set_set, h1]
      obtain ⟨y, hy⟩ := self c'
      exact ih (j + 1) c' (by omega) ⟨y, by rw [← h2 y]; exact hy⟩
  obtain ⟨x, hx⟩ := self (I 0)
  have := main ds.length 0 (I 0) (by omega) ⟨x, hx⟩
  simpa using this
/-- a comprehension without a test -/
theorem compL_map (g : Env → R D) (i : Nat) (c : Env) (f : D → D) : ∀ (ds : List D), (∀ d ∈ ds, g (c.set i (some (.v d))) = .ok (f d)) → compL tYes' g i c ds = .ok (ds.map f)
  | [], _ => rfl
  | d :: ds, h => by
    rw [compL_cons, tYes_def]
    simp only [noX_ok, ok_bind, if_true]
    rw [h d List.mem_cons_self, compL_map g i c f ds fun d hd => h d (List.mem_cons_of_mem _ hd)]
    rfl
/-- .. with one -/
theorem compL_filter (t : Env → R Bool) (g : Env → R D) (i : Nat) (c : Env) (p : D → Bool) (f : D → D) : ∀ (ds : List D), (∀ d ∈ ds, t (c.set i (some (.v d))) = .ok (p d)) → (∀ d ∈ ds, p d = true → g (c.set i (some (.v d))) = .ok (f d)) → compL t g i c ds = .ok ((ds.filter p).map f)
  | [], _, _ => rfl
  | d :: ds, h, k => by
    have ih := compL_filter t g i c p f ds (fun d hd => h d (List.mem_cons_of_mem _ hd)) fun d hd => k d (List.mem_cons_of_mem _ hd)
    rw [compL_cons, h d List.mem_cons_self]
    simp only [noX_ok, ok_bind]
    cases hp : p d with
    | true =>
      rw [if_pos rfl, k d List.mem_cons_self hp, ih, List.filter_cons_of_pos hp]
      rfl
    | false =>
      rw [if_neg (by decide), ih, List.filter_cons_of_neg (by simp [hp])]
end VS

/-! VS: more reckoning. -/
namespace VS
open PySem PySem.Spec PyProof.Rows L2
@[simp] theorem pln_int (n : Nat) (i : Int) : D.pln n (.int i) = true := by cases n <;> simp [D.pln]
@[simp] theorem pln_bl (n : Nat) (i : Bool) : D.pln n (.bl i) = true := by cases n <;> simp [D.pln]
@[simp] theorem pln_non (n : Nat) : D.pln n .non = true := by cases n <;> simp [D.pln]
@[simp] theorem pln_str (n : Nat) (l : List Nat) : D.pln n (.str l) = l.all (· < 0x110000) := by cases n <;> simp [D.pln]
@[simp] theorem pln_lst (n : Nat) (l : List D) : D.pln (n + 1) (.lst l) = D.plns n l := by simp [D.pln]
@[simp] theorem pln_tup (n : Nat) (l : List D) : D.pln (n + 1) (.tup l) = D.plns n l := by simp [D.pln]
@[simp] theorem eqv_int (i j : Int) : D.eqv (.int i) (.int j) = (i == j) := by simp [D.eqv]
@[simp] theorem eqv_str (i j : List Nat) : D.eqv (.str i) (.str j) = (i == j) := by simp [D.eqv]
mutual
theorem eqv_self : ∀ (n : Nat) (d : D), D.pln n d = true → D.eqv d d = true
  | n, .non, _ => by simp [D.eqv]
  | n, .bl _, _ => by simp [D.eqv]
  | n, .int _, _ => by simp [D.eqv]
  | n, .str _, _ => by simp [D.eqv]
  | 0, .tup _, h => by simp [D.pln] at h
  | 0, .lst _, h => by simp [D.pln] at h
  | n + 1, .tup ds, h => by rw [pln_tup] at h; rw [D.eqv]; exact eqvs_self n ds h
  | n + 1, .lst ds, h => by rw [pln_lst] at h; rw [D.eqv]; exact eqvs_self n ds h
  | n, .dic _ _, h => by simp [D.pln] at h
  | n, .obj _ _ _, h => by simp [D.pln] at h
theorem eqvs_self : ∀ (n : Nat) (ds : List D), D.plns n ds = true → D.eqvs ds ds = true
  | n, [], _ => by simp [D.eqvs]
  | n, d :: ds, h => by
    rw [D.plns, Bool.and_eq_true] at h
    rw [D.eqvs, eqv_self n d h.1, eqvs_self n ds h.2]; rfl
end
@[simp] theorem opEq_int (i j : Int) : opEq (.int i) (.int j) = some (.bl (i == j)) := by simp [opEq]
@[simp] theorem opNe_int (i j : Int) : opNe (.int i) (.int j) = some (.bl (!(i == j))) := by simp [opNe]
@[simp] theorem opNe_bl (i j : Bool) : opNe (.bl i) (.bl j) = some (.bl (!(i == j))) := by simp [opNe, D.eqv]
@[simp] theorem opEq_bl (i j : Bool) : opEq (.bl i) (.bl j) = some (.bl (i == j)) := by simp [opEq, D.eqv]
theorem opEq_self {d : D} (h : D.pln 64 d = true) : opEq d d = some (.bl true) := by simp [opEq, h, eqv_self 64 d h]
/-- a loop all of whose turns go on -/
theorem forL_ex (i : Nat) (g : Env → Rs) (P : Nat → Env → Prop) : ∀ (ds : List D) (c : Env), (∀ j d c, ds[j]? = some d → P j c → ∃ c', g (c.set i (some (.v d))) = .ok .nx c' ∧ P (j + 1) c') → P 0 c → ∃ c', forL i g ds c = .ok .nx c' ∧ P ds.length c' := by
  intro ds c h p
  have main : ∀ (n j : Nat) (c : Env), j + n = ds.length → P j c → ∃ c', forL i g (ds.drop j) c = .ok .nx c' ∧ P ds.length c' := by
    intro n
    induction n with
    | zero =>
      intro j c hj pc
      have : j = ds.length := by omega
      subst this
      rw [List.drop_length]
      exact ⟨c, rfl, pc⟩
    | succ n ih =>
      intro j c hj pc
      have hlt : j < ds.length := by omega
      have hd := List.getElem?_eq_getElem hlt
      rw [drop_cons hd, forL_cons]
      obtain ⟨c', h1, h2⟩ := h j _ c hd pc
      rw [h1]
      exact ih (j + 1) c' (by omega) h2
  simpa using main ds.length 0 c (by omega) p
/-- .. over a range from 0 -/
theorem forL_rg (i : Nat) (g : Env → Rs) (n : Int) (P : Nat → Env → Prop) (c : Env) (h : ∀ (j : Nat) (c : Env), (j : Int) < n → P j c → ∃ c', g (c.set i (some (.v (.int (j : Int))))) = .ok .nx c' ∧ P (j + 1) c') (p : P 0 c) : ∃ c', forL i g (rangeD 0 n) c = .ok .nx c' ∧ P n.toNat c' := by
  have := forL_ex i g P (rangeD 0 n) c (fun j d c hd pc => by
    unfold rangeD at hd
    rw [List.getElem?_map] at hd
    rcases Option.map_eq_some_iff.mp hd with ⟨k, hk, rfl⟩
    rcases List.getElem?_eq_some_iff.mp hk with ⟨hl, rfl⟩
    simp at hl
    simp
    exact h j c (by omega) pc) p
  simpa [rangeD] using this
/-- a while loop all of whose turns go on; m bounds the turns left -/
theorem whileL_ex (t : Env → R Bool) (g : Env → Rs) (P : Nat → Env → Prop) (Q : Env → Prop) (h : ∀ m c, P m c → (t c = .ok false ∧ Q c) ∨ (t c = .ok true ∧ ∃ m' c', m' < m ∧ g c = .ok .nx c' ∧ P m' c')) : ∀ (f m : Nat) (c : Env), m < f → P m c → ∃ c', whileL t g f c = .ok .nx c' ∧ Q c' := by
  intro f
  induction f with
  | zero => intro m c hm; omega
  | succ f ih =>
    intro m c hm p
    rw [whileL]
    rcases h m c p with ⟨ht, q⟩ | ⟨ht, m', c', hlt, hg, p'⟩
    · rw [ht]; exact ⟨c, rfl, q⟩
    · rw [ht, st_ok, if_pos rfl, hg]
      exact ih m' c' (by omega) p'
@[simp] theorem atI_map_int (ns : List Int) (k : Nat) : atI (ns.map D.int) (k : Int) = (ns[k]?).map D.int := by
  rw [atI_ofNat, List.getElem?_map]
theorem rangeD_get {lo hi : Int} {j : Nat} (h : lo + j < hi) : (rangeD lo hi)[j]? = some (.int (lo + j)) := by
  unfold rangeD
  rw [List.getElem?_map, List.getElem?_range (by omega)]
  rfl
end VS
namespace VS
/-- what two equal plain things are, to the laws' own sameness -/
inductive Sm : Nat → D → Prop
  | non {n} : Sm n .non
  | bl {n} (t : Bool) : Sm n (.bl t)
  | int {n} (i : Int) : Sm n (.int i)
  | str {n} (l : List Nat) (h : l.all (· < 0x110000) = true) : Sm n (.str l)
  | lst {n} (ds : List D) (h : (ds.length : Int) < 4611686018427387904) (k : ∀ d ∈ ds, Sm n d) : Sm (n + 1) (.lst ds)
  | tup {n} (ds : List D) (h : (ds.length : Int) < 4611686018427387904) (k : ∀ d ∈ ds, Sm n d) : Sm (n + 1) (.tup ds)
theorem asI_small {i : Int} (h : 0 ≤ i) (k : i < 4611686018427387904) : asI (.int i) = some i := by
  rw [asI_int, if_pos ⟨by omega, by omega⟩]
theorem asI_zero : asI (.int 0) = some 0 := (rfl)
@[simp] theorem runF_def' (n : Nat) (body : Env → Rs) (ds : List D) : runF n body ds = match body (ds.map (fun d => some (O.v d)) ++ List.replicate (n - ds.length) none) with
  | .ok (.rt d) _ => .ok d
  | .ok .nx _ => .ok .non
  | .ex e _ => .ex e
  | _ => .stuck := (rfl)
@[simp] theorem asInts_ints (ns : List Int) : asInts (ns.map D.int) = some ns := by
  induction ns with
  | nil => rfl
  | cons n ns ih => rw [List.map_cons, asInts_cons, ih]; rfl
@[simp] theorem asSs_strs (ns : List (List Nat)) : asSs (ns.map D.str) = some ns := by
  induction ns with
  | nil => rfl
  | cons n ns ih => rw [List.map_cons, asSs_cons, ih]; rfl
end VS

/-! VS: a body told step by step. -/
namespace VS
open PySem PySem.Spec PyProof.Rows L2
/-- from c the text comes to its end with d -/
def Ret (g : Env → Rs) (c : Env) (d : D) : Prop := ∃ c', g c = .ok (.rt d) c'
/-- from c the text goes on at c' -/
def Nx (g : Env → Rs) (c c' : Env) : Prop := g c = .ok .nx c'
theorem ret_of {n : Nat} {body : Env → Rs} {ds : List D} {d : D} (h : Ret body (ds.map (fun d => some (O.v d)) ++ List.replicate (n - ds.length) none) d) : runF n body ds = .ok d := by
  obtain ⟨c', h⟩ := h
  rw [runF_def, h]
theorem Ret.seq {g k : Env → Rs} {c c' : Env} {d : D} (h : Nx g c c') (r : Ret k c' d) : Ret (sSeq g k) c d := by
  obtain ⟨c2, r⟩ := r
  exact ⟨c2, by rw [sSeq_def, h]; exact r⟩
theorem Ret.fst {g k : Env → Rs} {c : Env} {d : D} (r : Ret g c d) : Ret (sSeq g k) c d := by
  obtain ⟨c2, r⟩ := r
  exact ⟨c2, by rw [sSeq_def, r]⟩
theorem Ret.ret {g : Env → R D} {c : Env} {d : D} (h : g c = .ok d) : Ret (sRet g) c d := ⟨c, by rw [sRet_def, h]; rfl⟩
theorem Ret.fz {g : Env → Rs} {c : Env} {d : D} {i : Nat} (h : Ret g (fz i c) d) : Ret (sFz i g) c d := h
theorem Ret.yes {t : Env → R Bool} {g k : Env → Rs} {c : Env} {d : D} (h : t c = .ok true) (r : Ret g c d) : Ret (sIf t g k) c d := by
  obtain ⟨c2, r⟩ := r
  exact ⟨c2, by rw [sIf_def, h]; exact r⟩
theorem Ret.no {t : Env → R Bool} {g k : Env → Rs} {c : Env} {d : D} (h : t c = .ok false) (r : Ret k c d) : Ret (sIf t g k) c d := by
  obtain ⟨c2, r⟩ := r
  exact ⟨c2, by rw [sIf_def, h]; exact r⟩
theorem Nx.seq {g k : Env → Rs} {c c' c2 : Env} (h : Nx g c c') (r : Nx k c' c2) : Nx (sSeq g k) c c2 := by
  unfold Nx at *
  rw [sSeq_def, h]; exact r
theorem Nx.yes {t : Env → R Bool} {g k : Env → Rs} {c c' : Env} (h : t c = .ok true) (r : Nx g c c') : Nx (sIf t g k) c c' := by
  unfold Nx at *
  rw [sIf_def, h]; exact r
theorem Nx.no {t : Env → R Bool} {g k : Env → Rs} {c c' : Env} (h : t c = .ok false) (r : Nx k c c') : Nx (sIf t g k) c c' := by
  unfold Nx at *
  rw [sIf_def, h]; exact r
theorem Nx.nil {c : Env} : Nx sNil c c := rfl
theorem Nx.set {g : Env → R D} {c : Env} {d : D} {i : Nat} (h : g c = .ok d) : Nx (sSet i g) c (c.set i (some (.v d))) := by
  unfold Nx
  rw [sSet_def, h]; rfl
theorem Nx.setO {g : Env → R O} {c : Env} {d : O} {i : Nat} (h : g c = .ok d) : Nx (sSetO i g) c (c.set i (some d)) := by
  unfold Nx
  rw [sSetO_def, h]; rfl
theorem Nx.fz {g : Env → Rs} {c c' : Env} {i : Nat} (h : Nx g (fz i c) c') : Nx (sFz i g) c c' := h
theorem Nx.to {g : Env → Rs} {c c' c2 : Env} (h : Nx g c c') (e : c' = c2) : Nx g c c2 := e ▸ h
theorem Nx.for {i : Nat} {gs : Env → R (List D)} {g : Env → Rs} {c c' : Env} {ds : List D} (h : gs c = .ok ds) (k : forL i g ds c = .ok .nx c') : Nx (sFor i gs g) c c' := by
  unfold Nx
  rw [sFor_def, h]; exact k
theorem Nx.expr {g : Env → R D} {c : Env} {d : D} (h : g c = .ok d) : Nx (sExpr g) c c := by
  unfold Nx
  rw [sExpr_def, h]; rfl
end VS

set_option maxHeartbeats 8000000
namespace GW
open PySem PySem.Spec PyProof.Rows L2 VS
def wN : Nat := 1000000000
def BLnumber : VS.Env → Rs :=
    (sSeq (sSet 2 (eOp2 (opAdd true true) (eOp2 (opMul) (eFn (fSum) (eCons (eV 0) eNil)) (eC (.int 31))) (eOp2 (opMul) (eC (.int 1000003)) (eOp2 (opAdd true true) (eV 1) (eC (.int 1))))))
    (sSeq (sIf (eB (eOp2 (opRel fun i j => decide (i < j)) (eV 1) (eFn (fLen) (eCons (eV 0) eNil))))
    (sSet 2 (eOp2 (opIx true) (eV 0) (eV 1)))
    sNil)
    (sRet (eFn (fAbs) (eCons (eV 2) eNil)))))
def MLnumber : List D → R D := runF 3 BLnumber
def BLdraws : VS.Env → Rs :=
    (sSeq (sSet 4 (eCall MLnumber (eCons (eV 0) (eCons (eV 1) eNil))))
    (sSeq (sSetO 5 (eFnO fLstO eNil))
    (sSeq (sIf (eB (eOp2 (opRel fun i j => decide (j ≤ i)) (eV 4) (eOp2 (opPow) (eC (.int 10)) (eC (.int 18)))))
    (sSeq (sSet 4 (eOp2 (opSub) (eV 4) (eOp2 (opPow) (eC (.int 10)) (eC (.int 18)))))
    (sSeq (sFor 6 (eItR (eC (.int 0)) (eV 2))
    (sSeq (sApp 5 (eOp2 (opMod) (eV 4) (eV 3)))
    (sSet 4 (eOp2 (opDiv) (eV 4) (eV 3)))))
    (sFz 5 (sRet (eV 5)))))
    sNil)
    (sSeq (sSet 7 (eOp2 (opAdd true true) (eOp2 (opMod) (eV 4) (eC (.int 2147483647))) (eC (.int 1))))
    (sSeq (sFor 6 (eItR (eC (.int 0)) (eV 2))
    (sSeq (sSet 7 (eOp2 (opMod) (eOp2 (opAdd true true) (eOp2 (opAdd true true) (eOp2 (opMul) (eV 7) (eC (.int 48271))) (eOp2 (opMul) (eC (.int 11)) (eV 6))) (eC (.int 7))) (eC (.int 2147483647))))
    (sSeq (sSet 8 (eOp2 (opMod) (eOp2 (opAdd true true) (eOp2 (opAdd true true) (eOp2 (opMul) (eV 7) (eV 7)) (eOp2 (opMul) (eC (.int 69621)) (eV 6))) (eC (.int 5))) (eC (.int 2147483629))))
    (sApp 5 (eOp2 (opMod) (eOp2 (opDiv) (eV 8) (eC (.int 64))) (eV 3))))))
    (sFz 5 (sRet (eV 5))))))))
def MLdraws : List D → R D := runF 9 BLdraws
def BLladder : VS.Env → Rs :=
    (sSeq (sSetO 2 (eFnO fLstO eNil))
    (sSeq (sFor 3 (eIt true (eV 0))
    (sApp 2 (eOp2 (opIx true) (eFn fLst (eCons (eFn fTup (eCons (eC (.str [109, 97, 121, 98, 101])) (eCons (eOp2 (opMod) (eOp2 (opDiv) (eV 3) (eC (.int 2))) (eV 1)) eNil))) (eCons (eFn fTup (eCons (eC (.str [97, 110, 121])) (eCons (eOp2 (opAdd true true) (eC (.int 1)) (eOp2 (opMod) (eOp2 (opDiv) (eV 3) (eC (.int 2))) (eOp2 (opSub) (eOp2 (opShl) (eC (.int 1)) (eV 1)) (eC (.int 1))))) eNil))) eNil))) (eOp2 (opMod) (eV 3) (eC (.int 2))))))
    (sRet (eFn (fTuple false) (eCons (eL 2) eNil)))))
def MLladder : List D → R D := runF 4 BLladder
def BLtakes : VS.Env → Rs :=
    (sSeq (sIf (eB (eOp2 (opEq) (eOp2 (opIx true) (eV 0) (eC (.int 0))) (eC (.str [109, 97, 121, 98, 101]))))
    (sRet (eOp2 (opEq) (eOp2 (opIx true) (eV 0) (eC (.int 1))) (eV 1)))
    sNil)
    (sRet (eOp2 (opEq) (eOp2 (opBit Builtin.bitAnd) (eOp2 (opShr) (eOp2 (opIx true) (eV 0) (eC (.int 1))) (eV 1)) (eC (.int 1))) (eC (.int 1)))))
def MLtakes : List D → R D := runF 2 BLtakes
def BLspare : VS.Env → Rs :=
    (sSeq (sSetO 1 (eFnO fLstO eNil))
    (sSeq (sFor 2 (eItR (eC (.int 0)) (eFn (fLen) (eCons (eV 0) eNil)))
    (sFor 3 (eIt true (eFn fLst (eCons (eOp2 (opSub) (eV 2) (eC (.int 1))) (eCons (eOp2 (opAdd true true) (eV 2) (eC (.int 1))) eNil))))
    (sIf (tAnd' (eB (eChain (opRel fun i j => decide (i ≤ j)) (opRel fun i j => decide (i < j)) (eC (.int 0)) (eV 3) (eFn (fLen) (eCons (eV 0) eNil)))) (eB (eOp2 (opEq) (eOp2 (opIx true) (eOp2 (opIx true) (eV 0) (eV 3)) (eC (.int 0))) (eC (.str [97, 110, 121])))))
    (sSeq (sIf (eB (eOp2 (opEq) (eOp2 (opIx true) (eOp2 (opIx true) (eV 0) (eV 2)) (eC (.int 0))) (eC (.str [109, 97, 121, 98, 101]))))
    (sSet 4 (eCall MLtakes (eCons (eOp2 (opIx true) (eV 0) (eV 3)) (eCons (eOp2 (opIx true) (eOp2 (opIx true) (eV 0) (eV 2)) (eC (.int 1))) eNil))))
    (sSet 4 (eOp2 (opEq) (eOp2 (opBit Builtin.bitAnd) (eOp2 (opIx true) (eOp2 (opIx true) (eV 0) (eV 2)) (eC (.int 1))) (eOp2 (opIx true) (eOp2 (opIx true) (eV 0) (eV 3)) (eC (.int 1)))) (eOp2 (opIx true) (eOp2 (opIx true) (eV 0) (eV 2)) (eC (.int 1))))))
    (sIf (eTru (eV 4))
    (sApp 1 (eV 2))
    sNil))
    sNil)))
    (sFz 1 (sRet (eV 1)))))
def MLspare : List D → R D := runF 5 BLspare
def BLtight : VS.Env → Rs :=
    (sSeq (whileL (eB (eOp2 (opRel fun i j => decide (j < i)) (eFn (fLen) (eCons (eCall MLspare (eCons (eV 0) eNil)) eNil)) (eC (.int 0))))
    (sSeq (sSet 1 (eOp2 (opIx true) (eCall MLspare (eCons (eV 0) eNil)) (eC (.int 0))))
    (sSet 0 (eOp2 (opAdd true true) (eSl true (eV 0) eNoO (eO (eV 1))) (eSl true (eV 0) (eO (eOp2 (opAdd true true) (eV 1) (eC (.int 1)))) eNoO)))) wN)
    (sRet (eV 0)))
def MLtight : List D → R D := runF 2 BLtight
def BLsame (MLsame : List D → R D) : VS.Env → Rs :=
    (sSeq (sIf (tOr' (eTru (eIs .bool (eV 1))) (eTru (eIs .bool (eV 0))))
    (sRet (eAnd (eIs .bool (eV 1)) (eAnd (eIs .bool (eV 0)) (eOp2 (opEq) (eV 0) (eV 1)))))
    sNil)
    (sSeq (sIf (tOr' (eB (eOp2 (opIs) (eV 1) (eC .non))) (eTru (eIs .int (eV 1))))
    (sRet (eAnd (eOp2 (opEq) (eV 0) (eV 1)) (eOr (eOp2 (opIs) (eV 1) (eC .non)) (eIs .int (eV 0)))))
    sNil)
    (sSeq (sIf (eTru (eIs .str (eV 1)))
    (sRet (eAnd (eIs .str (eV 0)) (eOp2 (opEq) (eV 0) (eV 1))))
    sNil)
    (sSeq (sIf (tOr' (eB (eOp2 (opNe) (eIs .list (eV 1)) (eIs .list (eV 0)))) (eB (eOp2 (opNe) (eIs .tuple (eV 1)) (eIs .tuple (eV 0)))))
    (sRet (eC (.bl false)))
    sNil)
    (sSeq (sIf (eB (eOp2 (opNe) (eFn (fLen) (eCons (eV 0) eNil)) (eFn (fLen) (eCons (eV 1) eNil))))
    (sRet (eC (.bl false)))
    sNil)
    (sSeq (sFor 2 (eItR (eC (.int 0)) (eFn (fLen) (eCons (eV 1) eNil)))
    (sIf (tNot' (eTru (eCall MLsame (eCons (eOp2 (opIx true) (eV 0) (eV 2)) (eCons (eOp2 (opIx true) (eV 1) (eV 2)) eNil)))))
    (sRet (eC (.bl false)))
    sNil))
    (sRet (eC (.bl true)))))))))
def MLsameN : Nat → List D → R D
  | 0 => fun _ => .stuck
  | n + 1 => runF 3 (BLsame (MLsameN n))
def MLsame : List D → R D := MLsameN 64
def BLword : VS.Env → Rs :=
    (sRet (eMS fJoin (eC (.str [])) (eCons (eLc (eIt true (eV 0)) tYes' (eOp2 (opIx true) (eC (.str [97, 98, 99])) (eOp2 (opMod) (eV 2) (eV 1))) 2) eNil)))
def MLword : List D → R D := runF 3 BLword
def BLon : VS.Env → Rs :=
    (sSeq (sSet 2 (eFn fLst (eCons (eC (.int 0)) eNil)))
    (sSeq (sFor 3 (eIt true (eV 1))
    (sSeq (sSetO 4 (eFnO fLstO eNil))
    (sSeq (sFor 5 (eIt true (eV 2))
    (sFor 6 (eItR (eV 5) (eFn (fLen) (eCons (eV 0) eNil)))
    (sIf (eTru (eCall MLtakes (eCons (eOp2 (opIx true) (eV 0) (eV 6)) (eCons (eMS fSIndex (eC (.str [97, 98, 99])) (eCons (eV 3) eNil)) eNil))))
    (sSeq (sSet 7 (eOp2 (opAdd true true) (eV 6) (eFn (fInt) (eCons (eOp2 (opEq) (eOp2 (opIx true) (eOp2 (opIx true) (eV 0) (eV 6)) (eC (.int 0))) (eC (.str [109, 97, 121, 98, 101]))) eNil))))
    (sIf (eB (eOp2 (opNotInS) (eV 7) (eL 4)))
    (sApp 4 (eV 7))
    sNil))
    sNil)))
    (sFz 4 (sSet 2 (eV 4))))))
    (sRet (eOp2 (opRel fun i j => decide (j < i)) (eFn (fLen) (eCons (eV 2) eNil)) (eC (.int 0))))))
def MLon : List D → R D := runF 8 BLon
def Btakes : VS.Env → Rs :=
    (sSeq (sIf (eB (eOp2 (opEq) (eOp2 (opIx true) (eV 0) (eC (.int 0))) (eC (.str [109, 97, 121, 98, 101]))))
    (sRet (eOp2 (opEq) (eOp2 (opIx true) (eV 0) (eC (.int 1))) (eV 1)))
    sNil)
    (sRet (eOp2 (opEq) (eOp2 (opBit Builtin.bitAnd) (eOp2 (opShr) (eOp2 (opIx true) (eV 0) (eC (.int 1))) (eV 1)) (eC (.int 1))) (eC (.int 1)))))
def Mtakes : List D → R D := runF 2 Btakes
def Bstep_within : VS.Env → Rs :=
    (sSeq (sIf (eB (eOp2 (opEq) (eOp2 (opIx true) (eV 0) (eC (.int 0))) (eC (.str [109, 97, 121, 98, 101]))))
    (sRet (eCall Mtakes (eCons (eV 1) (eCons (eOp2 (opIx true) (eV 0) (eC (.int 1))) eNil))))
    sNil)
    (sRet (eAnd (eOp2 (opEq) (eOp2 (opIx true) (eV 1) (eC (.int 0))) (eC (.str [97, 110, 121]))) (eOp2 (opEq) (eOp2 (opBit Builtin.bitAnd) (eOp2 (opIx true) (eV 0) (eC (.int 1))) (eOp2 (opIx true) (eV 1) (eC (.int 1)))) (eOp2 (opIx true) (eV 0) (eC (.int 1)))))))
def Mstep_within : List D → R D := runF 2 Bstep_within
def Bspare_step : VS.Env → Rs :=
    (sSeq (sFor 1 (eItR (eC (.int 0)) (eFn (fLen) (eCons (eV 0) eNil)))
    (sFor 2 (eIt true (eFn fTup (eCons (eOp2 (opSub) (eV 1) (eC (.int 1))) (eCons (eOp2 (opAdd true true) (eV 1) (eC (.int 1))) eNil))))
    (sIf (tAnd' (eB (eChain (opRel fun i j => decide (i ≤ j)) (opRel fun i j => decide (i < j)) (eC (.int 0)) (eV 2) (eFn (fLen) (eCons (eV 0) eNil)))) (tAnd' (eB (eOp2 (opEq) (eOp2 (opIx true) (eOp2 (opIx true) (eV 0) (eV 2)) (eC (.int 0))) (eC (.str [97, 110, 121])))) (eTru (eCall Mstep_within (eCons (eOp2 (opIx true) (eV 0) (eV 1)) (eCons (eOp2 (opIx true) (eV 0) (eV 2)) eNil))))))
    (sRet (eV 1))
    sNil)))
    (sRet (eC .non)))
def Mspare_step : List D → R D := runF 3 Bspare_step
def Bis_tight : VS.Env → Rs :=
    (sRet (eOp2 (opIs) (eCall Mspare_step (eCons (eV 0) eNil)) (eC .non)))
def Mis_tight : List D → R D := runF 1 Bis_tight
def BLtelling : VS.Env → Rs :=
    (sSeq (sSet 2 (eC (.str [])))
    (sSeq (sFor 3 (eIt true (eV 0))
    (sIf (eB (eOp2 (opEq) (eOp2 (opIx true) (eV 3) (eC (.int 0))) (eC (.str [109, 97, 121, 98, 101]))))
    (sSet 2 (eOp2 (opAdd true true) (eV 2) (eOp2 (opIx true) (eC (.str [97, 98, 99])) (eOp2 (opIx true) (eV 3) (eC (.int 1))))))
    (sSet 2 (eOp2 (opAdd true true) (eV 2) (eOp2 (opMul) (eMS fJoin (eC (.str [])) (eCons (eLc (eItR (eC (.int 0)) (eC (.int 3))) (eB (eOp2 (opEq) (eOp2 (opBit Builtin.bitAnd) (eOp2 (opShr) (eOp2 (opIx true) (eV 3) (eC (.int 1))) (eV 4)) (eC (.int 1))) (eC (.int 1)))) (eOp2 (opIx true) (eC (.str [97, 98, 99])) (eV 4)) 4) eNil)) (eV 1))))))
    (sRet (eV 2))))
def MLtelling : List D → R D := runF 5 BLtelling
def Bletter_index : VS.Env → Rs :=
    (sRet (eMS fSIndex (eC (.str [97, 98, 99])) (eCons (eV 0) eNil)))
def Mletter_index : List D → R D := runF 1 Bletter_index
def Bon_ladder : VS.Env → Rs :=
    (sSeq (sSet 2 (eC (.int 0)))
    (sSeq (sFor 3 (eIt true (eV 1))
    (sSeq (sSet 4 (eCall Mletter_index (eCons (eV 3) eNil)))
    (sSeq (whileL (tAnd' (eB (eOp2 (opRel fun i j => decide (i < j)) (eV 2) (eFn (fLen) (eCons (eV 0) eNil)))) (tNot' (eTru (eCall Mtakes (eCons (eOp2 (opIx true) (eV 0) (eV 2)) (eCons (eV 4) eNil))))))
    (sSet 2 (eOp2 (opAdd true true) (eV 2) (eC (.int 1)))) wN)
    (sSeq (sIf (eB (eOp2 (opEq) (eV 2) (eFn (fLen) (eCons (eV 0) eNil))))
    (sRet (eC (.bl false)))
    sNil)
    (sIf (eB (eOp2 (opEq) (eOp2 (opIx true) (eOp2 (opIx true) (eV 0) (eV 2)) (eC (.int 0))) (eC (.str [109, 97, 121, 98, 101]))))
    (sSet 2 (eOp2 (opAdd true true) (eV 2) (eC (.int 1))))
    sNil)))))
    (sRet (eC (.bl true)))))
def Mon_ladder : List D → R D := runF 5 Bon_ladder
def Bladder_within : VS.Env → Rs :=
    (sSeq (sSet 2 (eC (.int 0)))
    (sSeq (sFor 3 (eIt true (eV 0))
    (sSeq (whileL (tAnd' (eB (eOp2 (opRel fun i j => decide (i < j)) (eV 2) (eFn (fLen) (eCons (eV 1) eNil)))) (tNot' (eTru (eCall Mstep_within (eCons (eV 3) (eCons (eOp2 (opIx true) (eV 1) (eV 2)) eNil))))))
    (sSet 2 (eOp2 (opAdd true true) (eV 2) (eC (.int 1)))) wN)
    (sSeq (sIf (eB (eOp2 (opEq) (eV 2) (eFn (fLen) (eCons (eV 1) eNil))))
    (sRet (eC (.bl false)))
    sNil)
    (sIf (eB (eOp2 (opEq) (eOp2 (opIx true) (eOp2 (opIx true) (eV 1) (eV 2)) (eC (.int 0))) (eC (.str [109, 97, 121, 98, 101]))))
    (sSet 2 (eOp2 (opAdd true true) (eV 2) (eC (.int 1))))
    sNil))))
    (sRet (eC (.bl true)))))
def Mladder_within : List D → R D := runF 4 Bladder_within
def Blaw : VS.Env → Rs :=
    (sSeq (sSet 1 (eCall MLdraws (eCons (eV 0) (eCons (eC (.int 0)) (eCons (eC (.int 4)) (eCons (eC (.int 720)) eNil))))))
    (sSeq (sSet 2 (eOp2 (opAdd true true) (eC (.int 1)) (eOp2 (opMod) (eOp2 (opIx true) (eV 1) (eC (.int 0))) (eC (.int 3)))))
    (sSeq (sSet 3 (eCall MLladder (eCons (eCall MLdraws (eCons (eV 0) (eCons (eC (.int 1)) (eCons (eOp2 (opMod) (eOp2 (opIx true) (eV 1) (eC (.int 1))) (eC (.int 6))) (eCons (eC (.int 720)) eNil))))) (eCons (eV 2) eNil))))
    (sSeq (sSet 4 (eCall MLladder (eCons (eCall MLdraws (eCons (eV 0) (eCons (eC (.int 2)) (eCons (eOp2 (opMod) (eOp2 (opIx true) (eV 1) (eC (.int 2))) (eC (.int 6))) (eCons (eC (.int 720)) eNil))))) (eCons (eV 2) eNil))))
    (sSeq (sSet 5 (eOp2 (opMod) (eOp2 (opIx true) (eV 1) (eC (.int 3))) (eOp2 (opAdd true true) (eFn (fLen) (eCons (eV 3) eNil)) (eC (.int 1)))))
    (sSeq (sSet 6 (eFn fLst (eCons (eV 3) (eCons (eV 4) (eCons (eOp2 (opAdd true true) (eSl true (eV 3) eNoO (eO (eV 5))) (eSl true (eV 3) (eO (eOp2 (opAdd true true) (eV 5) (eC (.int 1)))) eNoO)) (eCons (eOp2 (opAdd true true) (eOp2 (opAdd true true) (eSl true (eV 3) eNoO (eO (eV 5))) (eV 4)) (eSl true (eV 3) (eO (eV 5)) eNoO)) eNil))))))
    (sSeq (sFor 7 (eIt true (eV 6))
    (sSeq (sIf (tNot' (eTru (eCall MLsame (eCons (eCall Mis_tight (eCons (eV 7) eNil)) (eCons (eOp2 (opEq) (eFn (fLen) (eCons (eCall MLspare (eCons (eV 7) eNil)) eNil)) (eC (.int 0))) eNil)))))
    (sRet (eC (.bl false)))
    sNil)
    (sFor 8 (eItR (eC (.int 0)) (eC (.int 3)))
    (sSeq (sSet 9 (eCall MLword (eCons (eCall MLdraws (eCons (eV 0) (eCons (eOp2 (opAdd true true) (eC (.int 3)) (eV 8)) (eCons (eOp2 (opMod) (eOp2 (opAdd true true) (eOp2 (opIx true) (eV 1) (eC (.int 2))) (eOp2 (opMul) (eC (.int 2)) (eV 8))) (eC (.int 7))) (eCons (eC (.int 5040)) eNil))))) (eCons (eV 2) eNil))))
    (sIf (tNot' (eTru (eCall MLsame (eCons (eCall Mon_ladder (eCons (eV 7) (eCons (eV 9) eNil))) (eCons (eCall MLon (eCons (eV 7) (eCons (eV 9) eNil))) eNil)))))
    (sRet (eC (.bl false)))
    sNil)))))
    (sSeq (sSet 10 (eLc (eIt true (eV 6)) tYes' (eCall MLtight (eCons (eV 7) eNil)) 7))
    (sSeq (sFor 11 (eIt true (eV 10))
    (sFor 12 (eIt true (eV 10))
    (sSeq (sSet 13 (eCall MLon (eCons (eV 12) (eCons (eCall MLtelling (eCons (eV 11) (eCons (eOp2 (opAdd true true) (eFn (fLen) (eCons (eV 12) eNil)) (eC (.int 2))) eNil))) eNil))))
    (sIf (tNot' (eTru (eCall MLsame (eCons (eCall Mladder_within (eCons (eV 11) (eCons (eV 12) eNil))) (eCons (eV 13) eNil)))))
    (sRet (eC (.bl false)))
    sNil))))
    (sRet (eC (.bl true))))))))))))
def Mlaw : List D → R D := runF 14 Blaw
end GW

set_option maxHeartbeats 4000000
namespace GW
open PySem PySem.Spec PyProof.Rows L2 VS
theorem asInts_map' (ns : List Int) : asInts (ns.map D.int) = some ns := by
  induction ns with
  | nil => rfl
  | cons n ns ih => rw [List.map_cons, asInts_cons, ih]; rfl
theorem Lnumber_spec (ns : List Int) (k : Nat) : ∃ v : Int, 0 ≤ v ∧ MLnumber [.lst (ns.map D.int), .int k] = .ok (.int v) := by
  unfold MLnumber BLnumber
  rw [runF_def]
  by_cases h : (k : Int) < ns.length
  · have hk : k < ns.length := by omega
    simp -implicitDefEqProofs [asInts_map', h, List.getElem?_eq_getElem hk]
    split <;> omega
  · simp -implicitDefEqProofs [asInts_map', h]
    split <;> omega
theorem hpow18 : opPow (.int 10) (.int 18) = some (.int 1000000000000000000) := (rfl)
theorem asI_0 : asI (.int 0) = some 0 := (rfl)
theorem Ldraws_a (ns : List Int) (k count : Nat) (many v : Int) (hc : count ≤ 1000000) (h1 : 0 < many) (h2 : many < 1073741824) (hv : 0 ≤ v) (e : MLnumber [.lst (ns.map D.int), .int k] = .ok (.int v)) (h : (1000000000000000000 : Int) ≤ v) : ∃ l : List Int, MLdraws [.lst (ns.map D.int), .int k, .int count, .int many] = .ok (.lst (l.map D.int)) ∧ l.length = count ∧ ∀ x ∈ l, 0 ≤ x ∧ x < many := by
  unfold MLdraws BLdraws
  rw [runF_def]
  have hi : asI (.int (count : Int)) = some (count : Int) := by rw [asI_int, if_pos ⟨by omega, by omega⟩]
  obtain ⟨c', hc', l, x, st, hcl, hll, hlx⟩ := forL_rg 6 (sSeq (sApp 5 (eOp2 (opMod) (eV 4) (eV 3))) (sSet 4 (eOp2 (opDiv) (eV 4) (eV 3)))) count
    (fun j c => ∃ (l : List Int) (x : Option O) (st : Int), c = [some (.v (.lst (ns.map D.int))), some (.v (.int k)), some (.v (.int count)), some (.v (.int many)), some (.v (.int st)), some (.lst (l.map fun i => .v (.int i))), x, none, none] ∧ l.length = j ∧ ∀ x ∈ l, 0 ≤ x ∧ x < many)
    [some (.v (.lst (ns.map D.int))), some (.v (.int k)), some (.v (.int count)), some (.v (.int many)), some (.v (.int (v - 1000000000000000000))), some (.lst []), none, none, none]
    (by
      rintro j c hj ⟨l, x, st, rfl, hl, hx⟩
      have hlt : j < 16777216 := by omega
      refine ⟨_, by simp -implicitDefEqProofs [hlt, hl, h1, h2]; rfl, l ++ [st % many], some (.v (.int j)), st / many, by simp, by simp -implicitDefEqProofs [hl], ?_⟩
      intro y hy
      rcases List.mem_append.mp hy with hy | hy
      · exact hx y hy
      · rw [List.mem_singleton.mp hy]; exact ⟨Int.emod_nonneg _ (by omega), Int.emod_lt_of_pos _ h1⟩)
    ⟨[], none, v - 1000000000000000000, by simp, rfl, by simp⟩
  refine ⟨l, ?_, by rw [hll]; simp, hlx⟩
  simp -implicitDefEqProofs [e, hpow18, h, hi, asI_0]
  rw [hc', hcl]; simp

theorem Ldraws_b (ns : List Int) (k count : Nat) (many v : Int) (hc : count ≤ 1000000) (h1 : 0 < many) (h2 : many < 1073741824) (hv : 0 ≤ v) (e : MLnumber [.lst (ns.map D.int), .int k] = .ok (.int v)) (h : ¬ (1000000000000000000 : Int) ≤ v) : ∃ l : List Int, MLdraws [.lst (ns.map D.int), .int k, .int count, .int many] = .ok (.lst (l.map D.int)) ∧ l.length = count ∧ ∀ x ∈ l, 0 ≤ x ∧ x < many := by
  unfold MLdraws BLdraws
  rw [runF_def]
  have hi : asI (.int (count : Int)) = some (count : Int) := by rw [asI_int, if_pos ⟨by omega, by omega⟩]
  obtain ⟨c', hc', l, x, y, st, hcl, hll, hlx, _⟩ := forL_rg 6 (sSeq (sSet 7 (eOp2 (opMod) (eOp2 (opAdd true true) (eOp2 (opAdd true true) (eOp2 (opMul) (eV 7) (eC (.int 48271))) (eOp2 (opMul) (eC (.int 11)) (eV 6))) (eC (.int 7))) (eC (.int 2147483647))))
  (sSeq (sSet 8 (eOp2 (opMod) (eOp2 (opAdd true true) (eOp2 (opAdd true true) (eOp2 (opMul) (eV 7) (eV 7)) (eOp2 (opMul) (eC (.int 69621)) (eV 6))) (eC (.int 5))) (eC (.int 2147483629))))
  (sApp 5 (eOp2 (opMod) (eOp2 (opDiv) (eV 8) (eC (.int 64))) (eV 3))))) count
    (fun j c => ∃ (l : List Int) (x y : Option O) (st : Int), c = [some (.v (.lst (ns.map D.int))), some (.v (.int k)), some (.v (.int count)), some (.v (.int many)), some (.v (.int v)), some (.lst (l.map fun i => .v (.int i))), x, some (.v (.int st)), y] ∧ l.length = j ∧ (∀ x ∈ l, 0 ≤ x ∧ x < many) ∧ 0 ≤ st ∧ st < 2 ^ 32)
    [some (.v (.lst (ns.map D.int))), some (.v (.int k)), some (.v (.int count)), some (.v (.int many)), some (.v (.int v)), some (.lst []), none, some (.v (.int (v % 2147483647 + 1))), none]
    (by
      rintro j c hj ⟨l, x, y, st, rfl, hl, hx, hs, hs'⟩
      have g1 : 0 ≤ (st * 48271 + 11 * (j : Int) + 7) % 2147483647 := Int.emod_nonneg _ (by omega)
      have g2 : (st * 48271 + 11 * (j : Int) + 7) % 2147483647 < 2147483647 := Int.emod_lt_of_pos _ (by omega)
      have hlt : j < 16777216 := by omega
      have g3 : -18446744073709551616 < (st * 48271 + 11 * (j : Int) + 7) % 2147483647 := by omega
      have g4 : (st * 48271 + 11 * (j : Int) + 7) % 2147483647 < 18446744073709551616 := by omega
      refine ⟨_, by simp -implicitDefEqProofs [hlt, hl, h1, h2, g3, g4]; rfl, l ++ [(((st * 48271 + 11 * (j : Int) + 7) % 2147483647) * ((st * 48271 + 11 * (j : Int) + 7) % 2147483647) + 69621 * (j : Int) + 5) % 2147483629 / 64 % many], some (.v (.int j)), some (.v (.int ((((st * 48271 + 11 * (j : Int) + 7) % 2147483647) * ((st * 48271 + 11 * (j : Int) + 7) % 2147483647) + 69621 * (j : Int) + 5) % 2147483629))), (st * 48271 + 11 * (j : Int) + 7) % 2147483647, by simp, by simp -implicitDefEqProofs [hl], ?_, g1, by omega⟩
      intro y hy
      rcases List.mem_append.mp hy with hy | hy
      · exact hx y hy
      · rw [List.mem_singleton.mp hy]; exact ⟨Int.emod_nonneg _ (by omega), Int.emod_lt_of_pos _ h1⟩)
    ⟨[], none, none, v % 2147483647 + 1, by simp, rfl, by simp, by omega, by omega⟩
  refine ⟨l, ?_, by rw [hll]; simp, hlx⟩
  simp -implicitDefEqProofs [e, hpow18, h, hi, asI_0]
  rw [hc', hcl]; simp

theorem Ldraws_spec (ns : List Int) (k count : Nat) (many : Int) (hc : count ≤ 1000000) (h1 : 0 < many) (h2 : many < 1073741824) : ∃ l : List Int, MLdraws [.lst (ns.map D.int), .int k, .int count, .int many] = .ok (.lst (l.map D.int)) ∧ l.length = count ∧ ∀ x ∈ l, 0 ≤ x ∧ x < many := by
  obtain ⟨v, hv, e⟩ := Lnumber_spec ns k
  by_cases h : (1000000000000000000 : Int) ≤ v
  · exact Ldraws_a ns k count many v hc h1 h2 hv e h
  · exact Ldraws_b ns k count many v hc h1 h2 hv e h
end GW

namespace GW
open PySem PySem.Spec PyProof.Rows L2 VS
theorem Lsame_loop (m : Nat) (ds : List D) (tu : List D → D) (htu : tu = D.lst ∨ tu = D.tup) (h : ∀ d ∈ ds, MLsameN m [d, d] = .ok (.bl true)) :
    ∃ c', forL 2 (sIf (tNot' (eTru (eCall (MLsameN m) (eCons (eOp2 (opIx true) (eV 0) (eV 2)) (eCons (eOp2 (opIx true) (eV 1) (eV 2)) eNil))))) (sRet (eC (.bl false))) sNil) (rangeD 0 ds.length) [some (.v (tu ds)), some (.v (tu ds)), none] = .ok .nx c' := by
  obtain ⟨c', h1, _⟩ := forL_rg 2 (sIf (tNot' (eTru (eCall (MLsameN m) (eCons (eOp2 (opIx true) (eV 0) (eV 2)) (eCons (eOp2 (opIx true) (eV 1) (eV 2)) eNil))))) (sRet (eC (.bl false))) sNil) ds.length
    (fun j c => ∃ x, c = [some (.v (tu ds)), some (.v (tu ds)), x]) [some (.v (tu ds)), some (.v (tu ds)), none]
    (by
      rintro j c hj ⟨x, rfl⟩
      have hj' : j < ds.length := by omega
      have hd : atI ds (j : Int) = some ds[j] := by rw [atI_ofNat, List.getElem?_eq_getElem hj']
      have hm := h _ (List.getElem_mem hj')
      refine ⟨_, ?_, some (.v (.int j)), rfl⟩
      rcases htu with rfl | rfl <;> simp -implicitDefEqProofs [hd, hm]) ⟨none, rfl⟩
  exact ⟨c', h1⟩
theorem Lsame_n {n : Nat} {d : D} (s : Sm n d) : ∀ m, n < m → MLsameN m [d, d] = .ok (.bl true) := by
  induction s with
  | non => rintro (_ | m) h; · omega
           simp -implicitDefEqProofs [MLsameN, BLsame, isI, opEq, D.eqv]
  | bl t => rintro (_ | m) h; · omega
            simp -implicitDefEqProofs [MLsameN, BLsame, isI]
  | int i => rintro (_ | m) h; · omega
             simp -implicitDefEqProofs [MLsameN, BLsame, isI]
  | str l hl =>
    rintro (_ | m) h; · omega
    simp -implicitDefEqProofs [MLsameN, BLsame, isI, opEq_self (d := .str l) (by rw [pln_str]; exact hl)]
  | lst ds hl hk ih =>
    rintro (_ | m) h; · omega
    obtain ⟨c', e⟩ := Lsame_loop m ds D.lst (.inl rfl) fun d hd => ih d hd m (by omega)
    simp -implicitDefEqProofs [MLsameN, BLsame, isI, asI_small (i := (ds.length : Int)) (by omega) hl, asI_zero]
    rw [e]
  | tup ds hl hk ih =>
    rintro (_ | m) h; · omega
    obtain ⟨c', e⟩ := Lsame_loop m ds D.tup (.inr rfl) fun d hd => ih d hd m (by omega)
    simp -implicitDefEqProofs [MLsameN, BLsame, isI, asI_small (i := (ds.length : Int)) (by omega) hl, asI_zero]
    rw [e]
theorem Lsame_ok {d : D} (s : Sm 63 d) : MLsame [d, d] = .ok (.bl true) := Lsame_n s 64 (by omega)
end GW

namespace VS
open PySem PySem.Spec PyProof.Rows L2
theorem compL_mapm {α : Type} (g : Env → R D) (i : Nat) (c : Env) (k : α → D) (f : α → D) : ∀ (l : List α), (∀ x ∈ l, g (c.set i (some (.v (k x)))) = .ok (f x)) → compL tYes' g i c (l.map k) = .ok (l.map f)
  | [], _ => rfl
  | d :: ds, h => by
    rw [List.map_cons, compL_cons, tYes_def]
    simp only [noX_ok, ok_bind, if_true]
    rw [h d List.mem_cons_self, compL_mapm g i c k f ds fun d hd => h d (List.mem_cons_of_mem _ hd)]
    rfl
theorem compL_filterm {α : Type} (t : Env → R Bool) (g : Env → R D) (i : Nat) (c : Env) (k : α → D) (p : α → Bool) (f : α → D) : ∀ (l : List α), (∀ x ∈ l, t (c.set i (some (.v (k x)))) = .ok (p x)) → (∀ x ∈ l, p x = true → g (c.set i (some (.v (k x)))) = .ok (f x)) → compL t g i c (l.map k) = .ok ((l.filter p).map f)
  | [], _, _ => rfl
  | d :: ds, h, q => by
    have ih := compL_filterm t g i c k p f ds (fun d hd => h d (List.mem_cons_of_mem _ hd)) fun d hd => q d (List.mem_cons_of_mem _ hd)
    rw [List.map_cons, compL_cons, h d List.mem_cons_self]
    simp only [noX_ok, ok_bind]
    cases hp : p d with
    | true =>
      rw [if_pos rfl, q d List.mem_cons_self hp, ih, List.filter_cons_of_pos hp]
      rfl
    | false =>
      rw [if_neg (by decide), ih, List.filter_cons_of_neg (by simp [hp])]
/-- a loop whose turns go on, or one of which returns d -/
theorem forL_opt {α β : Type} (i : Nat) (g : Env → Rs) (emb : β → D) (E : α → Env → Prop) (step : α → β → Option α) (d : D) : ∀ (xs : List β) (s : α) (c : Env), E s c →
    (∀ s c, E s c → ∀ x ∈ xs, match step s x with
      | some s' => ∃ c', Nx g (c.set i (some (.v (emb x)))) c' ∧ E s' c'
      | none => Ret g (c.set i (some (.v (emb x)))) d) →
    match xs.foldlM step s with
      | some s' => ∃ c', forL i g (xs.map emb) c = .ok .nx c' ∧ E s' c'
      | none => ∃ c', forL i g (xs.map emb) c = .ok (.rt d) c'
  | [], s, c, e, _ => ⟨c, rfl, e⟩
  | x :: xs, s, c, e, h => by
    have hx := h s c e x List.mem_cons_self
    rw [List.foldlM_cons]
    cases k : step s x with
    | none =>
      rw [k] at hx
      obtain ⟨c', hx⟩ := hx
      show ∃ c', _
      exact ⟨c', by rw [List.map_cons, forL_cons, hx]⟩
    | some s' =>
      rw [k] at hx
      obtain ⟨c', hx, e'⟩ := hx
      have ih := forL_opt i g emb E step d xs s' c' e' fun s c e x m => h s c e x (List.mem_cons_of_mem _ m)
      show match xs.foldlM step s' with
        | some s' => ∃ c', forL i g ((x :: xs).map emb) c = .ok .nx c' ∧ E s' c'
        | none => ∃ c', forL i g ((x :: xs).map emb) c = .ok (.rt d) c'
      rw [List.map_cons, forL_cons, show g (c.set i (some (.v (emb x)))) = .ok .nx c' from hx]
      exact ih
theorem Ret.for {i : Nat} {gs : Env → R (List D)} {g : Env → Rs} {c : Env} {ds : List D} {d : D} (h : gs c = .ok ds) (k : ∃ c', forL i g ds c = .ok (.rt d) c') : Ret (sFor i gs g) c d := by
  obtain ⟨c', k⟩ := k
  exact ⟨c', by rw [sFor_def, h]; exact k⟩
end VS
namespace GW
open PySem PySem.Spec PyProof.Rows L2 VS
abbrev ni (x : Nat) : D := .int (x : Int)
abbrev oD (d : D) : Option O := some (.v d)
def Wd' (lt : Nat) (w : List Nat) : Prop := ∀ c ∈ w, 97 ≤ c ∧ c < 97 + lt
theorem idx_let {k : Nat} (hk : k < 3) : fSIndex [97, 98, 99] [.str [97 + k]] = some (.int (k : Int)) := by
  have : k = 0 ∨ k = 1 ∨ k = 2 := by omega
  have o : Builtin.Str.occurrences (S [97, 98, 99]) (S [97]) 0 3 1 = [0] ∧ Builtin.Str.occurrences (S [97, 98, 99]) (S [98]) 0 3 1 = [1] ∧ Builtin.Str.occurrences (S [97, 98, 99]) (S [99]) 0 3 1 = [2] := by decide +kernel
  rcases this with rfl | rfl | rfl <;> simp [fSIndex, o]
theorem abc_at {k : Nat} (hk : k < 3) : opIx true (.str [97, 98, 99]) (.int (k : Int)) = some (.str [97 + k]) := by
  have : k = 0 ∨ k = 1 ∨ k = 2 := by omega
  rcases this with rfl | rfl | rfl <;> rfl
theorem joinL_one (l : List Nat) : TL.joinL [] (l.map fun x => [x]) = l := by
  induction l with
  | nil => rfl
  | cons a l ih =>
    cases l with
    | nil => rfl
    | cons b l =>
      rw [List.map_cons, List.map_cons, TL.joinL]
      simpa using ih
theorem Lword_spec {lt : Nat} (l : List Int) (h1 : 1 ≤ lt) (h2 : lt ≤ 3) (hl : l.length ≤ 1000) : ∃ w, MLword [.lst (l.map D.int), .int lt] = .ok (.str w) ∧ Wd' lt w ∧ w.length = l.length := by
  have e := compL_mapm (eOp2 (opIx true) (eC (.str [97, 98, 99])) (eOp2 (opMod) (eV 2) (eV 1))) 2 [some (.v (.lst (l.map D.int))), some (.v (.int lt)), none] D.int (fun x => .str [97 + (x % lt).toNat]) l (by
    intro x hx
    have g1 : 0 ≤ x % (lt : Int) := Int.emod_nonneg _ (by omega)
    have g2 : x % (lt : Int) < lt := Int.emod_lt_of_pos _ (by omega)
    obtain ⟨k, hk⟩ := Int.eq_ofNat_of_zero_le g1
    have : k < 3 := by omega
    simp -implicitDefEqProofs [-opIx_str, show 0 < lt by omega, hk, abc_at this])
  have e2 : (l.map fun x => D.str [97 + (x % (lt : Int)).toNat]) = (l.map fun x => [97 + (x % (lt : Int)).toNat]).map D.str := by simp
  have e3 : (l.map fun x => [97 + (x % (lt : Int)).toNat]) = (l.map fun x => 97 + (x % (lt : Int)).toNat).map fun x => [x] := by simp
  refine ⟨l.map fun x => 97 + (x % (lt : Int)).toNat, ?_, ?_, by simp⟩
  · rw [e2] at e
    simp -implicitDefEqProofs [MLword, BLword, -List.map_map]
    rw [e]
    simp -implicitDefEqProofs [-List.map_map, show l.length ≤ 16777216 by omega]
    rw [e3, joinL_one]
    simp -implicitDefEqProofs [Function.comp_def, List.map_const', show l.length ≤ 16777216 by omega]
  · intro c hc
    obtain ⟨x, hx, rfl⟩ := List.mem_map.mp hc
    have g1 : 0 ≤ x % (lt : Int) := Int.emod_nonneg _ (by omega)
    have g2 : x % (lt : Int) < lt := Int.emod_lt_of_pos _ (by omega)
    omega
/-! ladders -/
abbrev Stp := Bool × Nat
def kw (m : Bool) : D := .str (if m then [109, 97, 121, 98, 101] else [97, 110, 121])
def stD (s : Stp) : D := .tup [kw s.1, .int s.2]
def lad (l : List Stp) : D := .tup (l.map stD)
def Sok (s : Stp) : Prop := (s.1 = true → s.2 < 3) ∧ (s.1 = false → 1 ≤ s.2 ∧ s.2 < 8)
def tk (s : Stp) (i : Nat) : Bool := if s.1 then s.2 == i else s.2.testBit i
def win (s o : Stp) : Bool := if s.1 then tk o s.2 else !o.1 && (s.2 &&& o.2 == s.2)
theorem bit_nat (a b : Nat) : Builtin.bitAnd (a : Int) (b : Int) = ((a &&& b : Nat) : Int) := by
  rfl
theorem stD0 (s : Stp) : opIx true (stD s) (.int 0) = some (kw s.1) := (rfl)
theorem stD1 (s : Stp) : opIx true (stD s) (.int 1) = some (.int s.2) := (rfl)
theorem eq_maybe (m : Bool) : opEq (kw m) (.str [109, 97, 121, 98, 101]) = some (.bl m) := by
  cases m <;> simp [opEq, kw]
theorem eq_any (m : Bool) : opEq (kw m) (.str [97, 110, 121]) = some (.bl (!m)) := by
  cases m <;> simp [opEq, kw]
def sh (v i : Nat) : Int := ((v >>> i : Nat) : Int)
def sb (v i : Nat) : Int := ((v >>> i &&& 1 : Nat) : Int)
theorem shr_spec (v i : Nat) : opShr (.int v) (.int i) = some (.int (sh v i)) := by
  unfold opShr sh
  simp [Nat.shiftRight_eq_div_pow]
theorem sb_spec (v i : Nat) : opBit Builtin.bitAnd (.int (sh v i)) (.int 1) = some (.int (sb v i)) := by
  unfold opBit sh sb
  exact congrArg (fun x => some (D.int x)) (bit_nat (v >>> i) 1)
theorem bit1 (v i : Nat) : ((v >>> i &&& 1 : Nat) == 1) = v.testBit i := by
  rw [Nat.testBit]
  rw [Nat.and_comm]
  have : (1 &&& v >>> i) = 0 ∨ (1 &&& v >>> i) = 1 := by
    have : 1 &&& v >>> i ≤ 1 := Nat.and_le_left
    omega
  rcases this with h | h <;> simp [h]
theorem tk_any (v i : Nat) : opEq (.int (sb v i)) (.int 1) = some (.bl (v.testBit i)) := by
  rw [opEq_int, ← bit1]
  unfold sb
  congr 2
  rw [Bool.eq_iff_iff, beq_iff_eq, beq_iff_eq]
  omega
theorem nat_eq (a b : Nat) : opEq (.int (a : Int)) (.int (b : Int)) = some (.bl (a == b)) := by
  rw [opEq_int]
  congr 2
  rw [Bool.eq_iff_iff, beq_iff_eq, beq_iff_eq]
  omega
theorem takes_spec (s : Stp) (i : Nat) : Mtakes [stD s, .int i] = .ok (.bl (tk s i)) ∧ MLtakes [stD s, .int i] = .ok (.bl (tk s i)) := by
  have e : Mtakes = MLtakes := rfl
  rw [e, and_self]
  obtain ⟨m, v⟩ := s
  unfold MLtakes BLtakes
  cases m with
  | true =>
    refine ret_of (.fst (.yes ?_ (.ret ?_)))
    · simp -implicitDefEqProofs [-opIx_tup, stD0, eq_maybe]
    · simp -implicitDefEqProofs [-opIx_tup, -opEq_int, stD1, tk, nat_eq]
  | false =>
    refine ret_of (.seq (.no ?_ .nil) (.ret ?_))
    · simp -implicitDefEqProofs [-opIx_tup, stD0, eq_maybe]
    · simp -implicitDefEqProofs [-opIx_tup, -opEq_int, stD1, tk, shr_spec, sb_spec, tk_any]
def ab (a b : Nat) : Int := ((a &&& b : Nat) : Int)
theorem ab_spec (a b : Nat) : opBit Builtin.bitAnd (.int (a : Int)) (.int (b : Int)) = some (.int (ab a b)) := by
  unfold opBit ab
  exact congrArg (fun x => some (D.int x)) (bit_nat a b)
theorem ab_eq (a b : Nat) : opEq (.int (ab a b)) (.int (a : Int)) = some (.bl (a &&& b == a)) := nat_eq _ _
theorem within_spec (s o : Stp) : Mstep_within [stD s, stD o] = .ok (.bl (win s o)) := by
  obtain ⟨m, v⟩ := s
  unfold Mstep_within Bstep_within
  cases m with
  | true =>
    refine ret_of (.fst (.yes ?_ (.ret ?_)))
    · simp -implicitDefEqProofs [-opIx_tup, stD0, eq_maybe]
    · simp -implicitDefEqProofs [-opIx_tup, stD1, win, (takes_spec o v).1]
  | false =>
    refine ret_of (.seq (.no ?_ .nil) (.ret ?_))
    · simp -implicitDefEqProofs [-opIx_tup, stD0, eq_maybe]
    · cases h : o.1 <;> simp -implicitDefEqProofs [-opIx_tup, -opEq_int, stD0, stD1, win, h, eq_any, ab_spec, ab_eq]
end GW

namespace GW
open PySem PySem.Spec PyProof.Rows L2 VS
theorem ladIx {l : List Stp} {j : Nat} (h : j < l.length) : opIx true (lad l) (.int (j : Int)) = some (stD l[j]) := by
  unfold lad
  rw [opIx_tup, atI_ofNat, List.getElem?_map, List.getElem?_eq_getElem h]; rfl
theorem ladLen (l : List Stp) : fLen [lad l] = some (.int (l.length : Nat)) := by
  unfold lad; rw [fLen_tup, List.length_map]
def First (p : Stp → Bool) (l : List Stp) (a b : Nat) : Prop := a ≤ b ∧ b ≤ l.length ∧ (∀ j (h : j < l.length), a ≤ j → j < b → p l[j] = false) ∧ (∀ h : b < l.length, p l[b] = true)
def nx (p : Stp → Bool) (l : List Stp) (a : Nat) : Nat := a + (l.drop a).findIdx p
theorem First_nx (p : Stp → Bool) (l : List Stp) {a : Nat} (h : a ≤ l.length) : First p l a (nx p l a) := by
  have hl : (l.drop a).findIdx p ≤ (l.drop a).length := List.findIdx_le_length
  rw [List.length_drop] at hl
  refine ⟨by unfold nx; omega, by unfold nx; omega, ?_, ?_⟩
  · intro j hj h1 h2
    have hk : j - a < (l.drop a).findIdx p := by unfold nx at h2; omega
    have := List.not_of_lt_findIdx hk
    rw [List.getElem_drop] at this
    have e : a + (j - a) = j := by omega
    simpa [e] using this
  · intro hb
    have hlt : (l.drop a).findIdx p < (l.drop a).length := by rw [List.length_drop]; unfold nx at hb; omega
    have := List.findIdx_getElem (w := hlt)
    rw [List.getElem_drop] at this
    exact this
theorem First.eq {p : Stp → Bool} {l : List Stp} {a b b' : Nat} (h : First p l a b) (h' : First p l a b') : b = b' := by
  obtain ⟨h1, h2, h3, h4⟩ := h
  obtain ⟨k1, k2, k3, k4⟩ := h'
  rcases Nat.lt_trichotomy b b' with g | g | g
  · have := k3 b (by omega) h1 g
    rw [h4 (by omega)] at this; cases this
  · exact g
  · have := h3 b' (by omega) k1 g
    rw [k4 (by omega)] at this; cases this
def mb (l : List Stp) (j : Nat) : Bool := match l[j]? with | some s => s.1 | none => false
def gs (p : Stp → Bool) (l : List Stp) (a : Nat) : Option Nat := if nx p l a < l.length then some (nx p l a + if mb l (nx p l a) then 1 else 0) else none
def onS (l : List Stp) (a c : Nat) : Option Nat := gs (fun s => tk s (c - 97)) l a
def onB (l : List Stp) (w : List Nat) : Bool := (w.foldlM (onS l) 0).isSome
def wiS (s : List Stp) (a : Nat) (st : Stp) : Option Nat := gs (win st) s a
def wiB (f s : List Stp) : Bool := (f.foldlM (wiS s) 0).isSome
/-- a while loop that seeks the first place -/
theorem seek (p : Stp → Bool) (l : List Stp) (t : VS.Env → R Bool) (g : VS.Env → Rs) (E : Nat → VS.Env)
    (ht : ∀ a, a < l.length → ∀ h : a < l.length, t (E a) = .ok (!p l[a])) (ht2 : t (E l.length) = .ok false) (hg : ∀ a, a < l.length → g (E a) = .ok .nx (E (a + 1))) (hl : l.length ≤ 1000) {a : Nat} (ha : a ≤ l.length) :
    whileL t g wN (E a) = .ok .nx (E (nx p l a)) := by
  obtain ⟨c', e, h⟩ := whileL_ex t g (fun m c => ∃ b, c = E b ∧ b + m = l.length ∧ a ≤ b ∧ ∀ j (h : j < l.length), a ≤ j → j < b → p l[j] = false) (fun c => c = E (nx p l a)) (by
    rintro m c ⟨b, rfl, hm, hab, hj⟩
    by_cases hb : b < l.length
    · cases hp : p l[b] with
      | true =>
        refine .inl ⟨by rw [ht b hb hb, hp]; rfl, ?_⟩
        have : First p l a b := ⟨hab, by omega, hj, fun _ => hp⟩
        rw [this.eq (First_nx p l ha)]
      | false =>
        refine .inr ⟨by rw [ht b hb hb, hp]; rfl, m - 1, _, by omega, hg b hb, b + 1, rfl, by omega, by omega, ?_⟩
        intro j h h1 h2
        by_cases e : j = b
        · subst e; exact hp
        · exact hj j h h1 (by omega)
    · have hbl : b = l.length := by omega
      refine .inl ⟨by rw [hbl]; exact ht2, ?_⟩
      have : First p l a b := ⟨hab, by omega, hj, fun h => absurd h hb⟩
      rw [this.eq (First_nx p l ha)]) wN (l.length - a) (E a) (by unfold wN; omega) ⟨a, rfl, by omega, by omega, fun j _ h1 h2 => absurd h2 (by omega)⟩
  rw [e, h]
theorem letter_spec {k : Nat} (hk : k < 3) : Mletter_index [.str [97 + k]] = .ok (.int (k : Int)) := by
  simp -implicitDefEqProofs [Mletter_index, Bletter_index, idx_let hk]
theorem mb_eq {l : List Stp} {j : Nat} (h : j < l.length) : mb l j = l[j].1 := by
  unfold mb; rw [List.getElem?_eq_getElem h]
theorem on_spec (l : List Stp) (w : List Nat) (hl : l.length ≤ 1000) (hw : Wd' 3 w) (hwl : w.length ≤ 1000000) : Mon_ladder [lad l, .str w] = .ok (.bl (onB l w)) := by
  have main := forL_opt 3 (sSeq (sSet 4 (eCall Mletter_index (eCons (eV 3) eNil)))
    (sSeq (whileL (tAnd' (eB (eOp2 (opRel fun i j => decide (i < j)) (eV 2) (eFn (fLen) (eCons (eV 0) eNil)))) (tNot' (eTru (eCall Mtakes (eCons (eOp2 (opIx true) (eV 0) (eV 2)) (eCons (eV 4) eNil))))))
    (sSet 2 (eOp2 (opAdd true true) (eV 2) (eC (.int 1)))) wN)
    (sSeq (sIf (eB (eOp2 (opEq) (eV 2) (eFn (fLen) (eCons (eV 0) eNil))))
    (sRet (eC (.bl false)))
    sNil)
    (sIf (eB (eOp2 (opEq) (eOp2 (opIx true) (eOp2 (opIx true) (eV 0) (eV 2)) (eC (.int 0))) (eC (.str [109, 97, 121, 98, 101]))))
    (sSet 2 (eOp2 (opAdd true true) (eV 2) (eC (.int 1))))
    sNil)))) (fun x : Nat => D.str [x]) (fun a c => a ≤ l.length ∧ ∃ x y, c = [oD (lad l), oD (.str w), oD (.int (a : Nat)), x, y]) (onS l) (.bl false) w 0 [oD (lad l), oD (.str w), oD (.int 0), none, none] ⟨by omega, none, none, rfl⟩ (by
      rintro a c ⟨ha, x, y, rfl⟩ ch hc
      obtain ⟨h1, h2⟩ := hw ch hc
      obtain ⟨k, rfl⟩ : ∃ k, ch = 97 + k := ⟨ch - 97, by omega⟩
      have hk : k < 3 := by omega
      have sk := seek (fun s => tk s k) l (tAnd' (eB (eOp2 (opRel fun i j => decide (i < j)) (eV 2) (eFn (fLen) (eCons (eV 0) eNil)))) (tNot' (eTru (eCall Mtakes (eCons (eOp2 (opIx true) (eV 0) (eV 2)) (eCons (eV 4) eNil))))))
        (sSet 2 (eOp2 (opAdd true true) (eV 2) (eC (.int 1)))) (fun a => [oD (lad l), oD (.str w), oD (.int (a : Nat)), oD (.str [97 + k]), oD (.int (k : Nat))])
        (by intro a h _; simp -implicitDefEqProofs [ladLen, ladIx h, h, takes_spec])
        (by simp -implicitDefEqProofs [ladLen])
        (by intro a h; simp -implicitDefEqProofs) hl ha
      have set4 : Nx (sSet 4 (eCall Mletter_index (eCons (eV 3) eNil))) [oD (lad l), oD (.str w), oD (.int (a : Nat)), oD (.str [97 + k]), y] [oD (lad l), oD (.str w), oD (.int (a : Nat)), oD (.str [97 + k]), oD (.int (k : Nat))] := by
        unfold Nx; simp -implicitDefEqProofs [letter_spec hk]
      have hn := (First_nx (fun s => tk s k) l ha).2.1
      unfold onS gs
      rw [Nat.add_sub_cancel_left]
      generalize nx (fun s => tk s k) l a = b at sk hn ⊢
      by_cases hb : b < l.length
      · rw [if_pos hb]
        have no : Nx (sIf (eB (eOp2 (opEq) (eV 2) (eFn (fLen) (eCons (eV 0) eNil)))) (sRet (eC (.bl false))) sNil) [oD (lad l), oD (.str w), oD (.int (b : Nat)), oD (.str [97 + k]), oD (.int (k : Nat))] [oD (lad l), oD (.str w), oD (.int (b : Nat)), oD (.str [97 + k]), oD (.int (k : Nat))] := by
          refine .no ?_ .nil
          have : (b == l.length) = false := by simp; omega
          simp -implicitDefEqProofs [-opEq_int, ladLen, nat_eq, this]
        rw [mb_eq hb]
        cases hm : l[b].1 with
        | true =>
          refine ⟨_, .seq set4 (.seq sk (.seq no (.yes ?_ (.set (d := .int ((b + 1 : Nat) : Int)) ?_)))), by simp; omega, _, _, rfl⟩
          · simp -implicitDefEqProofs [-opIx_tup, ladIx hb, stD0, eq_maybe, hm]
          · simp -implicitDefEqProofs
        | false =>
          refine ⟨_, .seq set4 (.seq sk (.seq no (.no ?_ .nil))), by simpa using hn, _, _, rfl⟩
          simp -implicitDefEqProofs [-opIx_tup, ladIx hb, stD0, eq_maybe, hm]
      · rw [if_neg hb]
        have hbl : b = l.length := by omega
        refine .seq set4 (.seq sk (.fst (.yes ?_ (.ret ?_))))
        · simp -implicitDefEqProofs [-opEq_int, ladLen, nat_eq, hbl]
        · simp -implicitDefEqProofs)
  have src : eIt true (eV 1) [oD (lad l), oD (.str w), oD (.int 0), none, none] = .ok (w.map fun x => .str [x]) := by
    simp -implicitDefEqProofs [show w.length ≤ 16777216 by omega]
  unfold Mon_ladder Bon_ladder onB
  refine ret_of (.seq (.set (d := .int 0) (by simp -implicitDefEqProofs)) ?_)
  cases e : w.foldlM (onS l) 0 with
  | none =>
    rw [e] at main
    exact .fst (.for src main)
  | some a =>
    rw [e] at main
    obtain ⟨c', main, _⟩ := main
    exact .seq (.for src main) (.ret (by simp -implicitDefEqProofs))
theorem ladder_within_spec (f l : List Stp) (hl : l.length ≤ 1000) : Mladder_within [lad f, lad l] = .ok (.bl (wiB f l)) := by
  have main := forL_opt 3 (sSeq (whileL (tAnd' (eB (eOp2 (opRel fun i j => decide (i < j)) (eV 2) (eFn (fLen) (eCons (eV 1) eNil)))) (tNot' (eTru (eCall Mstep_within (eCons (eV 3) (eCons (eOp2 (opIx true) (eV 1) (eV 2)) eNil))))))
    (sSet 2 (eOp2 (opAdd true true) (eV 2) (eC (.int 1)))) wN)
    (sSeq (sIf (eB (eOp2 (opEq) (eV 2) (eFn (fLen) (eCons (eV 1) eNil))))
    (sRet (eC (.bl false)))
    sNil)
    (sIf (eB (eOp2 (opEq) (eOp2 (opIx true) (eOp2 (opIx true) (eV 1) (eV 2)) (eC (.int 0))) (eC (.str [109, 97, 121, 98, 101]))))
    (sSet 2 (eOp2 (opAdd true true) (eV 2) (eC (.int 1))))
    sNil))) stD (fun a c => a ≤ l.length ∧ ∃ x, c = [oD (lad f), oD (lad l), oD (.int (a : Nat)), x]) (wiS l) (.bl false) f 0 [oD (lad f), oD (lad l), oD (.int 0), none] ⟨by omega, none, rfl⟩ (by
      rintro a c ⟨ha, x, rfl⟩ st hst
      have sk := seek (win st) l (tAnd' (eB (eOp2 (opRel fun i j => decide (i < j)) (eV 2) (eFn (fLen) (eCons (eV 1) eNil)))) (tNot' (eTru (eCall Mstep_within (eCons (eV 3) (eCons (eOp2 (opIx true) (eV 1) (eV 2)) eNil))))))
        (sSet 2 (eOp2 (opAdd true true) (eV 2) (eC (.int 1)))) (fun a => [oD (lad f), oD (lad l), oD (.int (a : Nat)), oD (stD st)])
        (by intro a h _; simp -implicitDefEqProofs [ladLen, ladIx h, h, within_spec])
        (by simp -implicitDefEqProofs [ladLen])
        (by intro a h; simp -implicitDefEqProofs) hl ha
      have hn := (First_nx (win st) l ha).2.1
      unfold wiS gs
      generalize nx (win st) l a = b at sk hn ⊢
      by_cases hb : b < l.length
      · rw [if_pos hb]
        have no : Nx (sIf (eB (eOp2 (opEq) (eV 2) (eFn (fLen) (eCons (eV 1) eNil)))) (sRet (eC (.bl false))) sNil) [oD (lad f), oD (lad l), oD (.int (b : Nat)), oD (stD st)] [oD (lad f), oD (lad l), oD (.int (b : Nat)), oD (stD st)] := by
          refine .no ?_ .nil
          have : (b == l.length) = false := by simp; omega
          simp -implicitDefEqProofs [-opEq_int, ladLen, nat_eq, this]
        rw [mb_eq hb]
        cases hm : l[b].1 with
        | true =>
          refine ⟨_, .seq sk (.seq no (.yes ?_ (.set (d := .int ((b + 1 : Nat) : Int)) ?_))), by simp; omega, _, rfl⟩
          · simp -implicitDefEqProofs [-opIx_tup, ladIx hb, stD0, eq_maybe, hm]
          · simp -implicitDefEqProofs
        | false =>
          refine ⟨_, .seq sk (.seq no (.no ?_ .nil)), by simpa using hn, _, rfl⟩
          simp -implicitDefEqProofs [-opIx_tup, ladIx hb, stD0, eq_maybe, hm]
      · rw [if_neg hb]
        have hbl : b = l.length := by omega
        refine .seq sk (.fst (.yes ?_ (.ret ?_)))
        · simp -implicitDefEqProofs [-opEq_int, ladLen, nat_eq, hbl]
        · simp -implicitDefEqProofs)
  have src : eIt true (eV 0) [oD (lad f), oD (lad l), oD (.int 0), none] = .ok (f.map stD) := by
    simp -implicitDefEqProofs [lad]
  unfold Mladder_within Bladder_within wiB
  refine ret_of (.seq (.set (d := .int 0) (by simp -implicitDefEqProofs)) ?_)
  cases e : f.foldlM (wiS l) 0 with
  | none =>
    rw [e] at main
    exact .fst (.for src main)
  | some a =>
    rw [e] at main
    obtain ⟨c', main, _⟩ := main
    exact .seq (.for src main) (.ret (by simp -implicitDefEqProofs))
end GW

namespace GW
open PySem PySem.Spec PyProof.Rows L2 VS
/-! the law's own walk over sets of places -/
theorem nodup_len : ∀ (m : Nat) (l : List Nat), l.Nodup → (∀ x ∈ l, x < m) → l.length ≤ m
  | 0, l, _, h => by
    cases l with
    | nil => simp
    | cons a l => exact absurd (h a List.mem_cons_self) (by omega)
  | m + 1, l, hn, h => by
    have h1 : (l.erase m).length ≤ m := nodup_len m (l.erase m) (hn.erase m) (by
      intro x hx
      have := (hn.mem_erase_iff).mp hx
      have := h x this.2
      omega)
    have := List.length_erase (a := m) (l := l)
    split at this <;> omega
/-- the places that may follow -/
def hop (l : List Stp) (k : Nat) (a x : Nat) : Prop := ∃ j, a ≤ j ∧ ∃ h : j < l.length, tk l[j] k = true ∧ x = j + if l[j].1 then 1 else 0
abbrev bodyN : VS.Env → Rs := (sIf (eTru (eCall MLtakes (eCons (eOp2 (opIx true) (eV 0) (eV 6)) (eCons (eMS fSIndex (eC (.str [97, 98, 99])) (eCons (eV 3) eNil)) eNil))))
    (sSeq (sSet 7 (eOp2 (opAdd true true) (eV 6) (eFn (fInt) (eCons (eOp2 (opEq) (eOp2 (opIx true) (eOp2 (opIx true) (eV 0) (eV 6)) (eC (.int 0))) (eC (.str [109, 97, 121, 98, 101]))) eNil))))
    (sIf (eB (eOp2 (opNotInS) (eV 7) (eL 4)))
    (sApp 4 (eV 7))
    sNil))
    sNil)
abbrev oN (f : List Nat) : Option O := some (.lst (f.map fun x => .v (ni x)))
theorem notin_spec (x : Nat) (f : List Nat) : opNotInS (ni x) (.lst (f.map ni)) = some (.bl (!f.contains x)) := by
  have e : ((f.map ni).any fun z => D.eqv z (ni x)) = f.contains x := by
    rw [List.any_map]
    induction f with
    | nil => rfl
    | cons a f ih =>
      rw [List.any_cons, ih, List.contains_cons]
      simp only [Function.comp_def, eqv_int]
      congr 1
      rw [Bool.eq_iff_iff, beq_iff_eq, beq_iff_eq]
      omega
  unfold opNotInS
  rw [inS, if_pos (by rw [pln_int, pln_lst, plns_all]; simp), ← e]
  rfl
/-- one place looked at -/
theorem turnN {l : List Stp} (hl : l.length ≤ 1000) (w e5 : D) {k : Nat} (hk : k < 3) {j : Nat} (hj : j < l.length) {f : List Nat} (hn : f.Nodup) (hf : ∀ x ∈ f, x ≤ l.length) (e2 x7 : Option O) :
    ∃ f' x7', Nx bodyN [oD (lad l), oD w, e2, oD (.str [97 + k]), oN f, oD e5, oD (ni j), x7] [oD (lad l), oD w, e2, oD (.str [97 + k]), oN f', oD e5, oD (ni j), x7'] ∧ f'.Nodup ∧ (∀ x ∈ f', x ≤ l.length) ∧
      ∀ x, x ∈ f' ↔ x ∈ f ∨ (tk l[j] k = true ∧ x = j + if l[j].1 then 1 else 0) := by
  have ts := (takes_spec l[j] k).2
  cases ht : tk l[j] k with
  | false =>
    rw [ht] at ts
    exact ⟨f, x7, .no (by simp -implicitDefEqProofs [-opIx_tup, ladIx hj, idx_let hk, ts]) .nil, hn, hf, fun x => by simp⟩
  | true =>
    rw [ht] at ts
    have t1 : eTru (eCall MLtakes (eCons (eOp2 (opIx true) (eV 0) (eV 6)) (eCons (eMS fSIndex (eC (.str [97, 98, 99])) (eCons (eV 3) eNil)) eNil))) [oD (lad l), oD w, e2, oD (.str [97 + k]), oN f, oD e5, oD (ni j), x7] = .ok true := by
      simp -implicitDefEqProofs [-opIx_tup, ladIx hj, idx_let hk, ts]
    obtain ⟨b, hb⟩ : ∃ b : Nat, b = j + if l[j].1 then 1 else 0 := ⟨_, rfl⟩
    have hbl : b ≤ l.length := by rw [hb]; split <;> omega
    have s7 : Nx (sSet 7 (eOp2 (opAdd true true) (eV 6) (eFn (fInt) (eCons (eOp2 (opEq) (eOp2 (opIx true) (eOp2 (opIx true) (eV 0) (eV 6)) (eC (.int 0))) (eC (.str [109, 97, 121, 98, 101]))) eNil)))) [oD (lad l), oD w, e2, oD (.str [97 + k]), oN f, oD e5, oD (ni j), x7] [oD (lad l), oD w, e2, oD (.str [97 + k]), oN f, oD e5, oD (ni j), oD (ni b)] := by
      refine (Nx.set (d := ni b) ?_).to rfl
      rw [hb]
      cases hm : l[j].1 <;> simp -implicitDefEqProofs [-opIx_tup, ladIx hj, stD0, eq_maybe, hm]
    have ni := notin_spec b f
    have fl : f.length ≤ l.length + 1 := nodup_len (l.length + 1) f hn fun x hx => by have := hf x hx; omega
    rw [← hb]
    cases hc : f.contains b with
    | true =>
      rw [hc] at ni
      refine ⟨f, _, .yes t1 (.seq s7 (.no ?_ .nil)), hn, hf, fun x => ?_⟩
      · simp -implicitDefEqProofs [Function.comp_def, ni]
      · have : b ∈ f := by simpa using hc
        constructor
        · exact .inl
        · rintro (h | ⟨_, rfl⟩)
          · exact h
          · exact this
    | false =>
      rw [hc] at ni
      have nb : b ∉ f := by simpa using hc
      refine ⟨f ++ [b], oD (GW.ni b), .yes t1 (.seq s7 (.yes ?_ ?_)), ?_, ?_, fun x => ?_⟩
      · simp -implicitDefEqProofs [Function.comp_def, ni]
      · unfold Nx
        simp -implicitDefEqProofs [show f.length < 16777216 by omega]
      · rw [List.nodup_append]
        exact ⟨hn, by simp, by intro a ha b' hb' e; simp at hb'; subst hb'; subst e; exact nb ha⟩
      · intro x hx
        rcases List.mem_append.mp hx with hx | hx
        · exact hf x hx
        · rw [List.mem_singleton.mp hx]; exact hbl
      · simp
/-- a range from a to the end of the ladder -/
theorem rangeN {l : List Stp} (hl : l.length ≤ 1000) (w : D) {k : Nat} (hk : k < 3) {a : Nat} (ha : a ≤ l.length) {f : List Nat} (hn : f.Nodup) (hf : ∀ x ∈ f, x ≤ l.length) (e2 x6 x7 : Option O) :
    ∃ f' x6' x7', Nx (sFor 6 (eItR (eV 5) (eFn (fLen) (eCons (eV 0) eNil))) bodyN) [oD (lad l), oD w, e2, oD (.str [97 + k]), oN f, oD (ni a), x6, x7] [oD (lad l), oD w, e2, oD (.str [97 + k]), oN f', oD (ni a), x6', x7'] ∧ f'.Nodup ∧ (∀ x ∈ f', x ≤ l.length) ∧
      ∀ x, x ∈ f' ↔ x ∈ f ∨ hop l k a x := by
  have er : rangeD a l.length = (List.range (l.length - a)).map fun i => ni (a + i) := by
    unfold rangeD
    rw [show ((l.length : Int) - a).toNat = l.length - a by omega]
    congr 1
  obtain ⟨c', e, f', x6', x7', rfl, h1, h2, h3⟩ := forL_ex 6 bodyN (fun m c => ∃ f' x6' x7', c = [oD (lad l), oD w, e2, oD (.str [97 + k]), oN f', oD (ni a), x6', x7'] ∧ f'.Nodup ∧ (∀ x ∈ f', x ≤ l.length) ∧
      ∀ x, x ∈ f' ↔ x ∈ f ∨ ∃ j, a ≤ j ∧ j < a + m ∧ ∃ h : j < l.length, tk l[j] k = true ∧ x = j + if l[j].1 then 1 else 0)
    ((List.range (l.length - a)).map fun i => ni (a + i)) [oD (lad l), oD w, e2, oD (.str [97 + k]), oN f, oD (ni a), x6, x7] (by
      rintro m d c hd ⟨f1, y6, y7, rfl, h1, h2, h3⟩
      rw [List.getElem?_map] at hd
      obtain ⟨i, hi, rfl⟩ := Option.map_eq_some_iff.mp hd
      obtain ⟨hm, rfl⟩ := List.getElem?_eq_some_iff.mp hi
      rw [List.length_range] at hm
      rw [List.getElem_range]
      obtain ⟨f2, z7, E, g1, g2, g3⟩ := turnN hl w (ni a) hk (j := a + m) (by omega) h1 h2 e2 y7
      refine ⟨_, E, f2, _, _, rfl, g1, g2, fun x => ?_⟩
      rw [g3, h3]
      constructor
      · rintro ((h | ⟨j, h1, h2, h3⟩) | h)
        · exact .inl h
        · exact .inr ⟨j, h1, by omega, h3⟩
        · exact .inr ⟨a + m, by omega, by omega, by omega, h⟩
      · rintro (h | ⟨j, h1, h2, h3, h4⟩)
        · exact .inl (.inl h)
        · by_cases hj : j = a + m
          · subst hj; exact .inr h4
          · exact .inl (.inr ⟨j, h1, by omega, h3, h4⟩))
    ⟨f, x6, x7, rfl, hn, hf, fun x => ⟨.inl, fun h => h.elim id fun ⟨j, h1, h2, _⟩ => absurd h2 (by omega)⟩⟩
  refine ⟨f', x6', x7', .for ?_ e, h1, h2, fun x => ?_⟩
  · rw [← er]
    simp -implicitDefEqProofs [ladLen, asI_small (i := (a : Int)) (by omega) (by omega), asI_small (i := (l.length : Int)) (by omega) (by omega)]
  · rw [h3]
    constructor
    · rintro (h | ⟨j, h1, h2, h3, h4⟩)
      · exact .inl h
      · exact .inr ⟨j, h1, h3, h4⟩
    · rintro (h | ⟨j, h1, h3, h4⟩)
      · exact .inl h
      · exact .inr ⟨j, h1, by simp; omega, h3, h4⟩
/-- all the places of a letter -/
theorem endsN {l : List Stp} (hl : l.length ≤ 1000) (w : D) {k : Nat} (hk : k < 3) (ends : List Nat) (he : ∀ x ∈ ends, x ≤ l.length) (x5 x6 x7 : Option O) :
    ∃ f' x5' x6' x7', Nx (sFor 5 (eIt true (eV 2)) (sFor 6 (eItR (eV 5) (eFn (fLen) (eCons (eV 0) eNil))) bodyN)) [oD (lad l), oD w, oD (.lst (ends.map ni)), oD (.str [97 + k]), oN [], x5, x6, x7] [oD (lad l), oD w, oD (.lst (ends.map ni)), oD (.str [97 + k]), oN f', x5', x6', x7'] ∧ f'.Nodup ∧ (∀ x ∈ f', x ≤ l.length) ∧
      ∀ x, x ∈ f' ↔ ∃ a ∈ ends, hop l k a x := by
  obtain ⟨c', e, f', x5', x6', x7', rfl, h1, h2, h3⟩ := forL_ex 5 (sFor 6 (eItR (eV 5) (eFn (fLen) (eCons (eV 0) eNil))) bodyN) (fun m c => ∃ f' x5' x6' x7', c = [oD (lad l), oD w, oD (.lst (ends.map ni)), oD (.str [97 + k]), oN f', x5', x6', x7'] ∧ f'.Nodup ∧ (∀ x ∈ f', x ≤ l.length) ∧
      ∀ x, x ∈ f' ↔ ∃ a ∈ ends.take m, hop l k a x)
    (ends.map ni) [oD (lad l), oD w, oD (.lst (ends.map ni)), oD (.str [97 + k]), oN [], x5, x6, x7] (by
      rintro m d c hd ⟨f1, y5, y6, y7, rfl, h1, h2, h3⟩
      rw [List.getElem?_map] at hd
      obtain ⟨a, ha, rfl⟩ := Option.map_eq_some_iff.mp hd
      obtain ⟨hm, rfl⟩ := List.getElem?_eq_some_iff.mp ha
      obtain ⟨f2, z6, z7, E, g1, g2, g3⟩ := rangeN hl w hk (he _ (List.getElem_mem hm)) h1 h2 (oD (.lst (ends.map ni))) y6 y7
      refine ⟨_, E, f2, _, _, _, rfl, g1, g2, fun x => ?_⟩
      rw [g3, h3, List.take_succ_eq_append_getElem hm]
      constructor
      · rintro (⟨b, hb, h⟩ | h)
        · exact ⟨b, List.mem_append_left _ hb, h⟩
        · exact ⟨_, List.mem_append_right _ (List.mem_singleton.mpr rfl), h⟩
      · rintro ⟨b, hb, h⟩
        rcases List.mem_append.mp hb with hb | hb
        · exact .inl ⟨b, hb, h⟩
        · rw [List.mem_singleton.mp hb] at h; exact .inr h)
    ⟨[], x5, x6, x7, rfl, List.nodup_nil, by simp, by simp⟩
  rw [List.length_map, List.take_length] at h3
  exact ⟨f', x5', x6', x7', .for (by simp -implicitDefEqProofs) e, h1, h2, h3⟩
/-- what the set of places and the greedy place are to each other -/
def Rel (l : List Stp) (ends : List Nat) : Option Nat → Prop
  | none => ends = []
  | some a => a ∈ ends ∧ ∀ x ∈ ends, a ≤ x
theorem rel_step {l : List Stp} {ends f : List Nat} {k : Nat} {o : Option Nat} (h : Rel l ends o) (he : ∀ x ∈ ends, x ≤ l.length) (hf : ∀ x, x ∈ f ↔ ∃ a ∈ ends, hop l k a x) : Rel l f (o.bind fun a => onS l a (97 + k)) := by
  cases o with
  | none =>
    have : ends = [] := h
    subst this
    show f = []
    refine List.eq_nil_iff_forall_not_mem.mpr fun x hx => ?_
    obtain ⟨a, ha, _⟩ := (hf x).mp hx
    exact nomatch ha
  | some a =>
    obtain ⟨h1, h2⟩ := h
    show Rel l f (onS l a (97 + k))
    have F := First_nx (fun s => tk s k) l (he a h1)
    unfold onS gs
    rw [Nat.add_sub_cancel_left]
    generalize nx (fun s => tk s k) l a = b at F ⊢
    obtain ⟨f1, f2, f3, f4⟩ := F
    by_cases hb : b < l.length
    · rw [if_pos hb, mb_eq hb]
      refine ⟨(hf _).mpr ⟨a, h1, b, f1, hb, f4 hb, rfl⟩, fun x hx => ?_⟩
      obtain ⟨a', ha', j, g1, g2, g3, rfl⟩ := (hf x).mp hx
      have := h2 a' ha'
      have hjb : ¬ j < b := fun hlt => by have := f3 j g2 (by omega) hlt; simp only [g3] at this; cases this
      by_cases e : j = b
      · subst e; omega
      · split <;> split <;> omega
    · rw [if_neg hb]
      refine List.eq_nil_iff_forall_not_mem.mpr fun x hx => ?_
      obtain ⟨a', ha', j, g1, g2, g3, rfl⟩ := (hf x).mp hx
      have := h2 a' ha'
      have := f3 j g2 (by omega) (by omega)
      simp only [g3] at this
      cases this
theorem Lon_spec (l : List Stp) (w : List Nat) (hl : l.length ≤ 1000) (hw : Wd' 3 w) (hwl : w.length ≤ 1000000) : MLon [lad l, .str w] = .ok (.bl (onB l w)) := by
  obtain ⟨c', e, ends, x4, x3, x5, x6, x7, rfl, h1, h2⟩ := forL_ex 3 (sSeq (sSetO 4 (eFnO fLstO eNil))
    (sSeq (sFor 5 (eIt true (eV 2)) (sFor 6 (eItR (eV 5) (eFn (fLen) (eCons (eV 0) eNil))) bodyN)) (sFz 4 (sSet 2 (eV 4)))))
    (fun m c => ∃ ends x4 x3 x5 x6 x7, c = [oD (lad l), oD (.str w), oD (.lst (ends.map ni)), x3, x4, x5, x6, x7] ∧ (∀ x ∈ ends, x ≤ l.length) ∧ Rel l ends ((w.take m).foldlM (onS l) 0)) (w.map fun x => .str [x])
    [oD (lad l), oD (.str w), oD (.lst [ni 0]), none, none, none, none, none] (by
      rintro m d c hd ⟨ends, x4, x3, x5, x6, x7, rfl, h1, h2⟩
      rw [List.getElem?_map] at hd
      obtain ⟨a, ha, rfl⟩ := Option.map_eq_some_iff.mp hd
      obtain ⟨hm, rfl⟩ := List.getElem?_eq_some_iff.mp ha
      obtain ⟨k1, k2⟩ := hw _ (List.getElem_mem hm)
      obtain ⟨k, hk⟩ : ∃ k, w[m] = 97 + k := ⟨w[m] - 97, by omega⟩
      obtain ⟨f, y5, y6, y7, E, g1, g2, g3⟩ := endsN hl (.str w) (k := k) (by omega) ends h1 x5 x6 x7
      rw [List.take_succ_eq_append_getElem hm, List.foldlM_append, hk]
      refine ⟨_, Nx.seq (.setO (d := .lst []) (by simp -implicitDefEqProofs)) (.seq E (.fz ((Nx.set (d := .lst (f.map ni)) ?_).to rfl))), f, _, _, _, _, _, rfl, g2, ?_⟩
      · simp -implicitDefEqProofs [Function.comp_def]
      · have := rel_step h2 h1 g3
        cases hq : (w.take m).foldlM (onS l) 0 with
        | none => rw [hq] at this; exact this
        | some q =>
          rw [hq] at this
          show Rel l f ([97 + k].foldlM (onS l) q)
          rw [List.foldlM_cons]
          have e2 : (Option.some q).bind (fun a => onS l a (97 + k)) = onS l q (97 + k) := rfl
          rw [e2] at this
          cases hz : onS l q (97 + k) with
          | none => rw [hz] at this; exact this
          | some z => rw [hz] at this; exact this)
    ⟨[0], none, none, none, none, none, rfl, by simp, by simp [Rel]⟩
  rw [List.length_map, List.take_length] at h2
  unfold MLon BLon onB
  refine ret_of (.seq (.set (d := .lst [ni 0]) (by simp -implicitDefEqProofs)) (.seq (.for (ds := w.map fun x => .str [x]) ?_ e) (.ret ?_)))
  · simp -implicitDefEqProofs [show w.length ≤ 16777216 by omega]
  · cases hq : w.foldlM (onS l) 0 with
    | none =>
      rw [hq] at h2
      have : ends = [] := h2
      subst this
      simp -implicitDefEqProofs
    | some q =>
      rw [hq] at h2
      have : 0 < ends.length := List.length_pos_of_mem h2.1
      simp -implicitDefEqProofs [this]
end GW

namespace GW
open PySem PySem.Spec PyProof.Rows L2 VS
/-! a telling word -/
def lts (v : Nat) : List Nat := ((List.range 3).filter fun i => v.testBit i).map fun i => 97 + i
def wrd (m : Nat) (st : Stp) : List Nat := if st.1 then [97 + st.2] else (List.replicate m (lts st.2)).flatten
def tel (f : List Stp) (m : Nat) : List Nat := f.flatMap (wrd m)
theorem lts_mem {v c : Nat} (h : c ∈ lts v) : ∃ i, c = 97 + i ∧ i < 3 ∧ v.testBit i = true := by
  obtain ⟨i, hi, rfl⟩ := List.mem_map.mp h
  have := List.mem_filter.mp hi
  exact ⟨i, rfl, List.mem_range.mp this.1, this.2⟩
theorem lts_in {v i : Nat} (h : i < 3) (k : v.testBit i = true) : 97 + i ∈ lts v := List.mem_map.mpr ⟨i, List.mem_filter.mpr ⟨List.mem_range.mpr h, k⟩, rfl⟩
theorem lts_ne {v : Nat} (h1 : 1 ≤ v) (h2 : v < 8) : lts v ≠ [] := by
  have : v = 1 ∨ v = 2 ∨ v = 3 ∨ v = 4 ∨ v = 5 ∨ v = 6 ∨ v = 7 := by omega
  rcases this with rfl | rfl | rfl | rfl | rfl | rfl | rfl <;> decide
theorem sub_bits {v T : Nat} (hv : v < 8) (h : ∀ i, i < 3 → v.testBit i = true → T.testBit i = true) : v &&& T = v := by
  apply Nat.eq_of_testBit_eq
  intro i
  rw [Nat.testBit_and]
  by_cases hi : i < 3
  · cases e : v.testBit i with
    | false => rfl
    | true => rw [h i hi e]; rfl
  · have : v.testBit i = false := Nat.testBit_lt_two_pow (Nat.lt_of_lt_of_le hv (Nat.pow_le_pow_right (n := 2) (by omega) (show 3 ≤ i by omega)))
    rw [this]; rfl
theorem bits_sub {v T i : Nat} (h : v &&& T = v) (k : v.testBit i = true) : T.testBit i = true := by
  have := congrArg (fun x => x.testBit i) h
  simp only [Nat.testBit_and, k, Bool.true_and] at this
  exact this
section
variable {s : List Stp}
theorem onS_some {a c b : Nat} (ha : a ≤ s.length) (h : onS s a c = some b) : a ≤ b ∧ b ≤ s.length := by
  unfold onS gs at h
  have F := First_nx (fun s => tk s (c - 97)) s ha
  generalize nx (fun s => tk s (c - 97)) s a = x at F h
  obtain ⟨f1, f2, _⟩ := F
  split at h
  · cases h
    split <;> omega
  · cases h
theorem onS_le {a j i : Nat} (ha : a ≤ j) (hj : j < s.length) (hm : s[j].1 = false) (ht : tk s[j] i = true) : ∃ b, onS s a (97 + i) = some b ∧ a ≤ b ∧ b ≤ j := by
  have F := First_nx (fun s => tk s i) s (a := a) (by omega)
  unfold onS gs
  rw [Nat.add_sub_cancel_left]
  generalize nx (fun s => tk s i) s a = x at F ⊢
  obtain ⟨f1, f2, f3, f4⟩ := F
  have hx : x ≤ j := by
    apply Nat.le_of_not_lt
    intro hlt
    have := f3 j hj ha hlt
    simp only [ht] at this
    cases this
  rw [if_pos (by omega), mb_eq (by omega)]
  refine ⟨_, rfl, by omega, ?_⟩
  by_cases e : x = j
  · subst e; rw [hm]; simp
  · split <;> omega
theorem onS_stay {a c : Nat} (ha : a ≤ s.length) (h : onS s a c = some a) : ∃ hl : a < s.length, s[a].1 = false ∧ tk s[a] (c - 97) = true := by
  unfold onS gs at h
  have F := First_nx (fun s => tk s (c - 97)) s ha
  generalize nx (fun s => tk s (c - 97)) s a = x at F h
  obtain ⟨f1, f2, f3, f4⟩ := F
  by_cases hx : x < s.length
  · rw [if_pos hx, mb_eq hx] at h
    have h := Option.some.inj h
    cases hm : s[x].1 with
    | true => rw [hm] at h; simp at h; omega
    | false =>
      rw [hm] at h
      simp at h
      subst h
      exact ⟨hx, hm, f4 hx⟩
  · rw [if_neg hx] at h; cases h
theorem fold_some : ∀ (W : List Nat) {a b : Nat}, a ≤ s.length → W.foldlM (onS s) a = some b → a ≤ b ∧ b ≤ s.length
  | [], a, b, ha, h => by cases h; omega
  | c :: W, a, b, ha, h => by
    rw [List.foldlM_cons] at h
    cases e : onS s a c with
    | none => rw [e] at h; cases h
    | some x =>
      rw [e] at h
      have h1 := onS_some ha e
      have h2 := fold_some W h1.2 h
      omega
theorem fold_le {j : Nat} (hj : j < s.length) (hm : s[j].1 = false) : ∀ (W : List Nat) {a : Nat}, (∀ c ∈ W, ∃ i, c = 97 + i ∧ tk s[j] i = true) → a ≤ j → ∃ b, W.foldlM (onS s) a = some b ∧ a ≤ b ∧ b ≤ j
  | [], a, _, ha => ⟨a, rfl, by omega, ha⟩
  | c :: W, a, hW, ha => by
    obtain ⟨i, rfl, ht⟩ := hW c List.mem_cons_self
    obtain ⟨x, e, h1, h2⟩ := onS_le ha hj hm ht
    obtain ⟨b, e2, h3, h4⟩ := fold_le hj hm W (fun c hc => hW c (List.mem_cons_of_mem _ hc)) h2
    refine ⟨b, ?_, by omega, h4⟩
    rw [List.foldlM_cons, e]
    exact e2
theorem fold_stay : ∀ (W : List Nat) {a : Nat}, a ≤ s.length → W.foldlM (onS s) a = some a → ∀ c ∈ W, onS s a c = some a
  | [], a, _, _ => fun c hc => nomatch hc
  | c :: W, a, ha, h => by
    rw [List.foldlM_cons] at h
    cases e : onS s a c with
    | none => rw [e] at h; cases h
    | some x =>
      rw [e] at h
      have h1 := onS_some ha e
      have h2 := fold_some W h1.2 h
      have : x = a := by omega
      subst this
      intro d hd
      rcases List.mem_cons.mp hd with rfl | hd
      · exact e
      · exact fold_stay W ha h d hd
/-- one round of all the letters: it stays only where the step is taken whole -/
theorem round_stay {v a : Nat} (h1 : 1 ≤ v) (h2 : v < 8) (ha : a ≤ s.length) (h : (lts v).foldlM (onS s) a = some a) : ∃ hl : a < s.length, win (false, v) s[a] = true := by
  have k := fold_stay (lts v) ha h
  obtain ⟨c, hc⟩ := List.exists_mem_of_ne_nil _ (lts_ne h1 h2)
  obtain ⟨hl, hm, _⟩ := onS_stay ha (k c hc)
  refine ⟨hl, ?_⟩
  simp only [win, hm]
  have : v &&& s[a].2 = v := by
    apply sub_bits h2
    intro i hi hb
    obtain ⟨_, _, ht⟩ := onS_stay ha (k _ (lts_in hi hb))
    rw [Nat.add_sub_cancel_left] at ht
    simpa [tk, hm] using ht
  simpa using this
theorem win_any {v : Nat} {o : Stp} (h : win (false, v) o = true) : o.1 = false ∧ ∀ c ∈ lts v, ∃ i, c = 97 + i ∧ tk o i = true := by
  simp only [win] at h
  rw [if_neg (by simp), Bool.and_eq_true] at h
  have hm : o.1 = false := by simpa using h.1
  refine ⟨hm, fun c hc => ?_⟩
  obtain ⟨i, rfl, _, hb⟩ := lts_mem hc
  refine ⟨i, rfl, ?_⟩
  simp only [tk, hm]
  have : v &&& o.2 = v := by simpa using h.2
  simpa using bits_sub this hb
theorem rep_none {v : Nat} (h1 : 1 ≤ v) (h2 : v < 8) : ∀ (m a : Nat), a ≤ s.length → s.length < m + a → (∀ j (h : j < s.length), a ≤ j → win (false, v) s[j] = false) → (List.replicate m (lts v)).flatten.foldlM (onS s) a = none
  | 0, a, ha, hm, _ => absurd hm (by omega)
  | m + 1, a, ha, hm, hn => by
    rw [List.replicate_succ, List.flatten_cons, List.foldlM_append]
    cases e : (lts v).foldlM (onS s) a with
    | none => rfl
    | some b =>
      have hb := fold_some (lts v) ha e
      by_cases hab : b = a
      · subst hab
        obtain ⟨hl, hw⟩ := round_stay h1 h2 ha e
        rw [hn b hl (by omega)] at hw
        cases hw
      · exact rep_none h1 h2 m b hb.2 (by omega) fun j h k => hn j h (by omega)
theorem rep_at {v j : Nat} (hj : j < s.length) (hw : win (false, v) s[j] = true) : ∀ m, (List.replicate m (lts v)).flatten.foldlM (onS s) j = some j
  | 0 => rfl
  | m + 1 => by
    obtain ⟨hm, hc⟩ := win_any hw
    obtain ⟨b, e, h1, h2⟩ := fold_le hj hm (lts v) hc (Nat.le_refl j)
    have : b = j := by omega
    subst this
    rw [List.replicate_succ, List.flatten_cons, List.foldlM_append, e]
    exact rep_at hj hw m
theorem rep_some {v j : Nat} (h1 : 1 ≤ v) (h2 : v < 8) (hj : j < s.length) (hw : win (false, v) s[j] = true) : ∀ (m a : Nat), a ≤ j → j < m + a → (∀ i (h : i < s.length), a ≤ i → i < j → win (false, v) s[i] = false) → (List.replicate m (lts v)).flatten.foldlM (onS s) a = some j
  | 0, a, ha, hm, _ => absurd hm (by omega)
  | m + 1, a, ha, hm, hn => by
    by_cases haj : a = j
    · subst haj; exact rep_at hj hw (m + 1)
    · obtain ⟨hmj, hc⟩ := win_any hw
      obtain ⟨b, e, g1, g2⟩ := fold_le hj hmj (lts v) hc ha
      rw [List.replicate_succ, List.flatten_cons, List.foldlM_append, e]
      by_cases hab : b = a
      · subst hab
        obtain ⟨hl, hw'⟩ := round_stay h1 h2 (by omega) e
        rw [hn b hl (by omega) (by omega)] at hw'
        cases hw'
      · exact rep_some h1 h2 hj hw m b g2 (by omega) fun i h k => hn i h (by omega)
theorem step_tel {st : Stp} (hs : Sok st) {m a : Nat} (hm : s.length < m) (ha : a ≤ s.length) : (wrd m st).foldlM (onS s) a = wiS s a st := by
  obtain ⟨b, v⟩ := st
  cases b with
  | true =>
    show [97 + v].foldlM (onS s) a = gs (win (true, v)) s a
    rw [List.foldlM_cons]
    have : onS s a (97 + v) = gs (win (true, v)) s a := by
      unfold onS
      rw [Nat.add_sub_cancel_left]
      rfl
    rw [this]
    cases gs (win (true, v)) s a <;> rfl
  | false =>
    obtain ⟨h1, h2⟩ := hs.2 rfl
    show (List.replicate m (lts v)).flatten.foldlM (onS s) a = gs (win (false, v)) s a
    have F := First_nx (win (false, v)) s ha
    unfold gs
    generalize nx (win (false, v)) s a = j at F ⊢
    obtain ⟨f1, f2, f3, f4⟩ := F
    by_cases hj : j < s.length
    · rw [if_pos hj, mb_eq hj, (win_any (f4 hj)).1]
      simpa using rep_some h1 h2 hj (f4 hj) m a f1 (by omega) fun i h k1 k2 => f3 i h k1 k2
    · rw [if_neg hj]
      exact rep_none h1 h2 m a ha (by omega) fun i h k => f3 i h k (by omega)
theorem wiS_some {a b : Nat} {st : Stp} (ha : a ≤ s.length) (h : wiS s a st = some b) : b ≤ s.length := by
  unfold wiS gs at h
  split at h
  · cases h; split <;> omega
  · cases h
theorem tel_fold {m : Nat} (hm : s.length < m) : ∀ (f : List Stp) (a : Nat), (∀ st ∈ f, Sok st) → a ≤ s.length → (tel f m).foldlM (onS s) a = f.foldlM (wiS s) a
  | [], a, _, _ => rfl
  | st :: f, a, h, ha => by
    unfold tel
    rw [List.flatMap_cons, List.foldlM_append, step_tel (h st List.mem_cons_self) hm ha, List.foldlM_cons]
    cases e : wiS s a st with
    | none => rfl
    | some b => exact tel_fold hm f b (fun x hx => h x (List.mem_cons_of_mem _ hx)) (wiS_some ha e)
theorem tel_on {m : Nat} (hm : s.length < m) (f : List Stp) (h : ∀ st ∈ f, Sok st) : onB s (tel f m) = wiB f s := by
  unfold onB wiB
  rw [tel_fold hm f 0 h (by omega)]
theorem wrd_mem {m : Nat} {st : Stp} (h : Sok st) : Wd' 3 (wrd m st) := by
  intro c hc
  unfold wrd at hc
  split at hc
  · rename_i e
    rw [List.mem_singleton.mp hc]
    have := h.1 e
    omega
  · obtain ⟨l, hl, hc⟩ := List.mem_flatten.mp hc
    rw [(List.mem_replicate.mp hl).2] at hc
    obtain ⟨i, rfl, hi, _⟩ := lts_mem hc
    omega
theorem tel_mem {m : Nat} {f : List Stp} (h : ∀ st ∈ f, Sok st) : Wd' 3 (tel f m) := by
  intro c hc
  obtain ⟨st, hs, hc⟩ := List.mem_flatMap.mp hc
  exact wrd_mem (h st hs) c hc
theorem lts_len (v : Nat) : (lts v).length ≤ 3 := by
  unfold lts
  rw [List.length_map]
  have := List.length_filter_le (fun i => v.testBit i) (List.range 3)
  simpa using this
theorem wrd_len {m : Nat} (hm : 1 ≤ m) (st : Stp) : (wrd m st).length ≤ 3 * m := by
  unfold wrd
  split
  · simp; omega
  · rw [List.length_flatten, List.map_replicate, List.sum_replicate_nat]
    have := lts_len st.2
    have := Nat.mul_le_mul_left m this
    omega
theorem tel_len {m : Nat} (hm : 1 ≤ m) : ∀ (f : List Stp), (tel f m).length ≤ f.length * (3 * m)
  | [] => by simp [tel]
  | st :: f => by
    unfold tel
    rw [List.flatMap_cons, List.length_append, List.length_cons, Nat.succ_mul]
    have := wrd_len hm st
    have := tel_len hm f
    unfold tel at this
    omega
end
end GW

namespace GW
open PySem PySem.Spec PyProof.Rows L2 VS
/-! the word told, the ladder drawn -/
theorem opMul_str (l : List Nat) (j : Int) : opMul (.str l) (.int j) = if -(2 ^ 63) ≤ j ∧ j < 2 ^ 63 ∧ l.length * j.toNat ≤ 16777216 then some (.str (List.replicate j.toNat l).flatten) else none := (rfl)
theorem Ltelling_spec (f : List Stp) (m : Nat) (hf : ∀ st ∈ f, Sok st) (hl : f.length ≤ 20) (hm : 1 ≤ m) (hm2 : m ≤ 1000) : MLtelling [lad f, .int m] = .ok (.str (tel f m)) := by
  obtain ⟨c', e, x, y, hc⟩ := forL_ex 3 (sIf (eB (eOp2 (opEq) (eOp2 (opIx true) (eV 3) (eC (.int 0))) (eC (.str [109, 97, 121, 98, 101]))))
    (sSet 2 (eOp2 (opAdd true true) (eV 2) (eOp2 (opIx true) (eC (.str [97, 98, 99])) (eOp2 (opIx true) (eV 3) (eC (.int 1))))))
    (sSet 2 (eOp2 (opAdd true true) (eV 2) (eOp2 (opMul) (eMS fJoin (eC (.str [])) (eCons (eLc (eItR (eC (.int 0)) (eC (.int 3))) (eB (eOp2 (opEq) (eOp2 (opBit Builtin.bitAnd) (eOp2 (opShr) (eOp2 (opIx true) (eV 3) (eC (.int 1))) (eV 4)) (eC (.int 1))) (eC (.int 1)))) (eOp2 (opIx true) (eC (.str [97, 98, 99])) (eV 4)) 4) eNil)) (eV 1)))))
    (fun j c => ∃ x y, c = [oD (lad f), oD (.int m), oD (.str (tel (f.take j) m)), x, y]) (f.map stD) [oD (lad f), oD (.int m), oD (.str []), none, none] (by
      rintro j d c hd ⟨x, y, rfl⟩
      rw [List.getElem?_map] at hd
      obtain ⟨st, ha, rfl⟩ := Option.map_eq_some_iff.mp hd
      obtain ⟨hj, rfl⟩ := List.getElem?_eq_some_iff.mp ha
      have hs := hf _ (List.getElem_mem hj)
      have ht : tel (f.take (j + 1)) m = tel (f.take j) m ++ wrd m f[j] := by
        rw [List.take_succ_eq_append_getElem hj]
        unfold tel
        rw [List.flatMap_append]
        simp
      have hlen : (tel (f.take j) m).length ≤ 60000 := by
        have := tel_len hm (f.take j)
        have h2 : (f.take j).length ≤ 20 := by rw [List.length_take]; omega
        have := Nat.mul_le_mul h2 (Nat.mul_le_mul_left 3 hm2)
        omega
      have hlw := wrd_len hm f[j]
      rw [ht]
      generalize tel (f.take j) m = w at hlen ⊢
      revert hs hlw
      generalize f[j] = st
      intro hs hlw
      obtain ⟨b, v⟩ := st
      cases b with
      | true =>
        have hv := hs.1 rfl
        refine ⟨_, Nx.yes ?_ ((Nx.set (d := .str (w ++ [97 + v])) ?_).to rfl), _, _, rfl⟩
        · simp -implicitDefEqProofs [-opIx_tup, stD0, eq_maybe]
        · simp -implicitDefEqProofs [-opIx_tup, -opIx_str, stD1, abc_at hv, show w.length + 1 ≤ 16777216 by omega]
      | false =>
        have e2 := compL_filterm (eB (eOp2 (opEq) (eOp2 (opBit Builtin.bitAnd) (eOp2 (opShr) (eOp2 (opIx true) (eV 3) (eC (.int 1))) (eV 4)) (eC (.int 1))) (eC (.int 1)))) (eOp2 (opIx true) (eC (.str [97, 98, 99])) (eV 4)) 4
          [oD (lad f), oD (.int m), oD (.str w), oD (stD (false, v)), y] ni (fun i => v.testBit i) (fun i => .str [97 + i]) (List.range 3)
          (by intro i hi; simp -implicitDefEqProofs [-opIx_tup, -opEq_int, stD1, shr_spec, sb_spec, tk_any])
          (by
            intro i hi _
            simp -implicitDefEqProofs [-opIx_str, abc_at (List.mem_range.mp hi)])
        have er : rangeD 0 3 = (List.range 3).map ni := rangeD_nat 3
        have eL : eLc (eItR (eC (.int 0)) (eC (.int 3))) (eB (eOp2 (opEq) (eOp2 (opBit Builtin.bitAnd) (eOp2 (opShr) (eOp2 (opIx true) (eV 3) (eC (.int 1))) (eV 4)) (eC (.int 1))) (eC (.int 1)))) (eOp2 (opIx true) (eC (.str [97, 98, 99])) (eV 4)) 4
            [oD (lad f), oD (.int m), oD (.str w), oD (stD (false, v)), y] = .ok (.lst (((lts v).map fun x => [x]).map .str)) := by
          rw [eLc_def, eLcs_def]
          simp -implicitDefEqProofs only [eItR_def, eC_def, ok_bind, asI_zero, asI_small (i := 3) (by omega) (by omega), lift_some, er]
          rw [e2]
          have hl := lts_len v
          unfold lts at hl ⊢
          rw [List.length_map] at hl
          simp -implicitDefEqProofs only [ok_bind, List.length_map, List.map_map, Function.comp_def]
          rw [if_pos (by omega)]
          rfl
        have hl3 := lts_len v
        have hmul : opMul (.str (lts v)) (.int (m : Nat)) = some (.str (List.replicate m (lts v)).flatten) := by
          have : (lts v).length * m ≤ 3 * m := Nat.mul_le_mul_right _ hl3
          rw [opMul_str, if_pos ⟨by omega, by omega, by rw [Int.toNat_natCast]; omega⟩, Int.toNat_natCast]
        have hrl : (List.replicate m (lts v)).flatten.length ≤ 3 * m := hlw
        refine ⟨_, Nx.no ?_ ((Nx.set (d := .str (w ++ (List.replicate m (lts v)).flatten)) ?_).to rfl), _, _, rfl⟩
        · simp -implicitDefEqProofs [-opIx_tup, stD0, eq_maybe]
        · have hj : fJoin [] [.lst (((lts v).map fun x => [x]).map .str)] = some (.str (lts v)) := by
            rw [fJoin_lst, asSs_strs]
            simp -implicitDefEqProofs only [Option.bind_some]
            rw [if_pos (by simp [Function.comp_def, List.map_const']; omega), joinL_one]
          simp -implicitDefEqProofs only [eOp2_def, eV_def, List.getElem?_cons_zero, List.getElem?_cons_succ, ok_bind, List.set_cons_succ, List.set_cons_zero, eMS_def, eC_def, asS_str, lift_some, eCons_def, eNil_def]
          rw [eL]
          simp -implicitDefEqProofs only [ok_bind, hj, lift_some, hmul, opAdd_str]
          rw [if_pos (by omega)]
          rfl)
    ⟨none, none, by simp [tel]⟩
  rw [List.length_map, List.take_length] at hc
  unfold MLtelling BLtelling
  refine ret_of (.seq (.set (d := .str []) (by simp -implicitDefEqProofs)) (.seq (.for (ds := f.map stD) ?_ e) (.ret ?_)))
  · simp -implicitDefEqProofs [lad]
  · rw [hc]; simp -implicitDefEqProofs
end GW

namespace GW
open PySem PySem.Spec PyProof.Rows L2 VS
theorem forL_stop {β : Type} (i : Nat) (g : VS.Env → Rs) (emb : β → D) (E : VS.Env → Prop) (t : β → Bool) (d : β → D) : ∀ (xs : List β) (c : VS.Env), E c →
    (∀ c, E c → ∀ x ∈ xs, (t x = false → ∃ c', Nx g (c.set i (some (.v (emb x)))) c' ∧ E c') ∧ (t x = true → Ret g (c.set i (some (.v (emb x)))) (d x))) →
    (xs.all (fun x => !t x) = true ∧ ∃ c', forL i g (xs.map emb) c = .ok .nx c' ∧ E c') ∨ (xs.all (fun x => !t x) = false ∧ ∃ x ∈ xs, ∃ c', forL i g (xs.map emb) c = .ok (.rt (d x)) c')
  | [], c, e, _ => .inl ⟨rfl, c, rfl, e⟩
  | x :: xs, c, e, h => by
    obtain ⟨h1, h2⟩ := h c e x List.mem_cons_self
    rw [List.map_cons, forL_cons, List.all_cons]
    cases k : t x with
    | true =>
      obtain ⟨c', hr⟩ := h2 k
      exact .inr ⟨rfl, x, List.mem_cons_self, c', by rw [hr]⟩
    | false =>
      obtain ⟨c', hn, e'⟩ := h1 k
      rw [show g (c.set i (some (.v (emb x)))) = .ok .nx c' from hn]
      rcases forL_stop i g emb E t d xs c' e' (fun c e y m => h c e y (List.mem_cons_of_mem _ m)) with ⟨a, b⟩ | ⟨a, y, m, b⟩
      · exact .inl ⟨by simpa using a, b⟩
      · exact .inr ⟨by simpa using a, y, List.mem_cons_of_mem _ m, b⟩
theorem nat_of {x : Int} (h : 0 ≤ x) : ∃ k : Nat, x = k := ⟨x.toNat, (Int.toNat_of_nonneg h).symm⟩
theorem flats_lad (l : List Stp) : D.flats (l.map stD) = true := by
  induction l with
  | nil => simp [D.flats]
  | cons a l ih => rw [List.map_cons, D.flats, ih]; rfl
theorem Lladder_spec {lt : Nat} (ps : List Int) (h1 : 1 ≤ lt) (h2 : lt ≤ 3) (hp : ∀ x ∈ ps, 0 ≤ x) (hl : ps.length ≤ 1000) :
    ∃ l : List Stp, MLladder [.lst (ps.map D.int), .int lt] = .ok (lad l) ∧ l.length = ps.length ∧ ∀ st ∈ l, Sok st := by
  obtain ⟨c', e, l, x, rfl, hl1, hl2⟩ := forL_ex 3 (sApp 2 (eOp2 (opIx true) (eFn fLst (eCons (eFn fTup (eCons (eC (.str [109, 97, 121, 98, 101])) (eCons (eOp2 (opMod) (eOp2 (opDiv) (eV 3) (eC (.int 2))) (eV 1)) eNil))) (eCons (eFn fTup (eCons (eC (.str [97, 110, 121])) (eCons (eOp2 (opAdd true true) (eC (.int 1)) (eOp2 (opMod) (eOp2 (opDiv) (eV 3) (eC (.int 2))) (eOp2 (opSub) (eOp2 (opShl) (eC (.int 1)) (eV 1)) (eC (.int 1))))) eNil))) eNil))) (eOp2 (opMod) (eV 3) (eC (.int 2)))))
    (fun j c => ∃ (l : List Stp) (x : Option O), c = [oD (.lst (ps.map D.int)), oD (.int lt), some (.lst (l.map fun s => .v (stD s))), x] ∧ l.length = j ∧ ∀ st ∈ l, Sok st) (ps.map D.int) [oD (.lst (ps.map D.int)), oD (.int lt), some (.lst []), none] (by
      rintro j d c hd ⟨l, x, rfl, hl1, hl2⟩
      rw [List.getElem?_map] at hd
      obtain ⟨p, ha, rfl⟩ := Option.map_eq_some_iff.mp hd
      obtain ⟨hj, rfl⟩ := List.getElem?_eq_some_iff.mp ha
      have hp := hp _ (List.getElem_mem hj)
      generalize ps[j] = p at hp ⊢
      have hshl : opShl (.int 1) (.int (lt : Int)) = some (.int ((2 ^ lt : Nat) : Int)) := by
        have : lt = 1 ∨ lt = 2 ∨ lt = 3 := by omega
        rcases this with rfl | rfl | rfl <;> simp [opShl]
      have hM : 2 ≤ 2 ^ lt ∧ 2 ^ lt ≤ 8 := by
        have : lt = 1 ∨ lt = 2 ∨ lt = 3 := by omega
        rcases this with rfl | rfl | rfl <;> simp
      obtain ⟨M, hMe⟩ : ∃ M, (2 ^ lt : Nat) = M := ⟨_, rfl⟩
      rw [hMe] at hshl hM
      obtain ⟨a, ha⟩ := nat_of (x := p / 2 % lt) (Int.emod_nonneg _ (by omega))
      obtain ⟨b, hb⟩ := nat_of (x := p / 2 % ((M : Int) - 1)) (Int.emod_nonneg _ (by omega))
      have ha2 : p / 2 % lt < lt := Int.emod_lt_of_pos _ (by omega)
      have hb2 : p / 2 % ((M : Int) - 1) < M - 1 := Int.emod_lt_of_pos _ (by omega)
      have hsel : p % 2 = 0 ∨ p % 2 = 1 := by omega
      obtain ⟨st, hst, hv⟩ : ∃ st : Stp, opIx true (.lst [.tup [.str [109, 97, 121, 98, 101], .int (a : Nat)], .tup [.str [97, 110, 121], .int (1 + (b : Int))]]) (.int (p % 2)) = some (stD st) ∧ Sok st := by
        rcases hsel with h | h
        · exact ⟨(true, a), by rw [h]; rfl, by simp [Sok]; omega⟩
        · refine ⟨(false, 1 + b), ?_, by simp [Sok]; omega⟩
          rw [h]
          show some _ = some _
          rw [stD, kw]
          simp
      refine ⟨_, ?_, l ++ [st], oD (.int p), rfl, by simp [hl1], ?_⟩
      · simp -implicitDefEqProofs [-opIx_lst, show 0 < lt by omega, ha, hshl, hb, hst, show (0 : Int) < (M : Int) - 1 by omega, show (1 : Int) < (M : Int) by omega, show l.length < 16777216 by omega]
      · intro s hs
        rcases List.mem_append.mp hs with hs | hs
        · exact hl2 s hs
        · rw [List.mem_singleton.mp hs]; exact hv)
    ⟨[], none, by simp, rfl, by simp⟩
  rw [List.length_map] at hl1
  refine ⟨l, ?_, hl1, hl2⟩
  unfold MLladder BLladder
  refine ret_of (.seq (.setO (d := .lst []) (by simp -implicitDefEqProofs)) (.seq (.for (ds := ps.map D.int) (by simp -implicitDefEqProofs) e) (.ret ?_)))
  simp -implicitDefEqProofs [lad, Function.comp_def, flats_lad]
/-! spare steps -/
def cnd (l : List Stp) (k : Nat) (near : Int) : Bool := decide (0 ≤ near ∧ near < l.length) && (match l[near.toNat]?, l[k]? with
  | some o, some s => !o.1 && win s o
  | _, _ => false)
/-- the test of the program -/
theorem cnd_p {l : List Stp} {k : Nat} (hk : k < l.length) (near : Int) :
    tAnd' (eB (eChain (opRel fun i j => decide (i ≤ j)) (opRel fun i j => decide (i < j)) (eC (.int 0)) (eV 2) (eFn (fLen) (eCons (eV 0) eNil)))) (tAnd' (eB (eOp2 (opEq) (eOp2 (opIx true) (eOp2 (opIx true) (eV 0) (eV 2)) (eC (.int 0))) (eC (.str [97, 110, 121])))) (eTru (eCall Mstep_within (eCons (eOp2 (opIx true) (eV 0) (eV 1)) (eCons (eOp2 (opIx true) (eV 0) (eV 2)) eNil)))))
      [oD (lad l), oD (ni k), oD (.int near)] = .ok (cnd l k near) := by
  unfold cnd
  by_cases h0 : 0 ≤ near
  · by_cases h1 : near < l.length
    · obtain ⟨n, rfl⟩ := nat_of h0
      have hn : n < l.length := by omega
      rw [Int.toNat_natCast, List.getElem?_eq_getElem hn, List.getElem?_eq_getElem hk]
      cases hm : l[n].1 with
      | true => simp -implicitDefEqProofs [-opIx_tup, ladLen, ladIx hn, ladIx hk, stD0, eq_any, hm, hn]
      | false => simp -implicitDefEqProofs [-opIx_tup, ladLen, ladIx hn, ladIx hk, stD0, eq_any, hm, hn, within_spec]
    · simp -implicitDefEqProofs [-opIx_tup, ladLen, h0, h1]
  · simp -implicitDefEqProofs [-opIx_tup, ladLen, h0]
def spr (l : List Stp) (k : Nat) : Bool := cnd l k ((k : Int) - 1) || cnd l k ((k : Int) + 1)
/-- the first spare step, or None -/
theorem spare_step_spec (l : List Stp) (hl : l.length ≤ 1000) : ∃ d, Mspare_step [lad l] = .ok d ∧ d.isNon = (List.range l.length).all fun k => !spr l k := by
  have turn : ∀ k, k < l.length → ∀ x y : Option O, (spr l k = false → ∃ y', Nx (sFor 2 (eIt true (eFn fTup (eCons (eOp2 (opSub) (eV 1) (eC (.int 1))) (eCons (eOp2 (opAdd true true) (eV 1) (eC (.int 1))) eNil))))
    (sIf (tAnd' (eB (eChain (opRel fun i j => decide (i ≤ j)) (opRel fun i j => decide (i < j)) (eC (.int 0)) (eV 2) (eFn (fLen) (eCons (eV 0) eNil)))) (tAnd' (eB (eOp2 (opEq) (eOp2 (opIx true) (eOp2 (opIx true) (eV 0) (eV 2)) (eC (.int 0))) (eC (.str [97, 110, 121])))) (eTru (eCall Mstep_within (eCons (eOp2 (opIx true) (eV 0) (eV 1)) (eCons (eOp2 (opIx true) (eV 0) (eV 2)) eNil))))))
    (sRet (eV 1))
    sNil)) [oD (lad l), oD (ni k), y] [oD (lad l), oD (ni k), y']) ∧ (spr l k = true → Ret (sFor 2 (eIt true (eFn fTup (eCons (eOp2 (opSub) (eV 1) (eC (.int 1))) (eCons (eOp2 (opAdd true true) (eV 1) (eC (.int 1))) eNil))))
    (sIf (tAnd' (eB (eChain (opRel fun i j => decide (i ≤ j)) (opRel fun i j => decide (i < j)) (eC (.int 0)) (eV 2) (eFn (fLen) (eCons (eV 0) eNil)))) (tAnd' (eB (eOp2 (opEq) (eOp2 (opIx true) (eOp2 (opIx true) (eV 0) (eV 2)) (eC (.int 0))) (eC (.str [97, 110, 121])))) (eTru (eCall Mstep_within (eCons (eOp2 (opIx true) (eV 0) (eV 1)) (eCons (eOp2 (opIx true) (eV 0) (eV 2)) eNil))))))
    (sRet (eV 1))
    sNil)) [oD (lad l), oD (ni k), y] (ni k)) := by
    intro k hk x y
    have main := forL_opt 2 (sIf (tAnd' (eB (eChain (opRel fun i j => decide (i ≤ j)) (opRel fun i j => decide (i < j)) (eC (.int 0)) (eV 2) (eFn (fLen) (eCons (eV 0) eNil)))) (tAnd' (eB (eOp2 (opEq) (eOp2 (opIx true) (eOp2 (opIx true) (eV 0) (eV 2)) (eC (.int 0))) (eC (.str [97, 110, 121])))) (eTru (eCall Mstep_within (eCons (eOp2 (opIx true) (eV 0) (eV 1)) (eCons (eOp2 (opIx true) (eV 0) (eV 2)) eNil))))))
      (sRet (eV 1))
      sNil) D.int (fun (_ : Unit) c => ∃ y, c = [oD (lad l), oD (ni k), y]) (fun _ near => if cnd l k near then none else some ()) (ni k) [(k : Int) - 1, (k : Int) + 1] () [oD (lad l), oD (ni k), y] ⟨y, rfl⟩ (by
        rintro _ c ⟨y, rfl⟩ near hnear
        have h := cnd_p hk near
        cases hc : cnd l k near with
        | true =>
          rw [hc] at h
          exact .yes h (.ret (by simp -implicitDefEqProofs))
        | false =>
          rw [hc] at h
          exact ⟨_, .no h .nil, _, rfl⟩)
    have src : eIt true (eFn fTup (eCons (eOp2 (opSub) (eV 1) (eC (.int 1))) (eCons (eOp2 (opAdd true true) (eV 1) (eC (.int 1))) eNil))) [oD (lad l), oD (ni k), y] = .ok ([(k : Int) - 1, (k : Int) + 1].map D.int) := by
      simp -implicitDefEqProofs
    constructor
    · intro hs
      unfold spr at hs
      rw [Bool.or_eq_false_iff] at hs
      have e : [(k : Int) - 1, (k : Int) + 1].foldlM (fun (_ : Unit) near => if cnd l k near then none else some ()) () = some () := by
        simp [List.foldlM_cons, hs.1, hs.2]
      rw [e] at main
      obtain ⟨c', main, y', rfl⟩ := main
      exact ⟨y', .for src main⟩
    · intro hs
      have e : [(k : Int) - 1, (k : Int) + 1].foldlM (fun (_ : Unit) near => if cnd l k near then none else some ()) () = none := by
        unfold spr at hs
        cases h1 : cnd l k ((k : Int) - 1) with
        | true => simp [List.foldlM_cons, h1]
        | false =>
          rw [h1] at hs
          simp at hs
          simp [List.foldlM_cons, h1, hs]
      rw [e] at main
      exact .for src main
  have er : rangeD 0 l.length = (List.range l.length).map ni := rangeD_nat l.length
  have src : eItR (eC (.int 0)) (eFn (fLen) (eCons (eV 0) eNil)) [oD (lad l), none, none] = .ok ((List.range l.length).map ni) := by
    simp -implicitDefEqProofs [ladLen, asI_zero, asI_small (i := (l.length : Int)) (by omega) (by omega), er]
  have main := forL_stop 1 _ ni (fun c => ∃ x y, c = [oD (lad l), x, y]) (spr l) ni (List.range l.length) [oD (lad l), none, none] ⟨_, _, rfl⟩ (by
    rintro c ⟨x, y, rfl⟩ k hk
    obtain ⟨h1, h2⟩ := turn k (List.mem_range.mp hk) x y
    refine ⟨fun h => ?_, h2⟩
    obtain ⟨y', h⟩ := h1 h
    exact ⟨_, h, _, _, rfl⟩)
  unfold Mspare_step Bspare_step
  rcases main with ⟨ha, c', main, x, y, rfl⟩ | ⟨ha, k, hk, main⟩
  · exact ⟨.non, ret_of (.seq (.for src main) (.ret (by simp -implicitDefEqProofs))), by rw [ha]; rfl⟩
  · exact ⟨ni k, ret_of (.fst (.for src main)), by rw [ha]; rfl⟩
theorem tight_spec (l : List Stp) (hl : l.length ≤ 1000) : Mis_tight [lad l] = .ok (.bl ((List.range l.length).all fun k => !spr l k)) := by
  obtain ⟨d, e, h⟩ := spare_step_spec l hl
  rw [← h]
  simp -implicitDefEqProofs [Mis_tight, Bis_tight, e]
end GW

namespace GW
open PySem PySem.Spec PyProof.Rows L2 VS
abbrev bodyS : VS.Env → Rs := (sIf (tAnd' (eB (eChain (opRel fun i j => decide (i ≤ j)) (opRel fun i j => decide (i < j)) (eC (.int 0)) (eV 3) (eFn (fLen) (eCons (eV 0) eNil)))) (eB (eOp2 (opEq) (eOp2 (opIx true) (eOp2 (opIx true) (eV 0) (eV 3)) (eC (.int 0))) (eC (.str [97, 110, 121])))))
    (sSeq (sIf (eB (eOp2 (opEq) (eOp2 (opIx true) (eOp2 (opIx true) (eV 0) (eV 2)) (eC (.int 0))) (eC (.str [109, 97, 121, 98, 101]))))
    (sSet 4 (eCall MLtakes (eCons (eOp2 (opIx true) (eV 0) (eV 3)) (eCons (eOp2 (opIx true) (eOp2 (opIx true) (eV 0) (eV 2)) (eC (.int 1))) eNil))))
    (sSet 4 (eOp2 (opEq) (eOp2 (opBit Builtin.bitAnd) (eOp2 (opIx true) (eOp2 (opIx true) (eV 0) (eV 2)) (eC (.int 1))) (eOp2 (opIx true) (eOp2 (opIx true) (eV 0) (eV 3)) (eC (.int 1)))) (eOp2 (opIx true) (eOp2 (opIx true) (eV 0) (eV 2)) (eC (.int 1))))))
    (sIf (eTru (eV 4))
    (sApp 1 (eV 2))
    sNil))
    sNil)
theorem turnS {l : List Stp} {k : Nat} (hk : k < l.length) (near : Int) {ks : List Nat} (hks : ks.length < 16777216) (z : Option O) :
    ∃ z', Nx bodyS [oD (lad l), oN ks, oD (ni k), oD (.int near), z] [oD (lad l), oN (if cnd l k near then ks ++ [k] else ks), oD (ni k), oD (.int near), z'] := by
  by_cases h0 : 0 ≤ near
  · by_cases h1 : near < l.length
    · obtain ⟨n, rfl⟩ := nat_of h0
      have hn : n < l.length := by omega
      have hc : cnd l k (n : Int) = (!l[n].1 && win l[k] l[n]) := by
        unfold cnd
        rw [Int.toNat_natCast, List.getElem?_eq_getElem hn, List.getElem?_eq_getElem hk]
        simp [hn]
      rw [hc]
      cases hm : l[n].1 with
      | true =>
        refine ⟨_, .no ?_ .nil⟩
        simp -implicitDefEqProofs [-opIx_tup, ladLen, ladIx hn, ladIx hk, stD0, eq_any, hm, hn]
      | false =>
        have s4 : Nx (sIf (eB (eOp2 (opEq) (eOp2 (opIx true) (eOp2 (opIx true) (eV 0) (eV 2)) (eC (.int 0))) (eC (.str [109, 97, 121, 98, 101]))))
            (sSet 4 (eCall MLtakes (eCons (eOp2 (opIx true) (eV 0) (eV 3)) (eCons (eOp2 (opIx true) (eOp2 (opIx true) (eV 0) (eV 2)) (eC (.int 1))) eNil))))
            (sSet 4 (eOp2 (opEq) (eOp2 (opBit Builtin.bitAnd) (eOp2 (opIx true) (eOp2 (opIx true) (eV 0) (eV 2)) (eC (.int 1))) (eOp2 (opIx true) (eOp2 (opIx true) (eV 0) (eV 3)) (eC (.int 1)))) (eOp2 (opIx true) (eOp2 (opIx true) (eV 0) (eV 2)) (eC (.int 1))))))
            [oD (lad l), oN ks, oD (ni k), oD (.int n), z] [oD (lad l), oN ks, oD (ni k), oD (.int n), oD (.bl (win l[k] l[n]))] := by
          have ix := ladIx hk
          have ixn := ladIx hn
          revert ix ixn hm
          generalize l[k] = s
          generalize l[n] = o
          intro hm ix ixn
          obtain ⟨b, v⟩ := s
          cases b with
          | true =>
            refine .yes ?_ ((Nx.set (d := .bl (win (true, v) o)) ?_).to rfl)
            · simp -implicitDefEqProofs [-opIx_tup, ix, stD0, eq_maybe]
            · simp -implicitDefEqProofs [-opIx_tup, ix, ixn, stD1, win, (takes_spec o v).2]
          | false =>
            refine .no ?_ ((Nx.set (d := .bl (win (false, v) o)) ?_).to rfl)
            · simp -implicitDefEqProofs [-opIx_tup, ix, stD0, eq_maybe]
            · simp -implicitDefEqProofs [-opIx_tup, -opEq_int, ix, ixn, stD1, win, hm, ab_spec, ab_eq]
        cases hw : win l[k] l[n] with
        | true =>
          rw [hw] at s4
          refine ⟨oD (.bl true), .yes ?_ (.seq s4 (.yes (by simp -implicitDefEqProofs) ?_))⟩
          · simp -implicitDefEqProofs [-opIx_tup, ladLen, ladIx hn, ladIx hk, stD0, eq_any, hm, hn]
          · unfold Nx
            simp -implicitDefEqProofs [hks]
        | false =>
          rw [hw] at s4
          refine ⟨oD (.bl false), .yes ?_ (.seq s4 (.no (by simp -implicitDefEqProofs) (Nx.nil.to (by simp))))⟩
          simp -implicitDefEqProofs [-opIx_tup, ladLen, ladIx hn, ladIx hk, stD0, eq_any, hm, hn]
    · have hc : cnd l k near = false := by unfold cnd; simp [h1]
      rw [hc]
      exact ⟨_, .no (by simp -implicitDefEqProofs [-opIx_tup, ladLen, h0, h1]) .nil⟩
  · have hc : cnd l k near = false := by unfold cnd; simp [h0]
    rw [hc]
    exact ⟨_, .no (by simp -implicitDefEqProofs [-opIx_tup, ladLen, h0]) .nil⟩
theorem Lspare_spec (l : List Stp) (hl : l.length ≤ 1000) : ∃ ks : List Nat, MLspare [lad l] = .ok (.lst (ks.map ni)) ∧ (∀ k ∈ ks, k < l.length) ∧ (ks = [] ↔ ((List.range l.length).all fun k => !spr l k) = true) := by
  have er : rangeD 0 l.length = (List.range l.length).map ni := rangeD_nat l.length
  obtain ⟨c', e, ks, x, y, z, rfl, h1, h2, h3⟩ := forL_ex 2 (sFor 3 (eIt true (eFn fLst (eCons (eOp2 (opSub) (eV 2) (eC (.int 1))) (eCons (eOp2 (opAdd true true) (eV 2) (eC (.int 1))) eNil)))) bodyS)
    (fun m c => ∃ ks x y z, c = [oD (lad l), oN ks, x, y, z] ∧ (∀ k ∈ ks, k < l.length) ∧ (ks = [] ↔ ((List.range m).all fun k => !spr l k) = true) ∧ ks.length ≤ 2 * m) ((List.range l.length).map ni) [oD (lad l), oN [], none, none, none] (by
      rintro m d c hd ⟨ks, x, y, z, rfl, h1, h2, h3⟩
      rw [List.getElem?_map] at hd
      obtain ⟨i, hi, rfl⟩ := Option.map_eq_some_iff.mp hd
      obtain ⟨hm, rfl⟩ := List.getElem?_eq_some_iff.mp hi
      rw [List.length_range] at hm
      rw [List.getElem_range]
      obtain ⟨z1, t1⟩ := turnS hm ((m : Int) - 1) (ks := ks) (by omega) z
      obtain ⟨ks1, hks1⟩ : ∃ a, (if cnd l m ((m : Int) - 1) then ks ++ [m] else ks) = a := ⟨_, rfl⟩
      rw [hks1] at t1
      have l1 : ks1.length ≤ ks.length + 1 := by rw [← hks1]; split <;> simp
      obtain ⟨z2, t2⟩ := turnS hm ((m : Int) + 1) (ks := ks1) (by omega) z1
      have src : eIt true (eFn fLst (eCons (eOp2 (opSub) (eV 2) (eC (.int 1))) (eCons (eOp2 (opAdd true true) (eV 2) (eC (.int 1))) eNil))) [oD (lad l), oN ks, oD (ni m), y, z] = .ok [.int ((m : Int) - 1), .int ((m : Int) + 1)] := by
        simp -implicitDefEqProofs
      have lp : forL 3 bodyS [.int ((m : Int) - 1), .int ((m : Int) + 1)] [oD (lad l), oN ks, oD (ni m), y, z] = .ok .nx [oD (lad l), oN (if cnd l m ((m : Int) + 1) then ks1 ++ [m] else ks1), oD (ni m), oD (.int ((m : Int) + 1)), z2] := by
        rw [forL_cons]
        have a1 : bodyS ([oD (lad l), oN ks, oD (ni m), y, z].set 3 (some (.v (.int ((m : Int) - 1))))) = .ok .nx [oD (lad l), oN ks1, oD (ni m), oD (.int ((m : Int) - 1)), z1] := t1
        rw [a1]
        show forL 3 bodyS [.int ((m : Int) + 1)] [oD (lad l), oN ks1, oD (ni m), oD (.int ((m : Int) - 1)), z1] = _
        rw [forL_cons]
        have a2 : bodyS ([oD (lad l), oN ks1, oD (ni m), oD (.int ((m : Int) - 1)), z1].set 3 (some (.v (.int ((m : Int) + 1))))) = .ok .nx [oD (lad l), oN (if cnd l m ((m : Int) + 1) then ks1 ++ [m] else ks1), oD (ni m), oD (.int ((m : Int) + 1)), z2] := t2
        rw [a2]
        rfl
      refine ⟨_, Nx.for src lp, _, _, _, _, rfl, ?_, ?_, ?_⟩
      · have m1 : ∀ k ∈ ks1, k < l.length := by
          intro k hk
          rw [← hks1] at hk
          split at hk
          · rcases List.mem_append.mp hk with hk | hk
            · exact h1 k hk
            · rw [List.mem_singleton.mp hk]; exact hm
          · exact h1 k hk
        intro k hk
        split at hk
        · rcases List.mem_append.mp hk with hk | hk
          · exact m1 k hk
          · rw [List.mem_singleton.mp hk]; exact hm
        · exact m1 k hk
      · rw [List.range_succ, List.all_append, Bool.and_eq_true, ← h2, ← hks1]
        have : spr l m = (cnd l m ((m : Int) - 1) || cnd l m ((m : Int) + 1)) := rfl
        cases c1 : cnd l m ((m : Int) - 1) <;> cases c2 : cnd l m ((m : Int) + 1) <;> simp [this, c1, c2]
      · have : (if cnd l m ((m : Int) + 1) then ks1 ++ [m] else ks1).length ≤ ks1.length + 1 := by split <;> simp
        omega)
    ⟨[], none, none, none, by simp, by simp, by simp, by simp⟩
  rw [List.length_map, List.length_range] at h2
  refine ⟨ks, ?_, h1, h2⟩
  unfold MLspare BLspare
  refine ret_of (.seq (.setO (d := .lst []) (by simp -implicitDefEqProofs)) (.seq (.for (ds := (List.range l.length).map ni) ?_ e) (.fz (.ret ?_))))
  · simp -implicitDefEqProofs [ladLen, asI_zero, asI_small (i := (l.length : Int)) (by omega) (by omega), er]
  · simp -implicitDefEqProofs [Function.comp_def]
theorem lad_to (r : List Stp) (k : Nat) : opSl true (lad r) none (some (k : Int)) = some (lad (r.take k)) := by
  unfold lad
  rw [opSl_tup, okEl_t, if_pos rfl, cut_to, List.map_take]
theorem lad_from (r : List Stp) (k : Nat) : opSl true (lad r) (some ((k : Int) + 1)) none = some (lad (r.drop (k + 1))) := by
  unfold lad
  have : ((k + 1 : Nat) : Int) = (k : Int) + 1 := by push_cast; rfl
  rw [opSl_tup, okEl_t, if_pos rfl, ← this, cut_from, List.map_drop]
theorem opAdd_tup (b1 b2 : Bool) (a b : List D) : opAdd b1 b2 (.tup a) (.tup b) = if a.length + b.length ≤ 16777216 ∧ okEl b1 a = true ∧ okEl b2 b = true then some (.tup (a ++ b)) else none := (rfl)
theorem lad_add {a b : List Stp} (h : a.length + b.length ≤ 16777216) : opAdd true true (lad a) (lad b) = some (lad (a ++ b)) := by
  unfold lad
  rw [opAdd_tup, if_pos ⟨by simpa using h, rfl, rfl⟩, List.map_append]
theorem Ltight_spec (l : List Stp) (hl : l.length ≤ 1000) (hs : ∀ st ∈ l, Sok st) : ∃ r : List Stp, MLtight [lad l] = .ok (lad r) ∧ r.length ≤ l.length ∧ ∀ st ∈ r, Sok st := by
  obtain ⟨c', e, r, x, rfl, h1, h2⟩ := whileL_ex (eB (eOp2 (opRel fun i j => decide (j < i)) (eFn (fLen) (eCons (eCall MLspare (eCons (eV 0) eNil)) eNil)) (eC (.int 0))))
    (sSeq (sSet 1 (eOp2 (opIx true) (eCall MLspare (eCons (eV 0) eNil)) (eC (.int 0))))
    (sSet 0 (eOp2 (opAdd true true) (eSl true (eV 0) eNoO (eO (eV 1))) (eSl true (eV 0) (eO (eOp2 (opAdd true true) (eV 1) (eC (.int 1)))) eNoO))))
    (fun m c => ∃ r x, c = [oD (lad r), x] ∧ r.length = m ∧ r.length ≤ l.length ∧ ∀ st ∈ r, Sok st) (fun c => ∃ r x, c = [oD (lad r), x] ∧ r.length ≤ l.length ∧ ∀ st ∈ r, Sok st)
    (by
      rintro m c ⟨r, x, rfl, hm, h1, h2⟩
      obtain ⟨ks, e, hk, _⟩ := Lspare_spec r (by omega)
      cases ks with
      | nil => exact .inl ⟨by simp -implicitDefEqProofs [e], r, x, rfl, h1, h2⟩
      | cons k ks =>
        have hkl := hk k List.mem_cons_self
        have ix : atI (ni k :: ks.map ni) 0 = some (ni k) := atI_ofNat _ 0
        refine .inr ⟨by simp -implicitDefEqProofs [e], r.length - 1, _, by omega, Nx.seq (.set (d := ni k) (by simp -implicitDefEqProofs [e, ix])) ((Nx.set (d := lad (r.take k ++ r.drop (k + 1))) ?_).to rfl), _, _, rfl, ?_, ?_, ?_⟩
        · have hle : (r.take k).length + (r.drop (k + 1)).length ≤ 16777216 := by rw [List.length_take, List.length_drop]; omega
          simp -implicitDefEqProofs [e, lad_to, lad_from, lad_add hle]
        · rw [List.length_append, List.length_take, List.length_drop]; omega
        · rw [List.length_append, List.length_take, List.length_drop]; omega
        · intro st hst
          rcases List.mem_append.mp hst with hst | hst
          · exact h2 st (List.mem_of_mem_take hst)
          · exact h2 st (List.mem_of_mem_drop hst)) wN l.length [oD (lad l), none] (by unfold wN; omega) ⟨l, none, rfl, rfl, by omega, hs⟩
  refine ⟨r, ?_, h1, h2⟩
  unfold MLtight BLtight
  exact ret_of (.seq e (.ret (by simp -implicitDefEqProofs)))
end GW

namespace GW
open PySem PySem.Spec PyProof.Rows L2 VS
theorem four {l : List Int} (h : l.length = 4) : ∃ a b c d, l = [a, b, c, d] := by
  match l, h with
  | [a, b, c, d], _ => exact ⟨a, b, c, d, rfl⟩
abbrev bodyJ : VS.Env → Rs := (sSeq (sSet 9 (eCall MLword (eCons (eCall MLdraws (eCons (eV 0) (eCons (eOp2 (opAdd true true) (eC (.int 3)) (eV 8)) (eCons (eOp2 (opMod) (eOp2 (opAdd true true) (eOp2 (opIx true) (eV 1) (eC (.int 2))) (eOp2 (opMul) (eC (.int 2)) (eV 8))) (eC (.int 7))) (eCons (eC (.int 5040)) eNil))))) (eCons (eV 2) eNil))))
    (sIf (tNot' (eTru (eCall MLsame (eCons (eCall Mon_ladder (eCons (eV 7) (eCons (eV 9) eNil))) (eCons (eCall MLon (eCons (eV 7) (eCons (eV 9) eNil))) eNil)))))
    (sRet (eC (.bl false)))
    sNil))
abbrev bodyL : VS.Env → Rs := (sSeq (sIf (tNot' (eTru (eCall MLsame (eCons (eCall Mis_tight (eCons (eV 7) eNil)) (eCons (eOp2 (opEq) (eFn (fLen) (eCons (eCall MLspare (eCons (eV 7) eNil)) eNil)) (eC (.int 0))) eNil)))))
    (sRet (eC (.bl false)))
    sNil)
    (sFor 8 (eItR (eC (.int 0)) (eC (.int 3))) bodyJ))
abbrev bodyT : VS.Env → Rs := (sSeq (sSet 13 (eCall MLon (eCons (eV 12) (eCons (eCall MLtelling (eCons (eV 11) (eCons (eOp2 (opAdd true true) (eFn (fLen) (eCons (eV 12) eNil)) (eC (.int 2))) eNil))) eNil))))
    (sIf (tNot' (eTru (eCall MLsame (eCons (eCall Mladder_within (eCons (eV 11) (eCons (eV 12) eNil))) (eCons (eV 13) eNil)))))
    (sRet (eC (.bl false)))
    sNil))
def Lok (l : List Stp) : Prop := l.length ≤ 20 ∧ ∀ st ∈ l, Sok st
theorem at2 (a b c d : Int) : opIx true (.lst ([a, b, c, d].map D.int)) (.int 2) = some (.int c) := by
  rw [opIx_lst, show atI ([a, b, c, d].map D.int) 2 = some (.int c) from atI_ofNat _ 2]; rfl
theorem jturn (ns : List Int) {lt : Nat} (h1 : 1 ≤ lt) (h2 : lt ≤ 3) (a b c d : Int) (l : List Stp) (hl : l.length ≤ 20) (x3 x4 x5 x6 x10 x11 x12 x13 y8 y9 : Option O) :
    ∃ y8' y9', Nx (sFor 8 (eItR (eC (.int 0)) (eC (.int 3))) bodyJ)
      [oD (.lst (ns.map D.int)), oD (.lst ([a, b, c, d].map D.int)), oD (.int lt), x3, x4, x5, x6, oD (lad l), y8, y9, x10, x11, x12, x13]
      [oD (.lst (ns.map D.int)), oD (.lst ([a, b, c, d].map D.int)), oD (.int lt), x3, x4, x5, x6, oD (lad l), y8', y9', x10, x11, x12, x13] := by
  obtain ⟨c', e, y8', y9', hc⟩ := forL_rg 8 bodyJ 3 (fun j c' => ∃ y8 y9, c' = [oD (.lst (ns.map D.int)), oD (.lst ([a, b, c, d].map D.int)), oD (.int lt), x3, x4, x5, x6, oD (lad l), y8, y9, x10, x11, x12, x13])
    [oD (.lst (ns.map D.int)), oD (.lst ([a, b, c, d].map D.int)), oD (.int lt), x3, x4, x5, x6, oD (lad l), y8, y9, x10, x11, x12, x13] (by
      rintro j c1 hj ⟨y8, y9, rfl⟩
      obtain ⟨k, hk⟩ := nat_of (Int.emod_nonneg (c + 2 * (j : Int)) (show (7 : Int) ≠ 0 by omega))
      have hk2 : (c + 2 * (j : Int)) % 7 < 7 := Int.emod_lt_of_pos _ (by omega)
      obtain ⟨q, e, hql, hx⟩ := Ldraws_spec ns (3 + j) k 5040 (by omega) (by omega) (by omega)
      have ec : ((3 + j : Nat) : Int) = 3 + (j : Int) := by push_cast; rfl
      rw [ec] at e
      obtain ⟨w, e2, hv, hwl⟩ := Lword_spec q h1 h2 (by omega)
      have hv3 : Wd' 3 w := fun c hc => by have := hv c hc; omega
      have a1 := on_spec l w (by omega) hv3 (by omega)
      have a2 := Lon_spec l w (by omega) hv3 (by omega)
      have s := Lsame_ok (d := .bl (onB l w)) (.bl _)
      have ea := at2 a b c d
      generalize D.lst ([a, b, c, d].map D.int) = sh at ea ⊢
      refine ⟨_, Nx.seq (.set (d := .str w) ?_) (Nx.no ?_ Nx.nil), _, _, rfl⟩
      · simp -implicitDefEqProofs [ea, hk, e, e2]
      · simp -implicitDefEqProofs [a1, a2, s]) ⟨y8, y9, rfl⟩
  refine ⟨y8', y9', .for ?_ (e.trans (by rw [hc]))⟩
  simp -implicitDefEqProofs [asI_zero, asI_small (i := 3) (by omega) (by omega)]
theorem lturn (ns : List Int) {lt : Nat} (h1 : 1 ≤ lt) (h2 : lt ≤ 3) (a b c d : Int) (ls : List (List Stp)) (hls : ∀ l ∈ ls, Lok l) (x3 x4 x5 x10 x11 x12 x13 y7 y8 y9 : Option O) :
    ∃ y7' y8' y9', Nx (sFor 7 (eIt true (eV 6)) bodyL)
      [oD (.lst (ns.map D.int)), oD (.lst ([a, b, c, d].map D.int)), oD (.int lt), x3, x4, x5, oD (.lst (ls.map lad)), y7, y8, y9, x10, x11, x12, x13]
      [oD (.lst (ns.map D.int)), oD (.lst ([a, b, c, d].map D.int)), oD (.int lt), x3, x4, x5, oD (.lst (ls.map lad)), y7', y8', y9', x10, x11, x12, x13] := by
  obtain ⟨c', e, y7', y8', y9', hc⟩ := forL_ex 7 bodyL (fun j c' => ∃ y7 y8 y9, c' = [oD (.lst (ns.map D.int)), oD (.lst ([a, b, c, d].map D.int)), oD (.int lt), x3, x4, x5, oD (.lst (ls.map lad)), y7, y8, y9, x10, x11, x12, x13]) (ls.map lad)
    [oD (.lst (ns.map D.int)), oD (.lst ([a, b, c, d].map D.int)), oD (.int lt), x3, x4, x5, oD (.lst (ls.map lad)), y7, y8, y9, x10, x11, x12, x13] (by
      rintro j dd c1 hd ⟨y7, y8, y9, rfl⟩
      rw [List.getElem?_map] at hd
      obtain ⟨l, hl, rfl⟩ := Option.map_eq_some_iff.mp hd
      have hok := hls l (List.mem_of_getElem? hl)
      obtain ⟨y8', y9', E⟩ := jturn ns h1 h2 a b c d l hok.1 x3 x4 x5 (oD (.lst (ls.map lad))) x10 x11 x12 x13 y8 y9
      obtain ⟨ks, e1, _, e3⟩ := Lspare_spec l (by have := hok.1; omega)
      have e4 := tight_spec l (by have := hok.1; omega)
      have e6 : (ks.length == 0) = ((List.range l.length).all fun k => !spr l k) := by
        rw [Bool.eq_iff_iff, ← e3, beq_iff_eq, List.length_eq_zero_iff]
      have e5 : opEq (.int (ks.length : Nat)) (.int 0) = some (.bl (ks.length == 0)) := nat_eq ks.length 0
      rw [e6] at e5
      clear e6 e3
      have s := Lsame_ok (d := .bl ((List.range l.length).all fun k => !spr l k)) (.bl _)
      generalize ((List.range l.length).all fun k => !spr l k) = t at e4 e5 s
      refine ⟨_, Nx.seq (Nx.no ?_ Nx.nil) E, _, _, _, rfl⟩
      simp -implicitDefEqProofs [-opEq_int, e1, e4, e5, s]) ⟨y7, y8, y9, rfl⟩
  exact ⟨y7', y8', y9', .for (by simp -implicitDefEqProofs) (e.trans (by rw [hc]))⟩
theorem tturn (ts : List (List Stp)) (hts : ∀ l ∈ ts, Lok l) (x0 x1 x2 x3 x4 x5 x6 x7 x8 x9 y11 y12 y13 : Option O) :
    ∃ y11' y12' y13', Nx (sFor 11 (eIt true (eV 10)) (sFor 12 (eIt true (eV 10)) bodyT))
      [x0, x1, x2, x3, x4, x5, x6, x7, x8, x9, oD (.lst (ts.map lad)), y11, y12, y13] [x0, x1, x2, x3, x4, x5, x6, x7, x8, x9, oD (.lst (ts.map lad)), y11', y12', y13'] := by
  obtain ⟨c', e, y11', y12', y13', hc⟩ := forL_ex 11 (sFor 12 (eIt true (eV 10)) bodyT) (fun j c' => ∃ y11 y12 y13, c' = [x0, x1, x2, x3, x4, x5, x6, x7, x8, x9, oD (.lst (ts.map lad)), y11, y12, y13]) (ts.map lad)
    [x0, x1, x2, x3, x4, x5, x6, x7, x8, x9, oD (.lst (ts.map lad)), y11, y12, y13] (by
      rintro j dd c1 hd ⟨y11, y12, y13, rfl⟩
      rw [List.getElem?_map] at hd
      obtain ⟨f, hf, rfl⟩ := Option.map_eq_some_iff.mp hd
      have hfo := hts f (List.mem_of_getElem? hf)
      obtain ⟨c', e, z12, z13, hc⟩ := forL_ex 12 bodyT (fun j c' => ∃ y12 y13, c' = [x0, x1, x2, x3, x4, x5, x6, x7, x8, x9, oD (.lst (ts.map lad)), oD (lad f), y12, y13]) (ts.map lad)
        [x0, x1, x2, x3, x4, x5, x6, x7, x8, x9, oD (.lst (ts.map lad)), oD (lad f), y12, y13] (by
          rintro j dd c1 hd ⟨y12, y13, rfl⟩
          rw [List.getElem?_map] at hd
          obtain ⟨l, hl, rfl⟩ := Option.map_eq_some_iff.mp hd
          have hlo := hts l (List.mem_of_getElem? hl)
          have hl1 := hlo.1
          have hf1 := hfo.1
          have et := Ltelling_spec f (l.length + 2) hfo.2 hfo.1 (by omega) (by omega)
          have ec : ((l.length + 2 : Nat) : Int) = (l.length : Int) + 2 := by push_cast; rfl
          rw [ec] at et
          have htl := tel_len (m := l.length + 2) (by omega) f
          have htl2 : f.length * (3 * (l.length + 2)) ≤ 20 * (3 * 22) := Nat.mul_le_mul hf1 (Nat.mul_le_mul_left 3 (by omega))
          have eo := Lon_spec l (tel f (l.length + 2)) (by omega) (tel_mem hfo.2) (by omega)
          rw [tel_on (by omega) f hfo.2] at eo
          have ew := ladder_within_spec f l (by omega)
          have s := Lsame_ok (d := .bl (wiB f l)) (.bl _)
          refine ⟨_, Nx.seq (.set (d := .bl (wiB f l)) ?_) (Nx.no ?_ Nx.nil), _, _, rfl⟩
          · simp -implicitDefEqProofs [ladLen, et, eo]
          · simp -implicitDefEqProofs [ew, s]) ⟨y12, y13, rfl⟩
      exact ⟨_, Nx.for (by simp -implicitDefEqProofs) (e.trans (by rw [hc])), _, _, _, rfl⟩) ⟨y11, y12, y13, rfl⟩
  exact ⟨y11', y12', y13', .for (by simp -implicitDefEqProofs) (e.trans (by rw [hc]))⟩
theorem tights : ∀ ls : List (List Stp), (∀ l ∈ ls, Lok l) → ∃ ts : List (List Stp), ts.length = ls.length ∧ (∀ l ∈ ts, Lok l) ∧ ∀ (c : VS.Env), compL tYes' (eCall MLtight (eCons (eV 7) eNil)) 7 c [] = .ok [] ∧ (7 < c.length → compL tYes' (eCall MLtight (eCons (eV 7) eNil)) 7 c (ls.map lad) = .ok (ts.map lad))
  | [], _ => ⟨[], rfl, by simp, fun c => ⟨rfl, fun _ => rfl⟩⟩
  | l :: ls, h => by
    obtain ⟨ts, h1, h2, h3⟩ := tights ls fun x hx => h x (List.mem_cons_of_mem _ hx)
    have hok := h l List.mem_cons_self
    obtain ⟨r, e, r1, r2⟩ := Ltight_spec l (by have := hok.1; omega) hok.2
    refine ⟨r :: ts, by simp [h1], ?_, fun c => ⟨rfl, fun hc => ?_⟩⟩
    · intro x hx
      rcases List.mem_cons.mp hx with rfl | hx
      · exact ⟨by have := hok.1; omega, r2⟩
      · exact h2 x hx
    · rw [List.map_cons, compL_cons, tYes_def]
      have : eCall MLtight (eCons (eV 7) eNil) (c.set 7 (some (.v (lad l)))) = .ok (lad r) := by
        simp -implicitDefEqProofs [List.getElem?_set_self hc, e]
      simp only [noX_ok, ok_bind, if_true, this]
      rw [(h3 c).2 hc]
      rfl
theorem law_ok (ns : List Int) : Mlaw [.lst (ns.map D.int)] = .ok (.bl true) := by
  obtain ⟨l, e, hl, hx⟩ := Ldraws_spec ns 0 4 720 (by omega) (by omega) (by omega)
  obtain ⟨a, b, c, d, rfl⟩ := four hl
  have ha := hx a (by simp)
  have hb := hx b (by simp)
  have hc := hx c (by simp)
  have hd := hx d (by simp)
  obtain ⟨lt, hlt⟩ := nat_of (x := 1 + a % 3) (by omega)
  obtain ⟨k1, hk1⟩ := nat_of (x := b % 6) (by omega)
  obtain ⟨k2, hk2⟩ := nat_of (x := c % 6) (by omega)
  obtain ⟨p1, ep1, hp1, hq1⟩ := Ldraws_spec ns 1 k1 720 (by omega) (by omega) (by omega)
  obtain ⟨p2, ep2, hp2, hq2⟩ := Ldraws_spec ns 2 k2 720 (by omega) (by omega) (by omega)
  obtain ⟨one, eo, ho1, ho2⟩ := Lladder_spec (lt := lt) p1 (by omega) (by omega) (fun x h => (hq1 x h).1) (by omega)
  obtain ⟨two, et, ht1, ht2⟩ := Lladder_spec (lt := lt) p2 (by omega) (by omega) (fun x h => (hq2 x h).1) (by omega)
  obtain ⟨k, hk⟩ := nat_of (x := d % ((one.length : Int) + 1)) (Int.emod_nonneg _ (by omega))
  obtain ⟨ls, hlse⟩ : ∃ ls : List (List Stp), ls = [one, two, one.take k ++ one.drop (k + 1), one.take k ++ two ++ one.drop k] := ⟨_, rfl⟩
  have hone : one.length ≤ 5 := by omega
  have htwo : two.length ≤ 5 := by omega
  have hls : ∀ l ∈ ls, Lok l := by
    intro l hl
    rw [hlse] at hl
    have m1 : ∀ st ∈ one.take k, Sok st := fun st h => ho2 st (List.mem_of_mem_take h)
    have m2 : ∀ st ∈ one.drop (k + 1), Sok st := fun st h => ho2 st (List.mem_of_mem_drop h)
    have m3 : ∀ st ∈ one.drop k, Sok st := fun st h => ho2 st (List.mem_of_mem_drop h)
    simp only [List.mem_cons, List.not_mem_nil, or_false] at hl
    rcases hl with rfl | rfl | rfl | rfl
    · exact ⟨by omega, ho2⟩
    · exact ⟨by omega, ht2⟩
    · refine ⟨by rw [List.length_append, List.length_take, List.length_drop]; omega, fun st h => ?_⟩
      rcases List.mem_append.mp h with h | h
      · exact m1 st h
      · exact m2 st h
    · refine ⟨by rw [List.length_append, List.length_append, List.length_take, List.length_drop]; omega, fun st h => ?_⟩
      rcases List.mem_append.mp h with h | h
      · rcases List.mem_append.mp h with h | h
        · exact m1 st h
        · exact ht2 st h
      · exact m3 st h
  obtain ⟨ts, htl, hts, htc⟩ := tights ls hls
  have h0 : opIx true (.lst ([a, b, c, d].map D.int)) (.int 0) = some (.int a) := by
    rw [opIx_lst, show atI ([a, b, c, d].map D.int) 0 = some (.int a) from atI_ofNat _ 0]; rfl
  have h1 : opIx true (.lst ([a, b, c, d].map D.int)) (.int 1) = some (.int b) := by
    rw [opIx_lst, show atI ([a, b, c, d].map D.int) 1 = some (.int b) from atI_ofNat _ 1]; rfl
  have h2 := at2 a b c d
  have h3 : opIx true (.lst ([a, b, c, d].map D.int)) (.int 3) = some (.int d) := by
    rw [opIx_lst, show atI ([a, b, c, d].map D.int) 3 = some (.int d) from atI_ofNat _ 3]; rfl
  have e' : MLdraws [.lst (ns.map D.int), .int 0, .int 4, .int 720] = .ok (.lst ([a, b, c, d].map D.int)) := e
  have ep1' : MLdraws [.lst (ns.map D.int), .int 1, .int k1, .int 720] = .ok (.lst (p1.map D.int)) := ep1
  have ep2' : MLdraws [.lst (ns.map D.int), .int 2, .int k2, .int 720] = .ok (.lst (p2.map D.int)) := ep2
  obtain ⟨y7, y8, y9, E1⟩ := lturn ns (lt := lt) (by omega) (by omega) a b c d ls hls (oD (lad one)) (oD (lad two)) (oD (.int k)) none none none none none none none
  obtain ⟨y11, y12, y13, E2⟩ := tturn ts hts (oD (.lst (ns.map D.int))) (oD (.lst ([a, b, c, d].map D.int))) (oD (.int lt)) (oD (lad one)) (oD (lad two)) (oD (.int k)) (oD (.lst (ls.map lad))) y7 y8 y9 none none none
  have hlsl : ls.length = 4 := by rw [hlse]; rfl
  unfold Mlaw Blaw
  refine ret_of (.seq (.set (d := .lst ([a, b, c, d].map D.int)) ?a1) (.seq (.set (d := .int lt) ?a2) (.seq (.set (d := lad one) ?a3) (.seq (.set (d := lad two) ?a4) (.seq (.set (d := .int k) ?a5) (.seq (.set (d := .lst (ls.map lad)) ?a6) (.seq E1 (.seq (.set (d := .lst (ts.map lad)) ?a7) (.seq E2 (.ret ?a8))))))))))
  case a1 => simp -implicitDefEqProofs [e', -List.map_cons, -List.map_nil]
  case a2 =>
    generalize D.lst ([a, b, c, d].map D.int) = sh at h0 ⊢
    simp -implicitDefEqProofs [h0, hlt]
  case a3 =>
    generalize D.lst ([a, b, c, d].map D.int) = sh at h1 ⊢
    simp -implicitDefEqProofs [h1, hk1, ep1', eo]
  case a4 =>
    generalize D.lst ([a, b, c, d].map D.int) = sh at h2 ⊢
    simp -implicitDefEqProofs [h2, hk2, ep2', et]
  case a5 =>
    generalize D.lst ([a, b, c, d].map D.int) = sh at h3 ⊢
    simp -implicitDefEqProofs [h3, ladLen, hk, show (0 : Int) < (one.length : Int) + 1 by omega]
  case a6 =>
    have lf : opSl true (lad one) (some (k : Int)) none = some (lad (one.drop k)) := by
      unfold lad
      rw [opSl_tup, okEl_t, if_pos rfl, cut_from, List.map_drop]
    have c1 := lad_add (a := one.take k) (b := one.drop (k + 1)) (by rw [List.length_take, List.length_drop]; omega)
    have c2 := lad_add (a := one.take k) (b := two) (by rw [List.length_take]; omega)
    have c3 := lad_add (a := one.take k ++ two) (b := one.drop k) (by rw [List.length_append, List.length_take, List.length_drop]; omega)
    rw [hlse]
    simp -implicitDefEqProofs [lad_to, lad_from, lf, c1, c2, c3, -List.append_assoc]
  case a7 =>
    have := (htc [oD (.lst (ns.map D.int)), oD (.lst ([a, b, c, d].map D.int)), oD (.int lt), oD (lad one), oD (lad two), oD (.int k), oD (.lst (ls.map lad)), y7, y8, y9, none, none, none, none]).2 (by simp)
    generalize D.lst ([a, b, c, d].map D.int) = sh at this ⊢
    simp -implicitDefEqProofs only [eLc_def, eLcs_def, eIt_def, eV_def, List.getElem?_cons_zero, List.getElem?_cons_succ, ok_bind, asA_lst, okEl_t, if_true, lift_some]
    rw [this]
    simp -implicitDefEqProofs only [ok_bind, List.length_map]
    rw [if_pos (by omega)]
    rfl
  case a8 => simp -implicitDefEqProofs
end GW

set_option maxHeartbeats 8000000
/-! the walk of law_k43_steps_of_ladders, printed by vsgen.py -/
namespace GW
open PySem PySem.Spec PyProof.Rows L2 VS
def topS (i : Nat) : Stmt := PySem.Challenge.pw_viewedwords_k43_steps_of_ladders.main.body.getD i (.Pass ⟨0, 0, 0, 0⟩)
theorem u65 {A : Around} {k : Nat} (hr : Room k A) : A.units + 65 < cLine := by have := hr.un; omega
/-! ### _law_number -/
abbrev sLnumber : Stmt := topS 12
abbrev nLnumber : List Str := ["script", "k", "number"]
theorem scLnumber : FnScope nLnumber ["script", "k"] (defScope sLnumber) := ⟨rfl, rfl, rfl, by decide +kernel, rfl, by decide +kernel, by decide +kernel⟩
theorem ndLnumber : (nLnumber : List Str).Nodup := scLnumber.nd
/-! ### _law_draws -/
abbrev sLdraws : Stmt := topS 13
abbrev nLdraws : List Str := ["script", "k", "count", "many", "number", "found", "at", "state", "other"]
theorem scLdraws : FnScope nLdraws ["script", "k", "count", "many"] (defScope sLdraws) := ⟨rfl, rfl, rfl, by decide +kernel, rfl, by decide +kernel, by decide +kernel⟩
theorem ndLdraws : (nLdraws : List Str).Nodup := scLdraws.nd
/-! ### _law_ladder -/
abbrev sLladder : Stmt := topS 18
abbrev nLladder : List Str := ["picks", "letters", "steps", "pick"]
theorem scLladder : FnScope nLladder ["picks", "letters"] (defScope sLladder) := ⟨rfl, rfl, rfl, by decide +kernel, rfl, by decide +kernel, by decide +kernel⟩
theorem ndLladder : (nLladder : List Str).Nodup := scLladder.nd
/-! ### _law_takes -/
abbrev sLtakes : Stmt := topS 15
abbrev nLtakes : List Str := ["step", "i"]
theorem scLtakes : FnScope nLtakes ["step", "i"] (defScope sLtakes) := ⟨rfl, rfl, rfl, by decide +kernel, rfl, by decide +kernel, by decide +kernel⟩
theorem ndLtakes : (nLtakes : List Str).Nodup := scLtakes.nd
/-! ### _law_spare -/
abbrev sLspare : Stmt := topS 17
abbrev nLspare : List Str := ["ladder", "found", "k", "near", "within"]
theorem scLspare : FnScope nLspare ["ladder"] (defScope sLspare) := ⟨rfl, rfl, rfl, by decide +kernel, rfl, by decide +kernel, by decide +kernel⟩
theorem ndLspare : (nLspare : List Str).Nodup := scLspare.nd
/-! ### _law_tight -/
abbrev sLtight : Stmt := topS 19
abbrev nLtight : List Str := ["ladder", "k"]
theorem scLtight : FnScope nLtight ["ladder"] (defScope sLtight) := ⟨rfl, rfl, rfl, by decide +kernel, rfl, by decide +kernel, by decide +kernel⟩
theorem ndLtight : (nLtight : List Str).Nodup := scLtight.nd
/-! ### _law_same -/
abbrev sLsame : Stmt := topS 11
abbrev nLsame : List Str := ["told", "due", "k"]
theorem scLsame : FnScope nLsame ["told", "due"] (defScope sLsame) := ⟨rfl, rfl, rfl, by decide +kernel, rfl, by decide +kernel, by decide +kernel⟩
theorem ndLsame : (nLsame : List Str).Nodup := scLsame.nd
/-! ### _law_word -/
abbrev sLword : Stmt := topS 14
abbrev nLword : List Str := ["picks", "letters", "pick"]
theorem scLword : FnScope nLword ["picks", "letters"] (defScope sLword) := ⟨rfl, rfl, rfl, by decide +kernel, rfl, by decide +kernel, by decide +kernel⟩
theorem ndLword : (nLword : List Str).Nodup := scLword.nd
/-! ### _law_on -/
abbrev sLon : Stmt := topS 16
abbrev nLon : List Str := ["ladder", "word", "ends", "letter", "found", "at", "j", "behind"]
theorem scLon : FnScope nLon ["ladder", "word"] (defScope sLon) := ⟨rfl, rfl, rfl, by decide +kernel, rfl, by decide +kernel, by decide +kernel⟩
theorem ndLon : (nLon : List Str).Nodup := scLon.nd
/-! ### takes -/
abbrev stakes : Stmt := topS 4
abbrev ntakes : List Str := ["step", "index"]
theorem sctakes : FnScope ntakes ["step", "index"] (defScope stakes) := ⟨rfl, rfl, rfl, by decide +kernel, rfl, by decide +kernel, by decide +kernel⟩
theorem ndtakes : (ntakes : List Str).Nodup := sctakes.nd
/-! ### step_within -/
abbrev sstep_within : Stmt := topS 6
abbrev nstep_within : List Str := ["one", "other"]
theorem scstep_within : FnScope nstep_within ["one", "other"] (defScope sstep_within) := ⟨rfl, rfl, rfl, by decide +kernel, rfl, by decide +kernel, by decide +kernel⟩
theorem ndstep_within : (nstep_within : List Str).Nodup := scstep_within.nd
/-! ### spare_step -/
abbrev sspare_step : Stmt := topS 8
abbrev nspare_step : List Str := ["ladder", "index", "near"]
theorem scspare_step : FnScope nspare_step ["ladder"] (defScope sspare_step) := ⟨rfl, rfl, rfl, by decide +kernel, rfl, by decide +kernel, by decide +kernel⟩
theorem ndspare_step : (nspare_step : List Str).Nodup := scspare_step.nd
/-! ### is_tight -/
abbrev sis_tight : Stmt := topS 9
abbrev nis_tight : List Str := ["ladder"]
theorem scis_tight : FnScope nis_tight ["ladder"] (defScope sis_tight) := ⟨rfl, rfl, rfl, by decide +kernel, rfl, by decide +kernel, by decide +kernel⟩
theorem ndis_tight : (nis_tight : List Str).Nodup := scis_tight.nd
/-! ### _law_telling -/
abbrev sLtelling : Stmt := topS 20
abbrev nLtelling : List Str := ["ladder", "many", "word", "step", "i"]
theorem scLtelling : FnScope nLtelling ["ladder", "many"] (defScope sLtelling) := ⟨rfl, rfl, rfl, by decide +kernel, rfl, by decide +kernel, by decide +kernel⟩
theorem ndLtelling : (nLtelling : List Str).Nodup := scLtelling.nd
/-! ### letter_index -/
abbrev sletter_index : Stmt := topS 2
abbrev nletter_index : List Str := ["letter"]
theorem scletter_index : FnScope nletter_index ["letter"] (defScope sletter_index) := ⟨rfl, rfl, rfl, by decide +kernel, rfl, by decide +kernel, by decide +kernel⟩
theorem ndletter_index : (nletter_index : List Str).Nodup := scletter_index.nd
/-! ### on_ladder -/
abbrev son_ladder : Stmt := topS 5
abbrev non_ladder : List Str := ["ladder", "word", "at", "letter", "index"]
theorem scon_ladder : FnScope non_ladder ["ladder", "word"] (defScope son_ladder) := ⟨rfl, rfl, rfl, by decide +kernel, rfl, by decide +kernel, by decide +kernel⟩
theorem ndon_ladder : (non_ladder : List Str).Nodup := scon_ladder.nd
/-! ### ladder_within -/
abbrev sladder_within : Stmt := topS 7
abbrev nladder_within : List Str := ["first", "second", "at", "step"]
theorem scladder_within : FnScope nladder_within ["first", "second"] (defScope sladder_within) := ⟨rfl, rfl, rfl, by decide +kernel, rfl, by decide +kernel, by decide +kernel⟩
theorem ndladder_within : (nladder_within : List Str).Nodup := scladder_within.nd
/-! ### law -/
abbrev slaw : Stmt := topS 21
abbrev nlaw : List Str := ["script", "shape", "letters", "one", "two", "at", "ladders", "ladder", "j", "word", "tight", "first", "second", "due"]
theorem sclaw : FnScope nlaw ["script"] (defScope slaw) := ⟨rfl, rfl, rfl, by decide +kernel, rfl, by decide +kernel, by decide +kernel⟩
theorem ndlaw : (nlaw : List Str).Nodup := sclaw.nd
/-! ### the text -/
structure Txt (K : PySem.W.Frag) (mg : Str → Option Value) : Prop where
  d_Lnumber : Def K mg "_law_number" sLnumber
  d_Ldraws : Def K mg "_law_draws" sLdraws
  d_Lladder : Def K mg "_law_ladder" sLladder
  d_Ltakes : Def K mg "_law_takes" sLtakes
  d_Lspare : Def K mg "_law_spare" sLspare
  d_Ltight : Def K mg "_law_tight" sLtight
  d_Lsame : Def K mg "_law_same" sLsame
  d_Lword : Def K mg "_law_word" sLword
  d_Lon : Def K mg "_law_on" sLon
  d_takes : Def K mg "takes" stakes
  d_step_within : Def K mg "step_within" sstep_within
  d_spare_step : Def K mg "spare_step" sspare_step
  d_is_tight : Def K mg "is_tight" sis_tight
  d_Ltelling : Def K mg "_law_telling" sLtelling
  d_letter_index : Def K mg "letter_index" sletter_index
  d_on_ladder : Def K mg "on_ladder" son_ladder
  d_ladder_within : Def K mg "ladder_within" sladder_within
  d_law : Def K mg "law" slaw
  z_abs : mg "abs" = none
  z_bool : mg "bool" = none
  z_int : mg "int" = none
  z_isinstance : mg "isinstance" = none
  z_len : mg "len" = none
  z_list : mg "list" = none
  z_range : mg "range" = none
  z_str : mg "str" = none
  z_sum : mg "sum" = none
  z_tuple : mg "tuple" = none
  k_LETTERS : ∃ t, mg "LETTERS" = some (.str "abc" t)
variable {P : Program} {w : World} {K : PySem.W.Frag} {mg : Str → Option Value} {base : Heap}
theorem Txt.c_LETTERS {X : Cx} {W : WX} {pos : Pos} (T : Txt X.K X.mg) (hg : Gl X "LETTERS") : PX X W true (.Name "LETTERS" pos) (eC (.str [97, 98, 99])) := by
  obtain ⟨t, h⟩ := T.k_LETTERS
  exact px_glob (v := .str (S [97, 98, 99])) (fun _ => .str _) h ⟨t, congrArg (fun z => Value.str z t) (by decide +kernel : ("abc" : Str) = S [97, 98, 99])⟩ hg
theorem okLnumber (T : Txt K mg)  : Cal P w K mg base 1 "_law_number" ["script", "k"] MLnumber :=
  cal_of T.d_Lnumber scLnumber (fun _ _ _ _ _ _ us hl => match us, hl with | [_, _], _ => rfl) fun f cdv A outer s H E hr =>
    (pxs_cons (pxs_set 2 (px_op op_addD ok_add (px_op (op_mul.or op_mulS) ok_mul (px_fn (cr_sum rfl) ok_sum T.z_sum (pxa_cons (px_v 0) pxa_nil)) px_int) (px_op (op_mul.or op_mulS) ok_mul px_int (px_op op_addD ok_add (px_v 1) px_int))) ndLnumber)
    (pxs_cons (pxs_if (pxt_cmp op_lt (ok_rel (f := fun i j => decide (i < j))) (px_v 1) (px_fn call_lenA ok_len T.z_len (pxa_cons (px_v 0) pxa_nil)) (nomark _))
    (pxs_one (pxs_set 2 (px_ix (px_v 0) (px_v 1)) ndLnumber))
    pxs_nil)
    (pxs_one (pxs_ret (px_fn call_abs ok_abs T.z_abs (pxa_cons (px_v 2) pxa_nil))))))
theorem okLdraws (T : Txt K mg) (CLnumber : Cal P w K mg base 1 "_law_number" ["script", "k"] MLnumber) : Cal P w K mg base 2 "_law_draws" ["script", "k", "count", "many"] MLdraws :=
  cal_of T.d_Ldraws scLdraws (fun _ _ _ _ _ _ us hl => match us, hl with | [_, _, _, _], _ => rfl) fun f cdv A outer s H E hr =>
    (pxs_cons (pxs_set 4 (px_callC CLnumber hr (by decide) (pxa_cons (px_v 0) (pxa_cons (px_v 1) pxa_nil)) (fun _ _ => (len_cons fun _ => (len_cons fun _ => len_nil)))) ndLdraws)
    (pxs_cons (pxs_setO 5 (pf_lst pxa_nil) ndLdraws)
    (pxs_cons (pxs_if (pxt_cmp op_ge (ok_rel (f := fun i j => decide (j ≤ i))) (px_v 4) (px_op op_pow ok_pow px_int px_int) (nomark _))
    (pxs_cons (pxs_set 4 (px_op op_sub ok_sub (px_v 4) (px_op op_pow ok_pow px_int px_int)) ndLdraws)
    (pxs_cons (pxs_for 6 PassesOwn.never rfl (src_r1 (b' := true) T.z_range (px_v 2))
    (pxs_cons (pxs_app 5 (px_op op_mod ok_mod (px_v 4) (px_v 3)))
    (pxs_one (pxs_set 4 (px_op op_fdiv ok_div (px_v 4) (px_v 3)) ndLdraws))) ndLdraws)
    (pxs_one (pxs_fz 5 (pxs_ret (px_v 5))))))
    pxs_nil)
    (pxs_cons (pxs_set 7 (px_op op_addD ok_add (px_op op_mod ok_mod (px_v 4) px_int) px_int) ndLdraws)
    (pxs_cons (pxs_for 6 PassesOwn.never rfl (src_r1 (b' := true) T.z_range (px_v 2))
    (pxs_cons (pxs_set 7 (px_op op_mod ok_mod (px_op op_addD ok_add (px_op op_addD ok_add (px_op (op_mul.or op_mulS) ok_mul (px_v 7) px_int) (px_op (op_mul.or op_mulS) ok_mul px_int (px_v 6))) px_int) px_int) ndLdraws)
    (pxs_cons (pxs_set 8 (px_op op_mod ok_mod (px_op op_addD ok_add (px_op op_addD ok_add (px_op (op_mul.or op_mulS) ok_mul (px_v 7) (px_v 7)) (px_op (op_mul.or op_mulS) ok_mul px_int (px_v 6))) px_int) px_int) ndLdraws)
    (pxs_one (pxs_app 5 (px_op op_mod ok_mod (px_op op_fdiv ok_div (px_v 8) px_int) (px_v 3)))))) ndLdraws)
    (pxs_one (pxs_fz 5 (pxs_ret (px_v 5)))))))))
theorem okLladder (T : Txt K mg)  : Cal P w K mg base 1 "_law_ladder" ["picks", "letters"] MLladder :=
  cal_of T.d_Lladder scLladder (fun _ _ _ _ _ _ us hl => match us, hl with | [_, _], _ => rfl) fun f cdv A outer s H E hr =>
    (pxs_cons (pxs_setO 2 (pf_lst pxa_nil) ndLladder)
    (pxs_cons (pxs_for 3 PassesOwn.never rfl (src_any (px_v 0))
    (pxs_one (pxs_app 2 (px_ix (px_lst (pxa_cons (px_tup (pxa_cons (px_str [109, 97, 121, 98, 101]) (pxa_cons (px_op op_mod ok_mod (px_op op_fdiv ok_div (px_v 3) px_int) (px_v 1)) pxa_nil))) (pxa_cons (px_tup (pxa_cons (px_str [97, 110, 121]) (pxa_cons (px_op op_addD ok_add px_int (px_op op_mod ok_mod (px_op op_fdiv ok_div (px_v 3) px_int) (px_op op_sub ok_sub (px_op op_shl ok_shl px_int (px_v 1)) px_int))) pxa_nil))) pxa_nil))) (px_op op_mod ok_mod (px_v 3) px_int)))) ndLladder)
    (pxs_one (pxs_ret (px_ty call_tuple_of ok_tuple T.z_tuple (pxa_cons (px_l 2) pxa_nil))))))
theorem okLtakes (T : Txt K mg)  : Cal P w K mg base 1 "_law_takes" ["step", "i"] MLtakes :=
  cal_of T.d_Ltakes scLtakes (fun _ _ _ _ _ _ us hl => match us, hl with | [_, _], _ => rfl) fun f cdv A outer s H E hr =>
    (pxs_cons (pxs_if (pxt_cmp (op_eqD hr.units) ok_eq (px_ix (px_v 0) px_int) (px_str [109, 97, 121, 98, 101]) (nomark _))
    (pxs_one (pxs_ret (px_cmp (op_eqD hr.units) ok_eq (px_ix (px_v 0) px_int) (px_v 1) (nomark _))))
    pxs_nil)
    (pxs_one (pxs_ret (px_cmp (op_eqD hr.units) ok_eq (px_op op_and (ok_bit (f := Builtin.bitAnd)) (px_op op_shr ok_shr (px_ix (px_v 0) px_int) (px_v 1)) px_int) px_int (nomark _)))))
theorem okLspare (T : Txt K mg) (CLtakes : Cal P w K mg base 1 "_law_takes" ["step", "i"] MLtakes) : Cal P w K mg base 2 "_law_spare" ["ladder"] MLspare :=
  cal_of T.d_Lspare scLspare (fun _ _ _ _ _ _ us hl => match us, hl with | [_], _ => rfl) fun f cdv A outer s H E hr =>
    (pxs_cons (pxs_setO 1 (pf_lst pxa_nil) ndLspare)
    (pxs_cons (pxs_for 2 PassesOwn.never rfl (src_r1 (b' := true) T.z_range (px_fn call_lenA ok_len T.z_len (pxa_cons (px_v 0) pxa_nil)))
    (pxs_one (pxs_for 3 PassesOwn.never rfl (src_any (px_lst (pxa_cons (px_op op_sub ok_sub (px_v 2) px_int) (pxa_cons (px_op op_addD ok_add (px_v 2) px_int) pxa_nil))))
    (pxs_one (pxs_if (PXW.pt (pxw_and (pxt_chain op_le op_lt (ok_rel (f := fun i j => decide (i ≤ j))) (ok_rel (f := fun i j => decide (i < j))) px_int (px_v 3) (px_fn call_lenA ok_len T.z_len (pxa_cons (px_v 0) pxa_nil))) (pxw_and1 (pxt_cmp (op_eqD hr.units) ok_eq (px_ix (px_ix (px_v 0) (px_v 3)) px_int) (px_str [97, 110, 121]) (nomark _)))))
    (pxs_cons (pxs_if (pxt_cmp (op_eqD hr.units) ok_eq (px_ix (px_ix (px_v 0) (px_v 2)) px_int) (px_str [109, 97, 121, 98, 101]) (nomark _))
    (pxs_one (pxs_set 4 (px_callC CLtakes hr (by decide) (pxa_cons (px_ix (px_v 0) (px_v 3)) (pxa_cons (px_ix (px_ix (px_v 0) (px_v 2)) px_int) pxa_nil)) (fun _ _ => (len_cons fun _ => (len_cons fun _ => len_nil)))) ndLspare))
    (pxs_one (pxs_set 4 (px_cmp (op_eqD hr.units) ok_eq (px_op op_and (ok_bit (f := Builtin.bitAnd)) (px_ix (px_ix (px_v 0) (px_v 2)) px_int) (px_ix (px_ix (px_v 0) (px_v 3)) px_int)) (px_ix (px_ix (px_v 0) (px_v 2)) px_int) (nomark _)) ndLspare)))
    (pxs_one (pxs_if (pxt_truth (px_v 4))
    (pxs_one (pxs_app 1 (px_v 2)))
    pxs_nil)))
    pxs_nil)) ndLspare)) ndLspare)
    (pxs_one (pxs_fz 1 (pxs_ret (px_v 1))))))
theorem okLtight (T : Txt K mg) (CLspare : Cal P w K mg base 2 "_law_spare" ["ladder"] MLspare) : Cal P w K mg base 3 "_law_tight" ["ladder"] MLtight :=
  cal_of T.d_Ltight scLtight (fun _ _ _ _ _ _ us hl => match us, hl with | [_], _ => rfl) fun f cdv A outer s H E hr =>
    (pxs_cons (pxs_while wN PassesOwn.never (pxt_cmp op_gt (ok_rel (f := fun i j => decide (j < i))) (px_fn call_lenA ok_len T.z_len (pxa_cons (px_callC CLspare hr (by decide) (pxa_cons (px_v 0) pxa_nil) (fun _ _ => (len_cons fun _ => len_nil))) pxa_nil)) px_int (nomark _))
    (pxs_cons (pxs_set 1 (px_ix (px_callC CLspare hr (by decide) (pxa_cons (px_v 0) pxa_nil) (fun _ _ => (len_cons fun _ => len_nil))) px_int) ndLtight)
    (pxs_one (pxs_set 0 (px_op op_addD ok_add (px_sl (px_v 0) pxo_no (pxo_some (px_v 1))) (px_sl (px_v 0) (pxo_some (px_op op_addD ok_add (px_v 1) px_int)) pxo_no)) ndLtight))))
    (pxs_one (pxs_ret (px_v 0))))
theorem okLsameN (T : Txt K mg)  : ∀ n, Cal P w K mg base (0 + n) "_law_same" ["told", "due"] (MLsameN n)
  | 0 => cal_stuck T.d_Lsame (fun _ _ _ _ _ _ us hl => match us, hl with | [_, _], _ => rfl)
  | n + 1 => by
    have CLsame := okLsameN T  n
    exact cal_of T.d_Lsame scLsame (fun _ _ _ _ _ _ us hl => match us, hl with | [_, _], _ => rfl) fun f cdv A outer s H E hr =>
    (pxs_cons (pxs_if (PXW.pt (pxw_or (pxt_truth (px_is .bool (px_v 1) T.z_isinstance T.z_bool)) (pxw_or1 (pxt_truth (px_is .bool (px_v 0) T.z_isinstance T.z_bool)))))
    (pxs_one (pxs_ret (px_and (px_is .bool (px_v 1) T.z_isinstance T.z_bool) (px_and (px_is .bool (px_v 0) T.z_isinstance T.z_bool) (px_one (px_cmp (op_eqD hr.units) ok_eq (px_v 0) (px_v 1) (nomark _)))))))
    pxs_nil)
    (pxs_cons (pxs_if (PXW.pt (pxw_or (pxt_cmp op_isN ok_is (px_v 1) px_non (nomark _)) (pxw_or1 (pxt_truth (px_is .int (px_v 1) T.z_isinstance T.z_int)))))
    (pxs_one (pxs_ret (px_and (px_cmp (op_eqD hr.units) ok_eq (px_v 0) (px_v 1) (nomark _)) (px_one (px_or (px_cmp op_isN ok_is (px_v 1) px_non (nomark _)) (px_one (px_is .int (px_v 0) T.z_isinstance T.z_int)))))))
    pxs_nil)
    (pxs_cons (pxs_if (pxt_truth (px_is .str (px_v 1) T.z_isinstance T.z_str))
    (pxs_one (pxs_ret (px_and (px_is .str (px_v 0) T.z_isinstance T.z_str) (px_one (px_cmp (op_eqD hr.units) ok_eq (px_v 0) (px_v 1) (nomark _))))))
    pxs_nil)
    (pxs_cons (pxs_if (PXW.pt (pxw_or (pxt_cmp (op_neD hr.units) ok_ne (px_is .list (px_v 1) T.z_isinstance T.z_list) (px_is .list (px_v 0) T.z_isinstance T.z_list) (nomark _)) (pxw_or1 (pxt_cmp (op_neD hr.units) ok_ne (px_is .tuple (px_v 1) T.z_isinstance T.z_tuple) (px_is .tuple (px_v 0) T.z_isinstance T.z_tuple) (nomark _)))))
    (pxs_one (pxs_ret px_bl))
    pxs_nil)
    (pxs_cons (pxs_if (pxt_cmp (op_neD hr.units) ok_ne (px_fn call_lenA ok_len T.z_len (pxa_cons (px_v 0) pxa_nil)) (px_fn call_lenA ok_len T.z_len (pxa_cons (px_v 1) pxa_nil)) (nomark _))
    (pxs_one (pxs_ret px_bl))
    pxs_nil)
    (pxs_cons (pxs_for 2 PassesOwn.never rfl (src_r1 (b' := true) T.z_range (px_fn call_lenA ok_len T.z_len (pxa_cons (px_v 1) pxa_nil)))
    (pxs_one (pxs_if (pxt_not (pxt_truth (px_callC CLsame hr (Nat.le_refl _) (pxa_cons (px_ix (px_v 0) (px_v 2)) (pxa_cons (px_ix (px_v 1) (px_v 2)) pxa_nil)) (fun _ _ => (len_cons fun _ => (len_cons fun _ => len_nil))))))
    (pxs_one (pxs_ret px_bl))
    pxs_nil)) ndLsame)
    (pxs_one (pxs_ret px_bl))))))))
theorem okLsame (T : Txt K mg)  : Cal P w K mg base 64 "_law_same" ["told", "due"] MLsame := okLsameN T  64
theorem okLword (T : Txt K mg)  : Cal P w K mg base 1 "_law_word" ["picks", "letters"] MLword :=
  cal_of T.d_Lword scLword (fun _ _ _ _ _ _ us hl => match us, hl with | [_, _], _ => rfl) fun f cdv A outer s H E hr =>
    (pxs_one (pxs_ret (px_ms PySem.F.slot_str_join PySem.F.type_str_join mt_join ok_join (px_str []) (pxa_cons (px_lc 2 rfl ndLword (src_any (px_v 0)) (blkOk_by (own := [("pick", 2)]) (N := nLword) (by kernel_rfl)) (fun _ _ _ _ _ => pg_name (i := 2) ndLword rfl (Or.inl rfl)) (fun _ _ _ _ _ => pxts_nil) (fun _ _ _ _ _ => (px_ix (px_str [97, 98, 99]) (px_op op_mod ok_mod (px_v 2) (px_v 1))))) pxa_nil))))
theorem okLon (T : Txt K mg) (CLtakes : Cal P w K mg base 1 "_law_takes" ["step", "i"] MLtakes) : Cal P w K mg base 2 "_law_on" ["ladder", "word"] MLon :=
  cal_of T.d_Lon scLon (fun _ _ _ _ _ _ us hl => match us, hl with | [_, _], _ => rfl) fun f cdv A outer s H E hr =>
    (pxs_cons (pxs_set 2 (px_lst (pxa_cons px_int pxa_nil)) ndLon)
    (pxs_cons (pxs_for 3 PassesOwn.never rfl (src_any (px_v 1))
    (pxs_cons (pxs_setO 4 (pf_lst pxa_nil) ndLon)
    (pxs_cons (pxs_for 5 PassesOwn.never rfl (src_any (px_v 2))
    (pxs_one (pxs_for 6 PassesOwn.never rfl (src_r2 (b' := true) T.z_range (px_v 5) (px_fn call_lenA ok_len T.z_len (pxa_cons (px_v 0) pxa_nil)))
    (pxs_one (pxs_if (pxt_truth (px_callC CLtakes hr (by decide) (pxa_cons (px_ix (px_v 0) (px_v 6)) (pxa_cons (px_ms PySem.F.slot_str_index PySem.F.type_str_index mt_sindex ok_sindex (px_str [97, 98, 99]) (pxa_cons (px_v 3) pxa_nil)) pxa_nil)) (fun _ _ => (len_cons fun _ => (len_cons fun _ => len_nil)))))
    (pxs_cons (pxs_set 7 (px_op op_addD ok_add (px_v 6) (px_ty call_int1 ok_int T.z_int (pxa_cons (px_cmp (op_eqD hr.units) ok_eq (px_ix (px_ix (px_v 0) (px_v 6)) px_int) (px_str [109, 97, 121, 98, 101]) (nomark _)) pxa_nil))) ndLon)
    (pxs_one (pxs_if (pxt_cmp (op_notInX (u65 hr)) ok_notInS (px_v 7) (px_l 4) (by rfl))
    (pxs_one (pxs_app 4 (px_v 7)))
    pxs_nil)))
    pxs_nil)) ndLon)) ndLon)
    (pxs_one (pxs_fz 4 (pxs_set 2 (px_v 4) ndLon))))) ndLon)
    (pxs_one (pxs_ret (px_cmp op_gt (ok_rel (f := fun i j => decide (j < i))) (px_fn call_lenA ok_len T.z_len (pxa_cons (px_v 2) pxa_nil)) px_int (nomark _))))))
theorem oktakes (T : Txt K mg)  : Cal P w K mg base 1 "takes" ["step", "index"] Mtakes :=
  cal_of T.d_takes sctakes (fun _ _ _ _ _ _ us hl => match us, hl with | [_, _], _ => rfl) fun f cdv A outer s H E hr =>
    (pxs_cons (pxs_if (pxt_cmp (op_eqD hr.units) ok_eq (px_ix (px_v 0) px_int) (px_str [109, 97, 121, 98, 101]) (nomark _))
    (pxs_one (pxs_ret (px_cmp (op_eqD hr.units) ok_eq (px_ix (px_v 0) px_int) (px_v 1) (nomark _))))
    pxs_nil)
    (pxs_one (pxs_ret (px_cmp (op_eqD hr.units) ok_eq (px_op op_and (ok_bit (f := Builtin.bitAnd)) (px_op op_shr ok_shr (px_ix (px_v 0) px_int) (px_v 1)) px_int) px_int (nomark _)))))
theorem okstep_within (T : Txt K mg) (Ctakes : Cal P w K mg base 1 "takes" ["step", "index"] Mtakes) : Cal P w K mg base 2 "step_within" ["one", "other"] Mstep_within :=
  cal_of T.d_step_within scstep_within (fun _ _ _ _ _ _ us hl => match us, hl with | [_, _], _ => rfl) fun f cdv A outer s H E hr =>
    (pxs_cons (pxs_if (pxt_cmp (op_eqD hr.units) ok_eq (px_ix (px_v 0) px_int) (px_str [109, 97, 121, 98, 101]) (nomark _))
    (pxs_one (pxs_ret (px_callC Ctakes hr (by decide) (pxa_cons (px_v 1) (pxa_cons (px_ix (px_v 0) px_int) pxa_nil)) (fun _ _ => (len_cons fun _ => (len_cons fun _ => len_nil))))))
    pxs_nil)
    (pxs_one (pxs_ret (px_and (px_cmp (op_eqD hr.units) ok_eq (px_ix (px_v 1) px_int) (px_str [97, 110, 121]) (nomark _)) (px_one (px_cmp (op_eqD hr.units) ok_eq (px_op op_and (ok_bit (f := Builtin.bitAnd)) (px_ix (px_v 0) px_int) (px_ix (px_v 1) px_int)) (px_ix (px_v 0) px_int) (nomark _)))))))
theorem okspare_step (T : Txt K mg) (Cstep_within : Cal P w K mg base 2 "step_within" ["one", "other"] Mstep_within) : Cal P w K mg base 3 "spare_step" ["ladder"] Mspare_step :=
  cal_of T.d_spare_step scspare_step (fun _ _ _ _ _ _ us hl => match us, hl with | [_], _ => rfl) fun f cdv A outer s H E hr =>
    (pxs_cons (pxs_for 1 PassesOwn.never rfl (src_r1 (b' := true) T.z_range (px_fn call_lenA ok_len T.z_len (pxa_cons (px_v 0) pxa_nil)))
    (pxs_one (pxs_for 2 PassesOwn.never rfl (src_any (px_tup (pxa_cons (px_op op_sub ok_sub (px_v 1) px_int) (pxa_cons (px_op op_addD ok_add (px_v 1) px_int) pxa_nil))))
    (pxs_one (pxs_if (PXW.pt (pxw_and (pxt_chain op_le op_lt (ok_rel (f := fun i j => decide (i ≤ j))) (ok_rel (f := fun i j => decide (i < j))) px_int (px_v 2) (px_fn call_lenA ok_len T.z_len (pxa_cons (px_v 0) pxa_nil))) (pxw_and (pxt_cmp (op_eqD hr.units) ok_eq (px_ix (px_ix (px_v 0) (px_v 2)) px_int) (px_str [97, 110, 121]) (nomark _)) (pxw_and1 (pxt_truth (px_callC Cstep_within hr (by decide) (pxa_cons (px_ix (px_v 0) (px_v 1)) (pxa_cons (px_ix (px_v 0) (px_v 2)) pxa_nil)) (fun _ _ => (len_cons fun _ => (len_cons fun _ => len_nil)))))))))
    (pxs_one (pxs_ret (px_v 1)))
    pxs_nil)) ndspare_step)) ndspare_step)
    (pxs_one (pxs_ret px_non)))
theorem okis_tight (T : Txt K mg) (Cspare_step : Cal P w K mg base 3 "spare_step" ["ladder"] Mspare_step) : Cal P w K mg base 4 "is_tight" ["ladder"] Mis_tight :=
  cal_of T.d_is_tight scis_tight (fun _ _ _ _ _ _ us hl => match us, hl with | [_], _ => rfl) fun f cdv A outer s H E hr =>
    (pxs_one (pxs_ret (px_cmp op_isN ok_is (px_callC Cspare_step hr (by decide) (pxa_cons (px_v 0) pxa_nil) (fun _ _ => (len_cons fun _ => len_nil))) px_non (nomark _))))
theorem okLtelling (T : Txt K mg)  : Cal P w K mg base 1 "_law_telling" ["ladder", "many"] MLtelling :=
  cal_of T.d_Ltelling scLtelling (fun _ _ _ _ _ _ us hl => match us, hl with | [_, _], _ => rfl) fun f cdv A outer s H E hr =>
    (pxs_cons (pxs_set 2 (px_str []) ndLtelling)
    (pxs_cons (pxs_for 3 PassesOwn.never rfl (src_any (px_v 0))
    (pxs_one (pxs_if (pxt_cmp (op_eqD hr.units) ok_eq (px_ix (px_v 3) px_int) (px_str [109, 97, 121, 98, 101]) (nomark _))
    (pxs_one (pxs_set 2 (px_op op_addD ok_add (px_v 2) (px_ix (px_str [97, 98, 99]) (px_ix (px_v 3) px_int))) ndLtelling))
    (pxs_one (pxs_set 2 (px_op op_addD ok_add (px_v 2) (px_op (op_mul.or op_mulS) ok_mul (px_ms PySem.F.slot_str_join PySem.F.type_str_join mt_join ok_join (px_str []) (pxa_cons (px_lc 4 rfl ndLtelling (src_r1 (b' := true) T.z_range px_int) (blkOk_by (own := [("i", 4)]) (N := nLtelling) (by kernel_rfl)) (fun _ _ _ _ _ => pg_name (i := 4) ndLtelling rfl (Or.inl rfl)) (fun _ _ _ _ _ => (pxts_one (pxt_cmp (op_eqD hr.units) ok_eq (px_op op_and (ok_bit (f := Builtin.bitAnd)) (px_op op_shr ok_shr (px_ix (px_v 3) px_int) (px_v 4)) px_int) px_int (nomark _)))) (fun _ _ _ _ _ => (px_ix (px_str [97, 98, 99]) (px_v 4)))) pxa_nil)) (px_v 1))) ndLtelling)))) ndLtelling)
    (pxs_one (pxs_ret (px_v 2)))))
theorem okletter_index (T : Txt K mg)  : Cal P w K mg base 1 "letter_index" ["letter"] Mletter_index :=
  cal_of T.d_letter_index scletter_index (fun _ _ _ _ _ _ us hl => match us, hl with | [_], _ => rfl) fun f cdv A outer s H E hr =>
    (pxs_one (pxs_ret (px_ms PySem.F.slot_str_index PySem.F.type_str_index mt_sindex ok_sindex (T.c_LETTERS (by rfl)) (pxa_cons (px_v 0) pxa_nil))))
theorem okon_ladder (T : Txt K mg) (Cletter_index : Cal P w K mg base 1 "letter_index" ["letter"] Mletter_index) (Ctakes : Cal P w K mg base 1 "takes" ["step", "index"] Mtakes) : Cal P w K mg base 2 "on_ladder" ["ladder", "word"] Mon_ladder :=
  cal_of T.d_on_ladder scon_ladder (fun _ _ _ _ _ _ us hl => match us, hl with | [_, _], _ => rfl) fun f cdv A outer s H E hr =>
    (pxs_cons (pxs_set 2 px_int ndon_ladder)
    (pxs_cons (pxs_for 3 PassesOwn.never rfl (src_any (px_v 1))
    (pxs_cons (pxs_set 4 (px_callC Cletter_index hr (by decide) (pxa_cons (px_v 3) pxa_nil) (fun _ _ => (len_cons fun _ => len_nil))) ndon_ladder)
    (pxs_cons (pxs_while wN PassesOwn.never (PXW.pt (pxw_and (pxt_cmp op_lt (ok_rel (f := fun i j => decide (i < j))) (px_v 2) (px_fn call_lenA ok_len T.z_len (pxa_cons (px_v 0) pxa_nil)) (nomark _)) (pxw_and1 (pxt_not (pxt_truth (px_callC Ctakes hr (by decide) (pxa_cons (px_ix (px_v 0) (px_v 2)) (pxa_cons (px_v 4) pxa_nil)) (fun _ _ => (len_cons fun _ => (len_cons fun _ => len_nil)))))))))
    (pxs_one (pxs_set 2 (px_op op_addD ok_add (px_v 2) px_int) ndon_ladder)))
    (pxs_cons (pxs_if (pxt_cmp (op_eqD hr.units) ok_eq (px_v 2) (px_fn call_lenA ok_len T.z_len (pxa_cons (px_v 0) pxa_nil)) (nomark _))
    (pxs_one (pxs_ret px_bl))
    pxs_nil)
    (pxs_one (pxs_if (pxt_cmp (op_eqD hr.units) ok_eq (px_ix (px_ix (px_v 0) (px_v 2)) px_int) (px_str [109, 97, 121, 98, 101]) (nomark _))
    (pxs_one (pxs_set 2 (px_op op_addD ok_add (px_v 2) px_int) ndon_ladder))
    pxs_nil))))) ndon_ladder)
    (pxs_one (pxs_ret px_bl))))
theorem okladder_within (T : Txt K mg) (Cstep_within : Cal P w K mg base 2 "step_within" ["one", "other"] Mstep_within) : Cal P w K mg base 3 "ladder_within" ["first", "second"] Mladder_within :=
  cal_of T.d_ladder_within scladder_within (fun _ _ _ _ _ _ us hl => match us, hl with | [_, _], _ => rfl) fun f cdv A outer s H E hr =>
    (pxs_cons (pxs_set 2 px_int ndladder_within)
    (pxs_cons (pxs_for 3 PassesOwn.never rfl (src_any (px_v 0))
    (pxs_cons (pxs_while wN PassesOwn.never (PXW.pt (pxw_and (pxt_cmp op_lt (ok_rel (f := fun i j => decide (i < j))) (px_v 2) (px_fn call_lenA ok_len T.z_len (pxa_cons (px_v 1) pxa_nil)) (nomark _)) (pxw_and1 (pxt_not (pxt_truth (px_callC Cstep_within hr (by decide) (pxa_cons (px_v 3) (pxa_cons (px_ix (px_v 1) (px_v 2)) pxa_nil)) (fun _ _ => (len_cons fun _ => (len_cons fun _ => len_nil)))))))))
    (pxs_one (pxs_set 2 (px_op op_addD ok_add (px_v 2) px_int) ndladder_within)))
    (pxs_cons (pxs_if (pxt_cmp (op_eqD hr.units) ok_eq (px_v 2) (px_fn call_lenA ok_len T.z_len (pxa_cons (px_v 1) pxa_nil)) (nomark _))
    (pxs_one (pxs_ret px_bl))
    pxs_nil)
    (pxs_one (pxs_if (pxt_cmp (op_eqD hr.units) ok_eq (px_ix (px_ix (px_v 1) (px_v 2)) px_int) (px_str [109, 97, 121, 98, 101]) (nomark _))
    (pxs_one (pxs_set 2 (px_op op_addD ok_add (px_v 2) px_int) ndladder_within))
    pxs_nil)))) ndladder_within)
    (pxs_one (pxs_ret px_bl))))
theorem oklaw {f : Addr} {fd : FuncData} (F : Fun K "law" "law" slaw f fd) (T : Txt K mg) (CLdraws : Cal P w K mg base 2 "_law_draws" ["script", "k", "count", "many"] MLdraws) (CLladder : Cal P w K mg base 1 "_law_ladder" ["picks", "letters"] MLladder) (CLsame : Cal P w K mg base 64 "_law_same" ["told", "due"] MLsame) (Cis_tight : Cal P w K mg base 4 "is_tight" ["ladder"] Mis_tight) (CLspare : Cal P w K mg base 2 "_law_spare" ["ladder"] MLspare) (CLword : Cal P w K mg base 1 "_law_word" ["picks", "letters"] MLword) (Con_ladder : Cal P w K mg base 2 "on_ladder" ["ladder", "word"] Mon_ladder) (CLon : Cal P w K mg base 2 "_law_on" ["ladder", "word"] MLon) (CLtight : Cal P w K mg base 3 "_law_tight" ["ladder"] MLtight) (CLtelling : Cal P w K mg base 1 "_law_telling" ["ladder", "many"] MLtelling) (Cladder_within : Cal P w K mg base 3 "ladder_within" ["first", "second"] Mladder_within) : FnM P w K mg base 65 f fd ["script"] Mlaw :=
  fnm_of F sclaw fun cdv A outer s H E hr =>
    (pxs_cons (pxs_set 1 (px_callC CLdraws hr (by decide) (pxa_cons (px_v 0) (pxa_cons px_int (pxa_cons px_int (pxa_cons px_int pxa_nil)))) (fun _ _ => (len_cons fun _ => (len_cons fun _ => (len_cons fun _ => (len_cons fun _ => len_nil)))))) ndlaw)
    (pxs_cons (pxs_set 2 (px_op op_addD ok_add px_int (px_op op_mod ok_mod (px_ix (px_v 1) px_int) px_int)) ndlaw)
    (pxs_cons (pxs_set 3 (px_callC CLladder hr (by decide) (pxa_cons (px_callC CLdraws hr (by decide) (pxa_cons (px_v 0) (pxa_cons px_int (pxa_cons (px_op op_mod ok_mod (px_ix (px_v 1) px_int) px_int) (pxa_cons px_int pxa_nil)))) (fun _ _ => (len_cons fun _ => (len_cons fun _ => (len_cons fun _ => (len_cons fun _ => len_nil)))))) (pxa_cons (px_v 2) pxa_nil)) (fun _ _ => (len_cons fun _ => (len_cons fun _ => len_nil)))) ndlaw)
    (pxs_cons (pxs_set 4 (px_callC CLladder hr (by decide) (pxa_cons (px_callC CLdraws hr (by decide) (pxa_cons (px_v 0) (pxa_cons px_int (pxa_cons (px_op op_mod ok_mod (px_ix (px_v 1) px_int) px_int) (pxa_cons px_int pxa_nil)))) (fun _ _ => (len_cons fun _ => (len_cons fun _ => (len_cons fun _ => (len_cons fun _ => len_nil)))))) (pxa_cons (px_v 2) pxa_nil)) (fun _ _ => (len_cons fun _ => (len_cons fun _ => len_nil)))) ndlaw)
    (pxs_cons (pxs_set 5 (px_op op_mod ok_mod (px_ix (px_v 1) px_int) (px_op op_addD ok_add (px_fn call_lenA ok_len T.z_len (pxa_cons (px_v 3) pxa_nil)) px_int)) ndlaw)
    (pxs_cons (pxs_set 6 (px_lst (pxa_cons (px_v 3) (pxa_cons (px_v 4) (pxa_cons (px_op op_addD ok_add (px_sl (px_v 3) pxo_no (pxo_some (px_v 5))) (px_sl (px_v 3) (pxo_some (px_op op_addD ok_add (px_v 5) px_int)) pxo_no)) (pxa_cons (px_op op_addD ok_add (px_op op_addD ok_add (px_sl (px_v 3) pxo_no (pxo_some (px_v 5))) (px_v 4)) (px_sl (px_v 3) (pxo_some (px_v 5)) pxo_no)) pxa_nil))))) ndlaw)
    (pxs_cons (pxs_for 7 PassesOwn.never rfl (src_any (px_v 6))
    (pxs_cons (pxs_if (pxt_not (pxt_truth (px_callC CLsame hr (by decide) (pxa_cons (px_callC Cis_tight hr (by decide) (pxa_cons (px_v 7) pxa_nil) (fun _ _ => (len_cons fun _ => len_nil))) (pxa_cons (px_cmp (op_eqD hr.units) ok_eq (px_fn call_lenA ok_len T.z_len (pxa_cons (px_callC CLspare hr (by decide) (pxa_cons (px_v 7) pxa_nil) (fun _ _ => (len_cons fun _ => len_nil))) pxa_nil)) px_int (nomark _)) pxa_nil)) (fun _ _ => (len_cons fun _ => (len_cons fun _ => len_nil))))))
    (pxs_one (pxs_ret px_bl))
    pxs_nil)
    (pxs_one (pxs_for 8 PassesOwn.never rfl (src_r1 (b' := true) T.z_range px_int)
    (pxs_cons (pxs_set 9 (px_callC CLword hr (by decide) (pxa_cons (px_callC CLdraws hr (by decide) (pxa_cons (px_v 0) (pxa_cons (px_op op_addD ok_add px_int (px_v 8)) (pxa_cons (px_op op_mod ok_mod (px_op op_addD ok_add (px_ix (px_v 1) px_int) (px_op (op_mul.or op_mulS) ok_mul px_int (px_v 8))) px_int) (pxa_cons px_int pxa_nil)))) (fun _ _ => (len_cons fun _ => (len_cons fun _ => (len_cons fun _ => (len_cons fun _ => len_nil)))))) (pxa_cons (px_v 2) pxa_nil)) (fun _ _ => (len_cons fun _ => (len_cons fun _ => len_nil)))) ndlaw)
    (pxs_one (pxs_if (pxt_not (pxt_truth (px_callC CLsame hr (by decide) (pxa_cons (px_callC Con_ladder hr (by decide) (pxa_cons (px_v 7) (pxa_cons (px_v 9) pxa_nil)) (fun _ _ => (len_cons fun _ => (len_cons fun _ => len_nil)))) (pxa_cons (px_callC CLon hr (by decide) (pxa_cons (px_v 7) (pxa_cons (px_v 9) pxa_nil)) (fun _ _ => (len_cons fun _ => (len_cons fun _ => len_nil)))) pxa_nil)) (fun _ _ => (len_cons fun _ => (len_cons fun _ => len_nil))))))
    (pxs_one (pxs_ret px_bl))
    pxs_nil))) ndlaw))) ndlaw)
    (pxs_cons (pxs_setLc 10 7 rfl ndlaw (sw_true rfl rfl rfl (by decide +kernel)) (src_any (px_v 6)) (blkOk_by (own := [("ladder", 7)]) (N := nlaw) (by kernel_rfl)) (fun _ _ _ _ _ => pg_name (i := 7) ndlaw rfl (Or.inl rfl)) (fun _ _ _ _ _ => pxts_nil) (fun _ _ _ _ _ => (px_callC CLtight hr (by decide) (pxa_cons (px_v 7) pxa_nil) (fun _ _ => (len_cons fun _ => len_nil)))))
    (pxs_cons (pxs_for 11 PassesOwn.never rfl (src_any (px_v 10))
    (pxs_one (pxs_for 12 PassesOwn.never rfl (src_any (px_v 10))
    (pxs_cons (pxs_set 13 (px_callC CLon hr (by decide) (pxa_cons (px_v 12) (pxa_cons (px_callC CLtelling hr (by decide) (pxa_cons (px_v 11) (pxa_cons (px_op op_addD ok_add (px_fn call_lenA ok_len T.z_len (pxa_cons (px_v 12) pxa_nil)) px_int) pxa_nil)) (fun _ _ => (len_cons fun _ => (len_cons fun _ => len_nil)))) pxa_nil)) (fun _ _ => (len_cons fun _ => (len_cons fun _ => len_nil)))) ndlaw)
    (pxs_one (pxs_if (pxt_not (pxt_truth (px_callC CLsame hr (by decide) (pxa_cons (px_callC Cladder_within hr (by decide) (pxa_cons (px_v 11) (pxa_cons (px_v 12) pxa_nil)) (fun _ _ => (len_cons fun _ => (len_cons fun _ => len_nil)))) (pxa_cons (px_v 13) pxa_nil)) (fun _ _ => (len_cons fun _ => (len_cons fun _ => len_nil))))))
    (pxs_one (pxs_ret px_bl))
    pxs_nil))) ndlaw)) ndlaw)
    (pxs_one (pxs_ret px_bl)))))))))))
theorem all {f : Addr} {fd : FuncData} (F : Fun K "law" "law" slaw f fd) (T : Txt K mg) : FnM P w K mg base 65 f fd ["script"] Mlaw := by
  have CLnumber := okLnumber (P := P) (w := w) (base := base) T 
  have CLdraws := okLdraws (P := P) (w := w) (base := base) T CLnumber
  have CLladder := okLladder (P := P) (w := w) (base := base) T 
  have CLtakes := okLtakes (P := P) (w := w) (base := base) T 
  have CLspare := okLspare (P := P) (w := w) (base := base) T CLtakes
  have CLtight := okLtight (P := P) (w := w) (base := base) T CLspare
  have CLsame := okLsame (P := P) (w := w) (base := base) T 
  have CLword := okLword (P := P) (w := w) (base := base) T 
  have CLon := okLon (P := P) (w := w) (base := base) T CLtakes
  have Ctakes := oktakes (P := P) (w := w) (base := base) T 
  have Cstep_within := okstep_within (P := P) (w := w) (base := base) T Ctakes
  have Cspare_step := okspare_step (P := P) (w := w) (base := base) T Cstep_within
  have Cis_tight := okis_tight (P := P) (w := w) (base := base) T Cspare_step
  have CLtelling := okLtelling (P := P) (w := w) (base := base) T 
  have Cletter_index := okletter_index (P := P) (w := w) (base := base) T 
  have Con_ladder := okon_ladder (P := P) (w := w) (base := base) T Cletter_index Ctakes
  have Cladder_within := okladder_within (P := P) (w := w) (base := base) T Cstep_within
  exact oklaw F T CLdraws CLladder CLsame Cis_tight CLspare CLword Con_ladder CLon CLtight CLtelling Cladder_within
/-- the law, of the script alone -/
def spLaw (K : PySem.W.Frag) : Sp := fun vs H Q _ => ∃ (a : Addr) (ns : List Int), vs = [.ref a] ∧ SqL K H a (ns.map V.int) ∧ ns.length ≤ 63 ∧ Only H ∧ ∀ H', Q (.bl true) H'
theorem all_mk (hm : ∀ ns : List Int, ns.length ≤ 63 → Mlaw [.lst (ns.map D.int)] = .ok (.bl true)) {P : Program} {w : World} {K : PySem.W.Frag} {h : Heap} {mg : Str → Option Value} {fa : Addr} (X : K.In h) (G : h.Ns mainGlobals mg) (hfa : mg "law" = some (.ref fa))
    {f0 : Addr} {od0 an0 : Option Addr} {sl0 : Array (Option Value)} {oc0 kV0 dc0 pm0 cd0 ct0 : Value} {f1 : Addr} {od1 an1 : Option Addr} {sl1 : Array (Option Value)} {oc1 kV1 dc1 pm1 cd1 ct1 : Value} {f2 : Addr} {od2 an2 : Option Addr} {sl2 : Array (Option Value)} {oc2 kV2 dc2 pm2 cd2 ct2 : Value} {f3 : Addr} {od3 an3 : Option Addr} {sl3 : Array (Option Value)} {oc3 kV3 dc3 pm3 cd3 ct3 : Value} {f4 : Addr} {od4 an4 : Option Addr} {sl4 : Array (Option Value)} {oc4 kV4 dc4 pm4 cd4 ct4 : Value} {f5 : Addr} {od5 an5 : Option Addr} {sl5 : Array (Option Value)} {oc5 kV5 dc5 pm5 cd5 ct5 : Value} {f6 : Addr} {od6 an6 : Option Addr} {sl6 : Array (Option Value)} {oc6 kV6 dc6 pm6 cd6 ct6 : Value} {f7 : Addr} {od7 an7 : Option Addr} {sl7 : Array (Option Value)} {oc7 kV7 dc7 pm7 cd7 ct7 : Value} {f8 : Addr} {od8 an8 : Option Addr} {sl8 : Array (Option Value)} {oc8 kV8 dc8 pm8 cd8 ct8 : Value} {f9 : Addr} {od9 an9 : Option Addr} {sl9 : Array (Option Value)} {oc9 kV9 dc9 pm9 cd9 ct9 : Value} {f10 : Addr} {od10 an10 : Option Addr} {sl10 : Array (Option Value)} {oc10 kV10 dc10 pm10 cd10 ct10 : Value} {f11 : Addr} {od11 an11 : Option Addr} {sl11 : Array (Option Value)} {oc11 kV11 dc11 pm11 cd11 ct11 : Value} {f12 : Addr} {od12 an12 : Option Addr} {sl12 : Array (Option Value)} {oc12 kV12 dc12 pm12 cd12 ct12 : Value} {f13 : Addr} {od13 an13 : Option Addr} {sl13 : Array (Option Value)} {oc13 kV13 dc13 pm13 cd13 ct13 : Value} {f14 : Addr} {od14 an14 : Option Addr} {sl14 : Array (Option Value)} {oc14 kV14 dc14 pm14 cd14 ct14 : Value} {f15 : Addr} {od15 an15 : Option Addr} {sl15 : Array (Option Value)} {oc15 kV15 dc15 pm15 cd15 ct15 : Value} {f16 : Addr} {od16 an16 : Option Addr} {sl16 : Array (Option Value)} {oc16 kV16 dc16 pm16 cd16 ct16 : Value} {f17 : Addr} {od17 an17 : Option Addr} {sl17 : Array (Option Value)} {oc17 kV17 dc17 pm17 cd17 ct17 : Value} {t0 : Tok}
    (a0 : PySem.W.nsIn K mainGlobals "_law_number" = some (some (.ref f0))) (l0 : K.lookup f0 = some ⟨oc0, od0, .func (PySem.W.fnOf "_law_number" "_law_number" (defArgs sLnumber) (defBody sLnumber) (defScope sLnumber) .none kV0 dc0 pm0 an0 cd0 ct0), sl0⟩) (c0 : PySem.W.codeIn K cd0 "_law_number" = true) (k0 : PySem.W.keepIn K (.ref f0) = true)
    (a1 : PySem.W.nsIn K mainGlobals "_law_draws" = some (some (.ref f1))) (l1 : K.lookup f1 = some ⟨oc1, od1, .func (PySem.W.fnOf "_law_draws" "_law_draws" (defArgs sLdraws) (defBody sLdraws) (defScope sLdraws) .none kV1 dc1 pm1 an1 cd1 ct1), sl1⟩) (c1 : PySem.W.codeIn K cd1 "_law_draws" = true) (k1 : PySem.W.keepIn K (.ref f1) = true)
    (a2 : PySem.W.nsIn K mainGlobals "_law_ladder" = some (some (.ref f2))) (l2 : K.lookup f2 = some ⟨oc2, od2, .func (PySem.W.fnOf "_law_ladder" "_law_ladder" (defArgs sLladder) (defBody sLladder) (defScope sLladder) .none kV2 dc2 pm2 an2 cd2 ct2), sl2⟩) (c2 : PySem.W.codeIn K cd2 "_law_ladder" = true) (k2 : PySem.W.keepIn K (.ref f2) = true)
    (a3 : PySem.W.nsIn K mainGlobals "_law_takes" = some (some (.ref f3))) (l3 : K.lookup f3 = some ⟨oc3, od3, .func (PySem.W.fnOf "_law_takes" "_law_takes" (defArgs sLtakes) (defBody sLtakes) (defScope sLtakes) .none kV3 dc3 pm3 an3 cd3 ct3), sl3⟩) (c3 : PySem.W.codeIn K cd3 "_law_takes" = true) (k3 : PySem.W.keepIn K (.ref f3) = true)
    (a4 : PySem.W.nsIn K mainGlobals "_law_spare" = some (some (.ref f4))) (l4 : K.lookup f4 = some ⟨oc4, od4, .func (PySem.W.fnOf "_law_spare" "_law_spare" (defArgs sLspare) (defBody sLspare) (defScope sLspare) .none kV4 dc4 pm4 an4 cd4 ct4), sl4⟩) (c4 : PySem.W.codeIn K cd4 "_law_spare" = true) (k4 : PySem.W.keepIn K (.ref f4) = true)
    (a5 : PySem.W.nsIn K mainGlobals "_law_tight" = some (some (.ref f5))) (l5 : K.lookup f5 = some ⟨oc5, od5, .func (PySem.W.fnOf "_law_tight" "_law_tight" (defArgs sLtight) (defBody sLtight) (defScope sLtight) .none kV5 dc5 pm5 an5 cd5 ct5), sl5⟩) (c5 : PySem.W.codeIn K cd5 "_law_tight" = true) (k5 : PySem.W.keepIn K (.ref f5) = true)
    (a6 : PySem.W.nsIn K mainGlobals "_law_same" = some (some (.ref f6))) (l6 : K.lookup f6 = some ⟨oc6, od6, .func (PySem.W.fnOf "_law_same" "_law_same" (defArgs sLsame) (defBody sLsame) (defScope sLsame) .none kV6 dc6 pm6 an6 cd6 ct6), sl6⟩) (c6 : PySem.W.codeIn K cd6 "_law_same" = true) (k6 : PySem.W.keepIn K (.ref f6) = true)
    (a7 : PySem.W.nsIn K mainGlobals "_law_word" = some (some (.ref f7))) (l7 : K.lookup f7 = some ⟨oc7, od7, .func (PySem.W.fnOf "_law_word" "_law_word" (defArgs sLword) (defBody sLword) (defScope sLword) .none kV7 dc7 pm7 an7 cd7 ct7), sl7⟩) (c7 : PySem.W.codeIn K cd7 "_law_word" = true) (k7 : PySem.W.keepIn K (.ref f7) = true)
    (a8 : PySem.W.nsIn K mainGlobals "_law_on" = some (some (.ref f8))) (l8 : K.lookup f8 = some ⟨oc8, od8, .func (PySem.W.fnOf "_law_on" "_law_on" (defArgs sLon) (defBody sLon) (defScope sLon) .none kV8 dc8 pm8 an8 cd8 ct8), sl8⟩) (c8 : PySem.W.codeIn K cd8 "_law_on" = true) (k8 : PySem.W.keepIn K (.ref f8) = true)
    (a9 : PySem.W.nsIn K mainGlobals "takes" = some (some (.ref f9))) (l9 : K.lookup f9 = some ⟨oc9, od9, .func (PySem.W.fnOf "takes" "takes" (defArgs stakes) (defBody stakes) (defScope stakes) .none kV9 dc9 pm9 an9 cd9 ct9), sl9⟩) (c9 : PySem.W.codeIn K cd9 "takes" = true) (k9 : PySem.W.keepIn K (.ref f9) = true)
    (a10 : PySem.W.nsIn K mainGlobals "step_within" = some (some (.ref f10))) (l10 : K.lookup f10 = some ⟨oc10, od10, .func (PySem.W.fnOf "step_within" "step_within" (defArgs sstep_within) (defBody sstep_within) (defScope sstep_within) .none kV10 dc10 pm10 an10 cd10 ct10), sl10⟩) (c10 : PySem.W.codeIn K cd10 "step_within" = true) (k10 : PySem.W.keepIn K (.ref f10) = true)
    (a11 : PySem.W.nsIn K mainGlobals "spare_step" = some (some (.ref f11))) (l11 : K.lookup f11 = some ⟨oc11, od11, .func (PySem.W.fnOf "spare_step" "spare_step" (defArgs sspare_step) (defBody sspare_step) (defScope sspare_step) .none kV11 dc11 pm11 an11 cd11 ct11), sl11⟩) (c11 : PySem.W.codeIn K cd11 "spare_step" = true) (k11 : PySem.W.keepIn K (.ref f11) = true)
    (a12 : PySem.W.nsIn K mainGlobals "is_tight" = some (some (.ref f12))) (l12 : K.lookup f12 = some ⟨oc12, od12, .func (PySem.W.fnOf "is_tight" "is_tight" (defArgs sis_tight) (defBody sis_tight) (defScope sis_tight) .none kV12 dc12 pm12 an12 cd12 ct12), sl12⟩) (c12 : PySem.W.codeIn K cd12 "is_tight" = true) (k12 : PySem.W.keepIn K (.ref f12) = true)
    (a13 : PySem.W.nsIn K mainGlobals "_law_telling" = some (some (.ref f13))) (l13 : K.lookup f13 = some ⟨oc13, od13, .func (PySem.W.fnOf "_law_telling" "_law_telling" (defArgs sLtelling) (defBody sLtelling) (defScope sLtelling) .none kV13 dc13 pm13 an13 cd13 ct13), sl13⟩) (c13 : PySem.W.codeIn K cd13 "_law_telling" = true) (k13 : PySem.W.keepIn K (.ref f13) = true)
    (a14 : PySem.W.nsIn K mainGlobals "letter_index" = some (some (.ref f14))) (l14 : K.lookup f14 = some ⟨oc14, od14, .func (PySem.W.fnOf "letter_index" "letter_index" (defArgs sletter_index) (defBody sletter_index) (defScope sletter_index) .none kV14 dc14 pm14 an14 cd14 ct14), sl14⟩) (c14 : PySem.W.codeIn K cd14 "letter_index" = true) (k14 : PySem.W.keepIn K (.ref f14) = true)
    (a15 : PySem.W.nsIn K mainGlobals "on_ladder" = some (some (.ref f15))) (l15 : K.lookup f15 = some ⟨oc15, od15, .func (PySem.W.fnOf "on_ladder" "on_ladder" (defArgs son_ladder) (defBody son_ladder) (defScope son_ladder) .none kV15 dc15 pm15 an15 cd15 ct15), sl15⟩) (c15 : PySem.W.codeIn K cd15 "on_ladder" = true) (k15 : PySem.W.keepIn K (.ref f15) = true)
    (a16 : PySem.W.nsIn K mainGlobals "ladder_within" = some (some (.ref f16))) (l16 : K.lookup f16 = some ⟨oc16, od16, .func (PySem.W.fnOf "ladder_within" "ladder_within" (defArgs sladder_within) (defBody sladder_within) (defScope sladder_within) .none kV16 dc16 pm16 an16 cd16 ct16), sl16⟩) (c16 : PySem.W.codeIn K cd16 "ladder_within" = true) (k16 : PySem.W.keepIn K (.ref f16) = true)
    (a17 : PySem.W.nsIn K mainGlobals "law" = some (some (.ref f17))) (l17 : K.lookup f17 = some ⟨oc17, od17, .func (PySem.W.fnOf "law" "law" (defArgs slaw) (defBody slaw) (defScope slaw) .none kV17 dc17 pm17 an17 cd17 ct17), sl17⟩) (c17 : PySem.W.codeIn K cd17 "law" = true) (k17 : PySem.W.keepIn K (.ref f17) = true)
    (z0 : PySem.W.nsIn K mainGlobals "abs" = some none) (z1 : PySem.W.nsIn K mainGlobals "bool" = some none) (z2 : PySem.W.nsIn K mainGlobals "int" = some none) (z3 : PySem.W.nsIn K mainGlobals "isinstance" = some none) (z4 : PySem.W.nsIn K mainGlobals "len" = some none) (z5 : PySem.W.nsIn K mainGlobals "list" = some none) (z6 : PySem.W.nsIn K mainGlobals "range" = some none) (z7 : PySem.W.nsIn K mainGlobals "str" = some none) (z8 : PySem.W.nsIn K mainGlobals "sum" = some none) (z9 : PySem.W.nsIn K mainGlobals "tuple" = some none)
    (q0 : PySem.W.nsIn K mainGlobals "LETTERS" = some (some (.str "abc" t0))) :
    ∃ fd : FuncData, (∀ (s : Shared) (v : Value), BindsTo s fd ⟨[v], []⟩ [("script", v)]) ∧ ∀ base : Heap, K.In base → base.Ns mainGlobals mg → FnOk P w K mg base CX0 65 fa fd ["script"] (spLaw K) := by
  have e := hfa.symm.trans (PySem.W.mg_of X G a17)
  cases e
  have F := fun_mk (st := slaw) l17 c17 k17
  have T : Txt K mg := ⟨⟨⟨_, _, fun_mk (st := sLnumber) l0 c0 k0, PySem.W.mg_of X G a0⟩⟩, ⟨⟨_, _, fun_mk (st := sLdraws) l1 c1 k1, PySem.W.mg_of X G a1⟩⟩, ⟨⟨_, _, fun_mk (st := sLladder) l2 c2 k2, PySem.W.mg_of X G a2⟩⟩, ⟨⟨_, _, fun_mk (st := sLtakes) l3 c3 k3, PySem.W.mg_of X G a3⟩⟩, ⟨⟨_, _, fun_mk (st := sLspare) l4 c4 k4, PySem.W.mg_of X G a4⟩⟩, ⟨⟨_, _, fun_mk (st := sLtight) l5 c5 k5, PySem.W.mg_of X G a5⟩⟩, ⟨⟨_, _, fun_mk (st := sLsame) l6 c6 k6, PySem.W.mg_of X G a6⟩⟩, ⟨⟨_, _, fun_mk (st := sLword) l7 c7 k7, PySem.W.mg_of X G a7⟩⟩, ⟨⟨_, _, fun_mk (st := sLon) l8 c8 k8, PySem.W.mg_of X G a8⟩⟩, ⟨⟨_, _, fun_mk (st := stakes) l9 c9 k9, PySem.W.mg_of X G a9⟩⟩, ⟨⟨_, _, fun_mk (st := sstep_within) l10 c10 k10, PySem.W.mg_of X G a10⟩⟩, ⟨⟨_, _, fun_mk (st := sspare_step) l11 c11 k11, PySem.W.mg_of X G a11⟩⟩, ⟨⟨_, _, fun_mk (st := sis_tight) l12 c12 k12, PySem.W.mg_of X G a12⟩⟩, ⟨⟨_, _, fun_mk (st := sLtelling) l13 c13 k13, PySem.W.mg_of X G a13⟩⟩, ⟨⟨_, _, fun_mk (st := sletter_index) l14 c14 k14, PySem.W.mg_of X G a14⟩⟩, ⟨⟨_, _, fun_mk (st := son_ladder) l15 c15 k15, PySem.W.mg_of X G a15⟩⟩, ⟨⟨_, _, fun_mk (st := sladder_within) l16 c16 k16, PySem.W.mg_of X G a16⟩⟩, ⟨⟨_, _, fun_mk (st := slaw) l17 c17 k17, PySem.W.mg_of X G a17⟩⟩, PySem.W.mg_none_of X G z0, PySem.W.mg_none_of X G z1, PySem.W.mg_none_of X G z2, PySem.W.mg_none_of X G z3, PySem.W.mg_none_of X G z4, PySem.W.mg_none_of X G z5, PySem.W.mg_none_of X G z6, PySem.W.mg_none_of X G z7, PySem.W.mg_none_of X G z8, PySem.W.mg_none_of X G z9, ⟨_, PySem.W.mg_of X G q0⟩⟩
  refine ⟨_, fun s v => .of_eq rfl, fun base _ _ => FnOk.imp (all F T) fun vs H Q E hsp => ?_⟩
  obtain ⟨a, ns, rfl, hS, hl, hO, q⟩ := hsp
  refine ⟨H, [.lst (ns.map D.int)], rfl, Same.refl _, fun _ _ e _ => e, .cons (.lst hS (RpL.ofInt ns)) .nil, ?_⟩
  rw [hm ns hl]
  intro v G' H' _ _ _ _ _ r
  cases r.blH
  exact q H'
end GW

open PySem PySem.W PyProof.Rows
set_option maxHeartbeats 0 in
theorem PySem.Challenge.cw_viewedwords_k43_steps_of_ladders_holds : PySem.Challenge.rw_viewedwords_k43_steps_of_ladders.Holds := by
  w_on; o_law; k_head; (case hw => w_witness2)
  k_fill
  refine L2.walk_of (l := PySem.Challenge.rw_viewedwords_k43_steps_of_ladders) (n := 63) (k := 65) (x := "script") (CX := fun _ => L2.CX0) (sp := fun w => GW.spLaw _) rfl (by decide) rfl ⟨rfl, by decide, by decide⟩ (fun w h Y => PySem.W.kIn_of Y) ?F (fun _ _ a ns hl hO hS => ⟨a, ns, rfl, hS, hl, hO, fun _ => rfl⟩) (fun _ _ _ _ _ h => h)
  case F =>
    intro w mg fa h KX G hmg
    refine' GW.all_mk (fun ns _ => GW.law_ok ns) KX G hmg ?a0 ?l0 ?c0 ?k0 ?a1 ?l1 ?c1 ?k1 ?a2 ?l2 ?c2 ?k2 ?a3 ?l3 ?c3 ?k3 ?a4 ?l4 ?c4 ?k4 ?a5 ?l5 ?c5 ?k5 ?a6 ?l6 ?c6 ?k6 ?a7 ?l7 ?c7 ?k7 ?a8 ?l8 ?c8 ?k8 ?a9 ?l9 ?c9 ?k9 ?a10 ?l10 ?c10 ?k10 ?a11 ?l11 ?c11 ?k11 ?a12 ?l12 ?c12 ?k12 ?a13 ?l13 ?c13 ?k13 ?a14 ?l14 ?c14 ?k14 ?a15 ?l15 ?c15 ?k15 ?a16 ?l16 ?c16 ?k16 ?a17 ?l17 ?c17 ?k17 ?z0 ?z1 ?z2 ?z3 ?z4 ?z5 ?z6 ?z7 ?z8 ?z9 ?q0
    (case a0 => k_is); (case l0 => k_is); (case c0 => k_is); (case k0 => k_is); (case a1 => k_is); (case l1 => k_is); (case c1 => k_is); (case k1 => k_is); (case a2 => k_is); (case l2 => k_is); (case c2 => k_is); (case k2 => k_is); (case a3 => k_is); (case l3 => k_is); (case c3 => k_is); (case k3 => k_is); (case a4 => k_is); (case l4 => k_is); (case c4 => k_is); (case k4 => k_is); (case a5 => k_is); (case l5 => k_is); (case c5 => k_is); (case k5 => k_is); (case a6 => k_is); (case l6 => k_is); (case c6 => k_is); (case k6 => k_is); (case a7 => k_is); (case l7 => k_is); (case c7 => k_is); (case k7 => k_is); (case a8 => k_is); (case l8 => k_is); (case c8 => k_is); (case k8 => k_is); (case a9 => k_is); (case l9 => k_is); (case c9 => k_is); (case k9 => k_is); (case a10 => k_is); (case l10 => k_is); (case c10 => k_is); (case k10 => k_is); (case a11 => k_is); (case l11 => k_is); (case c11 => k_is); (case k11 => k_is); (case a12 => k_is); (case l12 => k_is); (case c12 => k_is); (case k12 => k_is); (case a13 => k_is); (case l13 => k_is); (case c13 => k_is); (case k13 => k_is); (case a14 => k_is); (case l14 => k_is); (case c14 => k_is); (case k14 => k_is); (case a15 => k_is); (case l15 => k_is); (case c15 => k_is); (case k15 => k_is); (case a16 => k_is); (case l16 => k_is); (case c16 => k_is); (case k16 => k_is); (case a17 => k_is); (case l17 => k_is); (case c17 => k_is); (case k17 => k_is); (case z0 => k_is); (case z1 => k_is); (case z2 => k_is); (case z3 => k_is); (case z4 => k_is); (case z5 => k_is); (case z6 => k_is); (case z7 => k_is); (case z8 => k_is); (case z9 => k_is); (case q0 => k_is)

