import PyProof.Rows.All
import Wide.All
import OpenK.AllK
import Wide.FinOn
import HandS.ForMost
import HandS.Deep
import HandS.TupAny
import HandS.IsInst
import HandS.Replace
import HandS.Sort
import HandS.SortInts
import HandS.Conv
import HandS.More
import HandS.List
import HandS.Small
import HandS.Iter
import HandS.DictComp
import HandS.Style
import KE.SortKeyHeap
import HandS.SortKw
import HandS.Words
import PySem.Challenge.RW_viewedwords_k79_words_of_bonds
set_option Elab.async false
set_option linter.all false
set_option maxRecDepth 100000
set_option maxHeartbeats 4000000
/-! VS: values of Python as deep data, over the abstract heap of the hand layer. -/
namespace VS
open PySem PySem.Spec PyProof.Rows L2

/-! ### data -/
/-- a text by its codes -/
def S (l : List Nat) : Str := ⟨l.toArray⟩
inductive D where
  | non | bl (b : Bool) | int (i : Int) | str (l : List Nat)
  | tup (ds : List D) | lst (ds : List D)
  | dic (ks vs : List D) | dlk (ks vs : List D) | obj (C : Str) (fs : List Str) (vs : List D)
  deriving Inhabited
/-- a value, an error, or no word -/
inductive R (α : Type) where
  | ok (a : α) | ex (e : D) | stuck
def R.bind {α β : Type} (x : R α) (f : α → R β) : R β :=
  match x with
  | .ok a => f a
  | .ex e => .ex e
  | .stuck => .stuck
instance : Monad R where
  pure := .ok
  bind := R.bind
@[simp] theorem ok_bind {α β : Type} (a : α) (f : α → R β) : (R.ok a >>= f) = f a := rfl
@[simp] theorem ex_bind {α β : Type} (e : D) (f : α → R β) : ((R.ex e : R α) >>= f) = .ex e := rfl
@[simp] theorem stuck_bind {α β : Type} (f : α → R β) : ((R.stuck : R α) >>= f) = .stuck := rfl
@[simp] theorem pure_ok {α : Type} (a : α) : (pure a : R α) = .ok a := rfl

structure Wd where
  K : PySem.W.Frag
  mg : Str → Option Value

/-- a key of a plain dict -/
def D.key : D → Option Key
  | .int i => some (.inl i)
  | .str l => some (.inr (S l))
  | _ => none

mutual
inductive Rp (E : Wd) (G : Hp) : V → D → Prop
  | non : Rp E G .non .non
  | bl (b : Bool) : Rp E G (.bl b) (.bl b)
  | int (i : Int) : Rp E G (.int i) (.int i)
  | str (l : List Nat) : Rp E G (.str (S l)) (.str l)
  | tup {a : Addr} {vs : List V} {ds : List D} : SqT E.K G a vs → RpL E G vs ds → Rp E G (.ref a) (.tup ds)
  | lst {a : Addr} {vs : List V} {ds : List D} : SqL E.K G a vs → RpL E G vs ds → Rp E G (.ref a) (.lst ds)
  | dic {a : Addr} {kvs : List (Key × V)} {ks ds : List D} : Rd G a (.dK kvs) → ks.map D.key = kvs.map (fun p => some p.1) → RpL E G (kvs.map (·.2)) ds → Rp E G (.ref a) (.dic ks ds)
  | dlk {a : Addr} {o : Obj} {kvs : List (Key × V)} {ks ds : List D} : G a = some (.frz o (.dK kvs)) → ks.map D.key = kvs.map (fun p => some p.1) → RpL E G (kvs.map (·.2)) ds → Rp E G (.ref a) (.dlk ks ds)
  | obj {a C dx : Addr} {nm : Str} {fvs : List (Str × V)} {fs : List Str} {ds : List D} : G a = some (.ins C dx fvs) → E.mg nm = some (.ref C) → fs = fvs.map (·.1) → RpL E G (fvs.map (·.2)) ds → Rp E G (.ref a) (.obj nm fs ds)
inductive RpL (E : Wd) (G : Hp) : List V → List D → Prop
  | nil : RpL E G [] []
  | cons {v : V} {vs : List V} {d : D} {ds : List D} : Rp E G v d → RpL E G vs ds → RpL E G (v :: vs) (d :: ds)
end

section
variable {E : Wd} {G G' H H' : Hp}
theorem Same.rd (s : Same G G') {a : Addr} {u : HO} (h : Rd G a u) : Rd G' a u := by
  rcases h with h | ⟨o, h⟩
  · exact .inl (s a _ h)
  · exact .inr ⟨o, s a _ h⟩
theorem Same.sqL {K : PySem.W.Frag} (s : Same G G') {a : Addr} {xs : List V} (h : SqL K G a xs) : SqL K G' a xs := s.seq h
theorem Same.sqT {K : PySem.W.Frag} (s : Same G G') {a : Addr} {xs : List V} (h : SqT K G a xs) : SqT K G' a xs := by
  rcases h with h | h
  · exact .inl (Same.rd s h)
  · exact .inr h
mutual
theorem Rp.mono (s : Same G G') : ∀ {v : V} {d : D}, Rp E G v d → Rp E G' v d
  | _, _, .non => .non
  | _, _, .bl b => .bl b
  | _, _, .int i => .int i
  | _, _, .str l => .str l
  | _, _, .tup h r => .tup (Same.sqT s h) (RpL.mono s r)
  | _, _, .lst h r => .lst (Same.sqL s h) (RpL.mono s r)
  | _, _, .dic h e r => .dic (Same.rd s h) e (RpL.mono s r)
  | _, _, .dlk h e r => .dlk (s _ _ h) e (RpL.mono s r)
  | _, _, .obj h e f r => .obj (s _ _ h) e f (RpL.mono s r)
theorem RpL.mono (s : Same G G') : ∀ {vs : List V} {ds : List D}, RpL E G vs ds → RpL E G' vs ds
  | _, _, .nil => .nil
  | _, _, .cons h r => .cons (Rp.mono s h) (RpL.mono s r)
end
theorem RpL.length {vs : List V} {ds : List D} (h : RpL E G vs ds) : vs.length = ds.length := by
  induction ds generalizing vs with
  | nil => cases h; rfl
  | cons d ds ih => cases h with | cons h r => simp [ih r]
theorem RpL.get {vs : List V} {ds : List D} (h : RpL E G vs ds) {i : Nat} {d : D} (e : ds[i]? = some d) : ∃ v, vs[i]? = some v ∧ Rp E G v d := by
  induction ds generalizing vs i with
  | nil => simp at e
  | cons d' ds ih =>
    cases h with
    | cons h r =>
      cases i with
      | zero => simp at e; subst e; exact ⟨_, rfl, h⟩
      | succ i => simp at e; obtain ⟨v, e1, e2⟩ := ih r e; exact ⟨v, by simpa using e1, e2⟩
theorem RpL.getV {vs : List V} {ds : List D} (h : RpL E G vs ds) {i : Nat} {v : V} (e : vs[i]? = some v) : ∃ d, ds[i]? = some d ∧ Rp E G v d := by
  induction ds generalizing vs i with
  | nil => cases h; simp at e
  | cons d' ds ih =>
    cases h with
    | cons h r =>
      cases i with
      | zero => simp at e; subst e; exact ⟨_, rfl, h⟩
      | succ i => simp at e; obtain ⟨v, e1, e2⟩ := ih r e; exact ⟨v, by simpa using e1, e2⟩
theorem RpL.append {vs ws : List V} {ds es : List D} (h : RpL E G vs ds) (k : RpL E G ws es) : RpL E G (vs ++ ws) (ds ++ es) := by
  induction ds generalizing vs with
  | nil => cases h; exact k
  | cons d ds ih => cases h with | cons h r => exact .cons h (ih r)
theorem RpL.take {vs : List V} {ds : List D} (h : RpL E G vs ds) (n : Nat) : RpL E G (vs.take n) (ds.take n) := by
  induction n generalizing vs ds with
  | zero => simp; exact .nil
  | succ n ih => cases h with
    | nil => simp; exact .nil
    | cons h r => simp; exact .cons h (ih r)
theorem RpL.drop {vs : List V} {ds : List D} (h : RpL E G vs ds) (n : Nat) : RpL E G (vs.drop n) (ds.drop n) := by
  induction n generalizing vs ds with
  | zero => simpa using h
  | succ n ih => cases h with
    | nil => simp; exact .nil
    | cons h r => simpa using ih r
theorem RpL.reverse {vs : List V} {ds : List D} (h : RpL E G vs ds) : RpL E G vs.reverse ds.reverse := by
  induction ds generalizing vs with
  | nil => cases h; exact .nil
  | cons d ds ih => cases h with | cons h r => rw [List.reverse_cons, List.reverse_cons]; exact (ih r).append (.cons h .nil)
theorem RpL.set {vs : List V} {ds : List D} (h : RpL E G vs ds) {v : V} {d : D} (r : Rp E G v d) (i : Nat) : RpL E G (vs.set i v) (ds.set i d) := by
  induction ds generalizing vs i with
  | nil => cases h; exact .nil
  | cons d' ds ih =>
    cases h with
    | cons h1 r1 => cases i with
      | zero => exact .cons r r1
      | succ i => exact .cons h1 (ih r1 i)
theorem RpL.int {vs : List V} {ns : List Int} (h : RpL E G vs (ns.map D.int)) : vs = ns.map V.int := by
  induction ns generalizing vs with
  | nil => cases h; rfl
  | cons n ns ih => cases h with | cons h r => cases h; simp [ih r]
theorem RpL.ofInt (ns : List Int) : RpL E G (ns.map V.int) (ns.map D.int) := by
  induction ns with
  | nil => exact .nil
  | cons n ns ih => exact .cons (.int n) ih

/-! ### owned trees -/
end
inductive O where
  | v (d : D) | lst (os : List O) | dic (ks : List D) (os : List O) | obj (C : Str) (fs : List Str) (os : List O)
  deriving Inhabited
mutual
def O.toD : O → D
  | .v d => d
  | .lst os => .lst (O.toDs os)
  | .dic ks os => .dic ks (O.toDs os)
  | .obj C fs os => .obj C fs (O.toDs os)
def O.toDs : List O → List D
  | [] => []
  | o :: os => O.toD o :: O.toDs os
end
@[simp] theorem O.toDs_map (os : List O) : O.toDs os = os.map O.toD := by
  induction os with
  | nil => rfl
  | cons o os ih => simp [O.toDs, ih]
mutual
inductive Own (E : Wd) (G H : Hp) : V → O → List Addr → Prop
  | v {v : V} {d : D} : Rp E G v d → Own E G H v (.v d) []
  | lst {a : Addr} {vs : List V} {os : List O} {fp : List Addr} : H a = some (.lst vs) → OwnL E G H vs os fp → Own E G H (.ref a) (.lst os) (a :: fp)
  | dic {a : Addr} {kvs : List (Key × V)} {ks : List D} {os : List O} {fp : List Addr} : H a = some (.dK kvs) → ks.map D.key = kvs.map (fun p => some p.1) → OwnL E G H (kvs.map (·.2)) os fp → Own E G H (.ref a) (.dic ks os) (a :: fp)
  | obj {a C dx : Addr} {nm : Str} {fvs : List (Str × V)} {fs : List Str} {os : List O} {fp : List Addr} : H a = some (.ins C dx fvs) → E.mg nm = some (.ref C) → fs = fvs.map (·.1) → OwnL E G H (fvs.map (·.2)) os fp → Own E G H (.ref a) (.obj nm fs os) (a :: fp)
inductive OwnL (E : Wd) (G H : Hp) : List V → List O → List Addr → Prop
  | nil : OwnL E G H [] [] []
  | cons {v : V} {vs : List V} {o : O} {os : List O} {fp fq : List Addr} : Own E G H v o fp → OwnL E G H vs os fq → OwnL E G H (v :: vs) (o :: os) (fp ++ fq)
end
section
variable {E : Wd} {G G' H H' : Hp}
/-- what is owned stays where its own objects stay -/
theorem Own.keep (s : Same G G') : ∀ {v : V} {o : O} {fp : List Addr}, Own E G H v o fp → (∀ p ∈ fp, ∀ u, H p = some u → H' p = some u) → Own E G' H' v o fp := by
  intro v o fp h
  refine Own.rec (motive_1 := fun v o fp _ => (∀ p ∈ fp, ∀ u, H p = some u → H' p = some u) → Own E G' H' v o fp) (motive_2 := fun vs os fp _ => (∀ p ∈ fp, ∀ u, H p = some u → H' p = some u) → OwnL E G' H' vs os fp) ?_ ?_ ?_ ?_ ?_ ?_ h
  · intro v d r k; exact .v (r.mono s)
  · intro a vs os fp h r ih k; exact .lst (k a List.mem_cons_self _ h) (ih fun p hp => k p (List.mem_cons_of_mem _ hp))
  · intro a kvs ks os fp h e r ih k; exact .dic (k a List.mem_cons_self _ h) e (ih fun p hp => k p (List.mem_cons_of_mem _ hp))
  · intro a C dx nm fvs fs os fp h e f r ih k; exact .obj (k a List.mem_cons_self _ h) e f (ih fun p hp => k p (List.mem_cons_of_mem _ hp))
  · intro k; exact .nil
  · intro v vs o os fp fq h r ih1 ih2 k; exact .cons (ih1 fun p hp => k p (List.mem_append_left _ hp)) (ih2 fun p hp => k p (List.mem_append_right _ hp))
theorem OwnL.keep (s : Same G G') : ∀ {vs : List V} {os : List O} {fp : List Addr}, OwnL E G H vs os fp → (∀ p ∈ fp, ∀ u, H p = some u → H' p = some u) → OwnL E G' H' vs os fp := by
  intro vs os fp h
  induction os generalizing vs fp with
  | nil => cases h; intro _; exact .nil
  | cons o os ih => cases h with | cons h r => intro k; exact .cons (h.keep s fun p hp => k p (List.mem_append_left _ hp)) (ih r fun p hp => k p (List.mem_append_right _ hp))
/-- an owned tree may be read as data -/
theorem Own.rp (s : Same G H) : ∀ {v : V} {o : O} {fp : List Addr}, Own E G H v o fp → (∀ p ∈ fp, ∀ u, H p = some u → H' p = some u) → Same G H' → Rp E H' v o.toD := by
  intro v o fp h
  refine Own.rec (motive_1 := fun v o fp _ => (∀ p ∈ fp, ∀ u, H p = some u → H' p = some u) → Same G H' → Rp E H' v o.toD) (motive_2 := fun vs os fp _ => (∀ p ∈ fp, ∀ u, H p = some u → H' p = some u) → Same G H' → RpL E H' vs (O.toDs os)) ?_ ?_ ?_ ?_ ?_ ?_ h
  · intro v d r k g; rw [O.toD]; exact r.mono g
  · intro a vs os fp h r ih k g; rw [O.toD]; exact .lst (.inl (.inl (k a List.mem_cons_self _ h))) (ih (fun p hp => k p (List.mem_cons_of_mem _ hp)) g)
  · intro a kvs ks os fp h e r ih k g; rw [O.toD]; exact .dic (.inl (k a List.mem_cons_self _ h)) e (ih (fun p hp => k p (List.mem_cons_of_mem _ hp)) g)
  · intro a C dx nm fvs fs os fp h e f r ih k g; rw [O.toD]; exact .obj (k a List.mem_cons_self _ h) e f (ih (fun p hp => k p (List.mem_cons_of_mem _ hp)) g)
  · intro k g; rw [O.toDs]; exact .nil
  · intro v vs o os fp fq h r ih1 ih2 k g; rw [O.toDs]; exact .cons (ih1 (fun p hp => k p (List.mem_append_left _ hp)) g) (ih2 (fun p hp => k p (List.mem_append_right _ hp)) g)

/-! ### the names' values -/
end
abbrev Env := List (Option O)
inductive Cells (E : Wd) (G H : Hp) : Env → L2.St → List Addr → Prop
  | nil : Cells E G H [] [] []
  | no {c : Env} {σ : L2.St} {x : Option V} {fp : List Addr} : Cells E G H c σ fp → Cells E G H (none :: c) (x :: σ) fp
  | yes {c : Env} {σ : L2.St} {v : V} {o : O} {fp fq : List Addr} : Own E G H v o fp → Cells E G H c σ fq → Cells E G H (some o :: c) (some v :: σ) (fp ++ fq)
/-- the entry: the heap there, what is known there; the slots that stay; what is lent -/
structure Bs where
  H0 : Hp
  G0 : Hp
  pn : List (Nat × V)
  br : Addr → Prop
/-- a tuple, or one that is locked -/
def isT : HO → Bool
  | .tup _ => true
  | .frz _ (.tup _) => true
  | _ => false
structure Fine (B : Bs) (G H : Hp) : Prop where
  base : ∀ a o, B.H0 a = some o → ¬ B.br a → H a = some o
  there : ∀ a, H a = none → B.H0 a = none
  x : ∀ a, B.H0 a ≠ none → B.G0 a = none → G a = none
  le : Same G H
  tup : ∀ a u, H a = some u → isT u = true → G a = some u
structure Abs (E : Wd) (B : Bs) (G H : Hp) (c : Env) (σ : L2.St) (fp : List Addr) : Prop where
  fine : Fine B G H
  cells : Cells E G H c σ fp
  nd : fp.Nodup
  fresh : ∀ p ∈ fp, G p = none ∧ (B.H0 p = none ∨ B.br p)
  pin : ∀ q ∈ B.pn, σ[q.1]? = some (some q.2)
section
variable {E : Wd} {B : Bs} {G G' G'' H H' H'' : Hp} {c : Env} {σ : L2.St} {fp : List Addr}
theorem Cells.keep (s : Same G G') : ∀ {c : Env} {σ : L2.St} {fp : List Addr}, Cells E G H c σ fp → (∀ p ∈ fp, ∀ u, H p = some u → H' p = some u) → Cells E G' H' c σ fp
  | _, _, _, .nil, _ => .nil
  | _, _, _, .no h, k => .no (Cells.keep s h k)
  | _, _, _, .yes h r, k => .yes (h.keep s fun p hp => k p (List.mem_append_left _ hp)) (Cells.keep s r fun p hp => k p (List.mem_append_right _ hp))
theorem Cells.get : ∀ {c : Env} {σ : L2.St} {fp : List Addr} {i : Nat} {o : O}, Cells E G H c σ fp → c[i]? = some (some o) → ∃ v fq, σ[i]? = some (some v) ∧ Own E G H v o fq ∧ ∀ p ∈ fq, p ∈ fp
  | _, _, _, i, o, .nil, e => by simp at e
  | _, _, _, 0, o, .no h, e => by simp at e
  | _, _, _, i + 1, o, .no h, e => by
    obtain ⟨v, fq, e1, e2, e3⟩ := Cells.get (i := i) h (by simpa using e)
    exact ⟨v, fq, by simpa using e1, e2, e3⟩
  | _, _, _, 0, o, .yes h r, e => by simp at e; subst e; exact ⟨_, _, rfl, h, fun p hp => List.mem_append_left _ hp⟩
  | _, _, _, i + 1, o, .yes h r, e => by
    obtain ⟨v, fq, e1, e2, e3⟩ := Cells.get (i := i) r (by simpa using e)
    exact ⟨v, fq, by simpa using e1, e2, fun p hp => List.mem_append_right _ (e3 p hp)⟩
theorem Own.there : ∀ {v : V} {o : O} {fp : List Addr}, Own E G H v o fp → ∀ p ∈ fp, H p ≠ none := by
  intro v o fp h
  refine Own.rec (motive_1 := fun v o fp _ => ∀ p ∈ fp, H p ≠ none) (motive_2 := fun vs os fp _ => ∀ p ∈ fp, H p ≠ none) ?_ ?_ ?_ ?_ ?_ ?_ h
  · intro v d r p hp; cases hp
  · intro a vs os fp h r ih p hp
    rcases List.mem_cons.mp hp with z | z
    · rw [z, h]; exact fun z => nomatch z
    · exact ih p z
  · intro a kvs ks os fp h e r ih p hp
    rcases List.mem_cons.mp hp with z | z
    · rw [z, h]; exact fun z => nomatch z
    · exact ih p z
  · intro a C dx nm fvs fs os fp h e f r ih p hp
    rcases List.mem_cons.mp hp with z | z
    · rw [z, h]; exact fun z => nomatch z
    · exact ih p z
  · intro p hp; cases hp
  · intro v vs o os fp fq h r ih1 ih2 p hp
    rcases List.mem_append.mp hp with z | z
    · exact ih1 p z
    · exact ih2 p z
theorem Cells.there : ∀ {c : Env} {σ : L2.St} {fp : List Addr}, Cells E G H c σ fp → ∀ p ∈ fp, H p ≠ none
  | _, _, _, .nil, p, hp => nomatch hp
  | _, _, _, .no h, p, hp => h.there p hp
  | _, _, _, .yes h r, p, hp => (List.mem_append.mp hp).elim (fun z => h.there p z) fun z => r.there p z
theorem Cells.length : ∀ {c : Env} {σ : L2.St} {fp : List Addr}, Cells E G H c σ fp → c.length = σ.length
  | _, _, _, .nil => rfl
  | _, _, _, .no h => by simp [h.length]
  | _, _, _, .yes _ h => by simp [h.length]
/-- a name is stored: what it had is forgotten -/
theorem Cells.set : ∀ {c : Env} {σ : L2.St} {fp : List Addr} {v : V} {o : O} {fq : List Addr} (i : Nat), Cells E G H c σ fp → Own E G H v o fq → fp.Nodup → fq.Nodup → (∀ p ∈ fq, p ∉ fp) → ∃ fr, Cells E G H (c.set i (some o)) (σ.set i (some v)) fr ∧ fr.Nodup ∧ ∀ p ∈ fr, p ∈ fp ∨ p ∈ fq
  | _, _, _, v, o, fq, i, .nil, h, n, m, d => ⟨[], .nil, List.nodup_nil, fun p hp => nomatch hp⟩
  | _, _, _, v, o, fq, 0, .no r, h, n, m, d => ⟨_, .yes h r, List.nodup_append.mpr ⟨m, n, fun a ha b hb e => d a ha (e ▸ hb)⟩, fun p hp => (List.mem_append.mp hp).symm⟩
  | _, _, _, v, o, fq, i + 1, .no r, h, n, m, d => by
    obtain ⟨fr, h1, h2, h3⟩ := Cells.set i r h n m d
    exact ⟨fr, .no h1, h2, h3⟩
  | _, _, _, v, o, fq, 0, .yes (fp := f1) (fq := f2) h' r, h, n, m, d => ⟨_, .yes h r, List.nodup_append.mpr ⟨m, (List.nodup_append.mp n).2.1, fun a ha b hb e => d a ha (List.mem_append_right _ (e ▸ hb))⟩, fun p hp => by
    rcases List.mem_append.mp hp with z | z
    · exact .inr z
    · exact .inl (List.mem_append_right _ z)⟩
  | _, _, _, v, o, fq, i + 1, .yes (fp := f1) (fq := f2) h' r, h, n, m, d => by
    obtain ⟨n1, n2, n3⟩ := List.nodup_append.mp n
    obtain ⟨fr, h1, h2, h3⟩ := Cells.set i r h n2 m fun p hp z => d p hp (List.mem_append_right _ z)
    refine ⟨_, .yes h' h1, List.nodup_append.mpr ⟨n1, h2, fun a ha b hb e => ?_⟩, fun p hp => ?_⟩
    · rcases h3 b hb with z | z
      · exact n3 a ha b z e
      · exact d b z (List.mem_append_left _ (e ▸ ha))
    · rcases List.mem_append.mp hp with z | z
      · exact .inl (List.mem_append_left _ z)
      · rcases h3 p z with z | z
        · exact .inl (List.mem_append_right _ z)
        · exact .inr z
theorem Fine.grow (f : Fine B G H) (s : Same H H') (t : ∀ a u, H' a = some u → isT u = true → G a = some u) : Fine B G H' := ⟨fun a o e n => s a o (f.base a o e n), fun a e => f.there a (s.free e), f.x, f.le.trans s, t⟩
/-- a new object that is known from now on -/
theorem Fine.new {p : Addr} {u : HO} (f : Fine B G H) (hp : H p = none) : Fine B (upd G p u) (upd H p u) := by
  refine ⟨fun a o e n => ?_, fun a e => ?_, fun a h1 h2 => ?_, fun a o e => ?_, fun a o e k => ?_⟩
  · rw [upd_ne (ne_of_none (f.base a o e n) hp)]; exact f.base a o e n
  · by_cases ha : a = p
    · subst ha; exact f.there a hp
    · rw [upd_ne ha] at e; exact f.there a e
  · have ha : a ≠ p := fun z => h1 (by rw [z]; exact f.there p hp)
    rw [upd_ne ha]; exact f.x a h1 h2
  · by_cases ha : a = p
    · subst ha; rw [upd_same] at e ⊢; exact e
    · rw [upd_ne ha] at e ⊢; exact f.le a o e
  · by_cases ha : a = p
    · subst ha; rw [upd_same] at e ⊢; exact e
    · rw [upd_ne ha] at e ⊢; exact f.tup a o e k
theorem same_upd {p : Addr} {u : HO} (hp : H p = none) : Same H (upd H p u) := fun b o e => by
  rw [upd_ne (ne_of_none e hp)]; exact e
theorem Fine.fresh (f : Fine B G H) {p : Addr} (hp : H p = none) : G p = none := f.le.free hp
theorem Abs.grow (A : Abs E B G H c σ fp) (s : Same H H') (t : ∀ a u, H' a = some u → isT u = true → G a = some u) : Abs E B G H' c σ fp :=
  ⟨A.fine.grow s t, A.cells.keep (Same.refl _) fun p _ u e => s p u e, A.nd, A.fresh, A.pin⟩
/-- a new object that is known from now on -/
theorem Abs.new {p : Addr} {u : HO} (A : Abs E B G H c σ fp) (hp : H p = none) : Abs E B (upd G p u) (upd H p u) c σ fp := by
  refine ⟨A.fine.new hp, A.cells.keep (same_upd (A.fine.fresh hp)) (fun q _ w e => same_upd hp q w e), A.nd, fun q hq => ?_, A.pin⟩
  have hne : q ≠ p := fun z => A.cells.there q hq (by rw [z]; exact hp)
  exact ⟨by rw [upd_ne hne]; exact (A.fresh q hq).1, (A.fresh q hq).2⟩
end
end VS

/-! VS: expressions. -/
namespace VS
open PySem PySem.Spec PyProof.Rows L2

abbrev WX := Value → Option Addr → L2.St → Hp → Prop
def vw (b : Bool) (G H : Hp) : Hp := if b then G else H
def XRep (E : Wd) (G : Hp) (cl : Value) (dx : Option Addr) : D → Prop
  | .obj nm fs ds => E.mg nm = some cl ∧ (fs = [] ∨ ∃ d xs, dx = some d ∧ G d = some (.xd xs) ∧ fs = xs.map (·.1) ∧ RpL E G (xs.map (·.2)) ds)
  | _ => False
def Res {α : Type} (E : Wd) (W : WX) (B : Bs) (c : Env) (σ : L2.St) (fp : List Addr) (G H : Hp) (r : R α) (P : α → Prop) : Prop :=
  match r with
  | .ok a => P a
  | .ex e => ∀ cl dx G' H', Same G G' → Same H H' → Abs E B G' H' c σ fp → XRep E G' cl dx e → W cl dx σ H'
  | .stuck => False
def Post (E : Wd) (B : Bs) (c : Env) (σ : L2.St) (fp : List Addr) (G H : Hp) (b : Bool) (Q : VK) (d : D) : Prop :=
  ∀ v G' H', Same G G' → Same H H' → Abs E B G' H' c σ fp → Rp E (vw b G' H') v d → Q v H'
def PostL (E : Wd) (B : Bs) (c : Env) (σ : L2.St) (fp : List Addr) (G H : Hp) (b : Bool) (Q : List V → Hp → Prop) (ds : List D) : Prop :=
  ∀ vs G' H', Same G G' → Same H H' → Abs E B G' H' c σ fp → RpL E (vw b G' H') vs ds → Q vs H'
def PostT (E : Wd) (B : Bs) (c : Env) (σ : L2.St) (fp : List Addr) (G H : Hp) (Q : Bool → Hp → Prop) (t : Bool) : Prop :=
  ∀ G' H', Same G G' → Same H H' → Abs E B G' H' c σ fp → Q t H'
def TX (E : Wd) (W : WX) (b : Bool) (g : Env → R D) : TE := fun σ H Q => ∃ B G c fp, Abs E B G H c σ fp ∧ Res E W B c σ fp G H (g c) (Post E B c σ fp G H b Q)
def TXA (E : Wd) (W : WX) (b : Bool) (g : Env → R (List D)) : TA := fun σ H Q => ∃ B G c fp, Abs E B G H c σ fp ∧ Res E W B c σ fp G H (g c) (PostL E B c σ fp G H b Q)
def TXT (E : Wd) (W : WX) (g : Env → R Bool) : TT := fun σ H Q => ∃ B G c fp, Abs E B G H c σ fp ∧ Res E W B c σ fp G H (g c) (PostT E B c σ fp G H Q)
abbrev Cx.wd (X : Cx) : Wd := ⟨X.K, X.mg⟩
/-- an expression that is worth g; b: it may be kept -/
def PX (X : Cx) (W : WX) (b : Bool) (e : Expr) (g : Env → R D) : Prop := PE X e (TX ⟨X.K, X.mg⟩ W b g)
def PXA (X : Cx) (W : WX) (b : Bool) (es : List Expr) (g : Env → R (List D)) : Prop := PA X es (TXA ⟨X.K, X.mg⟩ W b g)
def PXT (X : Cx) (W : WX) (e : Expr) (g : Env → R Bool) : Prop := PT X e (TXT ⟨X.K, X.mg⟩ W g)

section
variable {E : Wd} {W : WX} {B : Bs} {c : Env} {σ : L2.St} {fp : List Addr} {G G' G'' H H' H'' : Hp} {b : Bool} {v : V} {d : D}
theorem vw_rp (s : Same G H) (h : Rp E (vw b G H) v d) : Rp E H v d := by
  cases b with
  | true => exact h.mono s
  | false => exact h
theorem vw_mono (s : Same G G') (t : Same H H') (h : Rp E (vw b G H) v d) : Rp E (vw b G' H') v d := by
  cases b with
  | true => exact h.mono s
  | false => exact h.mono t
theorem vw_rpL {vs : List V} {ds : List D} (s : Same G H) (h : RpL E (vw b G H) vs ds) : RpL E H vs ds := by
  cases b with
  | true => exact h.mono s
  | false => exact h
theorem vw_monoL {vs : List V} {ds : List D} (s : Same G G') (t : Same H H') (h : RpL E (vw b G H) vs ds) : RpL E (vw b G' H') vs ds := by
  cases b with
  | true => exact h.mono s
  | false => exact h.mono t
theorem vw_of (h : Rp E G v d) (s : Same G H) : Rp E (vw b G H) v d := by
  cases b with
  | true => exact h
  | false => exact h.mono s
theorem vw_ofL {vs : List V} {ds : List D} (h : RpL E G vs ds) (s : Same G H) : RpL E (vw b G H) vs ds := by
  cases b with
  | true => exact h
  | false => exact h.mono s
theorem Res.grow {α : Type} {r : R α} {P P' : α → Prop} (h : Res E W B c σ fp G H r P) (s : Same G G') (t : Same H H') (hp : ∀ a, r = .ok a → P a → P' a) : Res E W B c σ fp G' H' r P' := by
  cases r with
  | ok a => exact hp a rfl h
  | ex e => exact fun cl dx G2 H2 s2 t2 A x => h cl dx G2 H2 (s.trans s2) (t.trans t2) A x
  | stuck => exact h
theorem Post.grow {Q : VK} (h : Post E B c σ fp G H b Q d) (s : Same G G') (t : Same H H') : Post E B c σ fp G' H' b Q d := fun v G2 H2 s2 t2 A r => h v G2 H2 (s.trans s2) (t.trans t2) A r
theorem PostL.grow {Q : List V → Hp → Prop} {ds : List D} (h : PostL E B c σ fp G H b Q ds) (s : Same G G') (t : Same H H') : PostL E B c σ fp G' H' b Q ds := fun v G2 H2 s2 t2 A r => h v G2 H2 (s.trans s2) (t.trans t2) A r
theorem PostT.grow {Q : Bool → Hp → Prop} {x : Bool} (h : PostT E B c σ fp G H Q x) (s : Same G G') (t : Same H H') : PostT E B c σ fp G' H' Q x := fun G2 H2 s2 t2 A => h G2 H2 (s.trans s2) (t.trans t2) A
/-- the value at once, nothing changed -/
theorem Post.here {Q : VK} (h : Post E B c σ fp G H b Q d) (A : Abs E B G H c σ fp) (r : Rp E (vw b G H) v d) : Q v H := h v G H (Same.refl _) (Same.refl _) A r
/-- a new object, known from now on -/
theorem Post.new {Q : VK} (h : Post E B c σ fp G H b Q d) (A : Abs E B G H c σ fp) {p : Addr} {u : HO} (hp : H p = none) (r : Same G (upd G p u) → Rp E (upd G p u) (.ref p) d) : Q (.ref p) (upd H p u) := by
  have s := same_upd (u := u) (A.fine.fresh hp)
  have A' := A.new (u := u) hp
  exact h (.ref p) _ _ s (same_upd hp) A' (vw_of (r s) A'.fine.le)

/-- one part, then the rest -/
theorem tx_seq {α : Type} {ga : Env → R D} {f : D → R α} {P : α → Prop} {Q' : VK} (A : Abs E B G H c σ fp) (h : Res E W B c σ fp G H (ga c >>= f) P)
    (k : ∀ d, ga c = .ok d → ∀ v G1 H1, Same G G1 → Same H H1 → Abs E B G1 H1 c σ fp → Rp E (vw b G1 H1) v d → Res E W B c σ fp G1 H1 (f d) P → Q' v H1) : TX E W b ga σ H Q' := by
  refine ⟨B, G, c, fp, A, ?_⟩
  cases e : ga c with
  | ok d =>
    rw [e] at h
    exact fun v G1 H1 s t A1 r => k d e v G1 H1 s t A1 r (Res.grow (r := f d) h s t fun _ _ z => z)
  | ex x => rw [e] at h; exact h
  | stuck => rw [e] at h; exact h
theorem txa_seq {α : Type} {ga : Env → R (List D)} {f : List D → R α} {P : α → Prop} {Q' : List V → Hp → Prop} (A : Abs E B G H c σ fp) (h : Res E W B c σ fp G H (ga c >>= f) P)
    (k : ∀ ds, ga c = .ok ds → ∀ vs G1 H1, Same G G1 → Same H H1 → Abs E B G1 H1 c σ fp → RpL E (vw b G1 H1) vs ds → Res E W B c σ fp G1 H1 (f ds) P → Q' vs H1) : TXA E W b ga σ H Q' := by
  refine ⟨B, G, c, fp, A, ?_⟩
  cases e : ga c with
  | ok d =>
    rw [e] at h
    exact fun v G1 H1 s t A1 r => k d e v G1 H1 s t A1 r (Res.grow (r := f d) h s t fun _ _ z => z)
  | ex x => rw [e] at h; exact h
  | stuck => rw [e] at h; exact h
theorem txt_seq {α : Type} {ga : Env → R Bool} {f : Bool → R α} {P : α → Prop} {Q' : Bool → Hp → Prop} (A : Abs E B G H c σ fp) (h : Res E W B c σ fp G H (ga c >>= f) P)
    (k : ∀ t, ga c = .ok t → ∀ G1 H1, Same G G1 → Same H H1 → Abs E B G1 H1 c σ fp → Res E W B c σ fp G1 H1 (f t) P → Q' t H1) : TXT E W ga σ H Q' := by
  refine ⟨B, G, c, fp, A, ?_⟩
  cases e : ga c with
  | ok d =>
    rw [e] at h
    exact fun G1 H1 s t A1 => k d e G1 H1 s t A1 (Res.grow (r := f d) h s t fun _ _ z => z)
  | ex x => rw [e] at h; exact h
  | stuck => rw [e] at h; exact h
end

/-! ### weakening -/
section
variable {X : Cx} {W : WX} {b : Bool} {e : Expr} {g : Env → R D}
theorem pe_mono {t t' : TE} (h : PE X e t) (k : ∀ σ H Q, t' σ H Q → t σ H Q) : PE X e t' := ⟨fun pins s σ H Q I q => h.run pins s σ H Q I (k σ H Q q)⟩
theorem pt_mono {t t' : TT} (h : PT X e t) (k : ∀ σ H Q, t' σ H Q → t σ H Q) : PT X e t' := ⟨fun pins s σ H Q I q => h.run pins s σ H Q I (k σ H Q q)⟩
theorem pa_mono {es : List Expr} {t t' : TA} (h : PA X es t) (k : ∀ σ H Q, t' σ H Q → t σ H Q) : PA X es t' := ⟨fun pos pins s σ H Q I q => h.run pos pins s σ H Q I (k σ H Q q)⟩
theorem PX.loan (h : PX X W true e g) : PX X W false e g := pe_mono h fun σ H Q ⟨B, G, c, fp, A, q⟩ => ⟨B, G, c, fp, A, q.grow (Same.refl _) (Same.refl _) fun d _ k v G1 H1 s t A1 r => k v G1 H1 s t A1 (r.mono A1.fine.le)⟩
end
mutual
/-- no list, no dict, no object within -/
def D.flat : D → Bool
  | .tup ds => D.flats ds
  | .lst _ | .dic _ _ | .dlk _ _ | .obj _ _ _ => false
  | _ => true
def D.flats : List D → Bool
  | [] => true
  | d :: ds => D.flat d && D.flats ds
end
@[simp] theorem flat_non : D.flat .non = true := rfl
@[simp] theorem flat_bl (b : Bool) : D.flat (.bl b) = true := rfl
@[simp] theorem flat_int (i : Int) : D.flat (.int i) = true := rfl
@[simp] theorem flat_str (l : List Nat) : D.flat (.str l) = true := rfl
@[simp] theorem flat_tup (ds : List D) : D.flat (.tup ds) = D.flats ds := by rw [D.flat]
@[simp] theorem flat_lst (ds : List D) : D.flat (.lst ds) = false := by rw [D.flat]
@[simp] theorem flats_nil : D.flats [] = true := by rw [D.flats]
@[simp] theorem flats_cons (d : D) (ds : List D) : D.flats (d :: ds) = (D.flat d && D.flats ds) := by rw [D.flats]
theorem flats_all (ds : List D) : D.flats ds = ds.all D.flat := by
  induction ds with
  | nil => simp
  | cons d ds ih => simp [ih]
section
variable {E : Wd} {B : Bs} {c : Env} {σ : L2.St} {fp : List Addr} {G H : Hp}
/-- what has no list, dict or object within is known -/
theorem Rp.down (f : Fine B G H) : ∀ {v : V} {d : D}, Rp E H v d → d.flat = true → Rp E G v d := by
  intro v d h
  refine Rp.rec (motive_1 := fun v d _ => d.flat = true → Rp E G v d) (motive_2 := fun vs ds _ => D.flats ds = true → RpL E G vs ds) ?_ ?_ ?_ ?_ ?_ ?_ ?_ ?_ ?_ ?_ ?_ h
  · intro _; exact .non
  · intro b _; exact .bl b
  · intro i _; exact .int i
  · intro l _; exact .str l
  · intro a vs ds hs r ih k
    rw [flat_tup] at k
    refine .tup ?_ (ih k)
    rcases hs with (hs | ⟨o, hs⟩) | hs
    · exact .inl (.inl (f.tup a _ hs rfl))
    · exact .inl (.inr ⟨o, f.tup a _ hs rfl⟩)
    · exact .inr hs
  · intro a vs ds hs r ih k; simp at k
  · intro a kvs ks ds hs e r ih k; simp [D.flat] at k
  · intro a o kvs ks ds hs e r ih k; simp [D.flat] at k
  · intro a C dx nm fvs fs ds h1 h2 h3 r ih k; simp [D.flat] at k
  · intro _; exact .nil
  · intro v vs d ds h r i1 i2 k
    simp at k
    exact .cons (i1 k.1) (i2 k.2)
end
section
variable {X : Cx} {W : WX} {b : Bool} {e : Expr} {g : Env → R D}
def eFlat (g : Env → R D) : Env → R D := fun c => g c >>= fun d => if d.flat then .ok d else .stuck
theorem PX.flat (h : PX X W b e g) : PX X W true e (eFlat g) := pe_mono h fun σ H Q ⟨B, G, c, fp, A, q⟩ => by
  refine ⟨B, G, c, fp, A, ?_⟩
  unfold eFlat at q
  cases e : g c with
  | stuck => rw [e] at q; exact q
  | ex x => rw [e] at q; exact q
  | ok d =>
    rw [e] at q
    by_cases hf : d.flat = true
    · have q' : Res _ W B c σ fp G H (if d.flat = true then R.ok d else R.stuck) (Post _ B c σ fp G H true Q) := q
      rw [if_pos hf] at q'
      intro v G1 H1 s t A1 r
      exact q' v G1 H1 s t A1 ((vw_rp A1.fine.le r).down A1.fine hf)
    · have q' : Res _ W B c σ fp G H (if d.flat = true then R.ok d else R.stuck) (Post _ B c σ fp G H true Q) := q
      rw [if_neg hf] at q'
      exact q'.elim
end
end VS

/-! VS: expressions, the rules. -/
namespace VS
open PySem PySem.Spec PyProof.Rows L2

def lift {α : Type} : Option α → R α
  | some a => .ok a
  | none => .stuck
@[simp] theorem lift_some {α : Type} (a : α) : lift (some a) = R.ok a := rfl
@[simp] theorem lift_none {α : Type} : lift (none : Option α) = R.stuck := rfl
theorem Res.lift {α : Type} {E : Wd} {W : WX} {B : Bs} {c : Env} {σ : L2.St} {fp : List Addr} {G H : Hp} {o : Option α} {P : α → Prop} (h : Res E W B c σ fp G H (lift o) P) : ∃ a, o = some a ∧ P a := by
  cases o with
  | some a => exact ⟨a, rfl, h⟩
  | none => exact h.elim

/-! ### names, constants -/
def eV (i : Nat) : Env → R D := fun c => match c[i]? with
  | some (some (.v d)) => .ok d
  | _ => .stuck
def eL (i : Nat) : Env → R D := fun c => match c[i]? with
  | some (some o) => .ok o.toD
  | _ => .stuck
def eC (d : D) : Env → R D := fun _ => .ok d
section
variable {X : Cx} {W : WX} {b b' b1 b2 : Bool} {e a : Expr} {pos : Pos}
theorem px_v (i : Nat) {x : Str} (hN : X.N[i]? = some x := by rfl) (hv : Vis X.env.scope x := by first | exact Or.inl rfl | exact Or.inr (Or.inl rfl) | exact Or.inr (Or.inr rfl)) (hd : (x == ("__debug__" : Str)) = false := by decide)
    (hcd : (x == ("__classdict__" : Str)) = false := by decide) : PX X W true (.Name x pos) (eV i) := pe_mono (pe_var hN hv hd hcd) fun σ H Q ⟨B, G, c, fp, A, q⟩ => by
  unfold eV at q
  split at q
  · rename_i d e
    obtain ⟨v, fq, e1, e2, e3⟩ := A.cells.get e
    cases e2 with
    | v r => exact ⟨v, e1, q.here A r⟩
  · exact q.elim
theorem px_l (i : Nat) {x : Str} (hN : X.N[i]? = some x := by rfl) (hv : Vis X.env.scope x := by first | exact Or.inl rfl | exact Or.inr (Or.inl rfl) | exact Or.inr (Or.inr rfl)) (hd : (x == ("__debug__" : Str)) = false := by decide)
    (hcd : (x == ("__classdict__" : Str)) = false := by decide) : PX X W false (.Name x pos) (eL i) := pe_mono (pe_var hN hv hd hcd) fun σ H Q ⟨B, G, c, fp, A, q⟩ => by
  unfold eL at q
  split at q
  · rename_i o e
    obtain ⟨v, fq, e1, e2, e3⟩ := A.cells.get e
    exact ⟨v, e1, q.here A (e2.rp A.fine.le (fun _ _ _ z => z) A.fine.le)⟩
  · exact q.elim
theorem px_c {t : TE} {v : V} {d : D} (h : PE X e t) (k : ∀ σ H Q, Q v H → t σ H Q) (r : ∀ G, Rp ⟨X.K, X.mg⟩ G v d) : PX X W true e (eC d) := pe_mono h fun σ H Q ⟨B, G, c, fp, A, q⟩ => k _ _ _ (Post.here q A (r _))
theorem px_int {i : Int} {j : Nat} : PX X W true (.Constant (.int i) j pos) (eC (.int i)) := px_c pe_int (fun _ _ _ q => q) fun _ => .int i
theorem px_bl {t : Bool} {j : Nat} : PX X W true (.Constant (.bool t) j pos) (eC (.bl t)) := px_c pe_bl (fun _ _ _ q => q) fun _ => .bl t
theorem px_non {j : Nat} : PX X W true (.Constant .none j pos) (eC .non) := px_c pe_non (fun _ _ _ q => q) fun _ => .non
theorem px_str {x : Str} {j : Nat} (l : List Nat) (h : x = S l := by decide +kernel) : PX X W true (.Constant (.str x) j pos) (eC (.str l)) := by
  subst h
  exact px_c pe_str (fun _ _ _ q => q) fun _ => .str l
theorem px_glob {x : Str} {v : V} {u : Value} {d : D} (r : ∀ G, Rp ⟨X.K, X.mg⟩ G v d) (hm : X.mg x = some u) (rv : RelV v u) (hg : Gl X x := by rfl) (hd : (x == ("__debug__" : Str)) = false := by decide) : PX X W true (.Name x pos) (eC d) :=
  px_c (pe_glob hg hm rv hd) (fun _ _ _ q => q) r

/-! ### parts one behind the other -/
def eNil : Env → R (List D) := fun _ => .ok []
def eCons (g : Env → R D) (gs : Env → R (List D)) : Env → R (List D) := fun c => g c >>= fun d => gs c >>= fun ds => .ok (d :: ds)
theorem pxa_nil : PXA X W b [] eNil := pa_mono pa_nil fun σ H Q ⟨B, G, c, fp, A, q⟩ => q [] G H (Same.refl _) (Same.refl _) A .nil
theorem pxa_cons {es : List Expr} {g : Env → R D} {gs : Env → R (List D)} (h : PX X W b e g) (hr : PXA X W b es gs) (hs : starEach (e :: es) X.env = (false, eval e X.env) :: starEach es X.env := by rfl) : PXA X W b (e :: es) (eCons g gs) :=
  pa_mono (pa_cons h hr hs) fun σ H Q ⟨B, G, c, fp, A, q⟩ => tx_seq A q fun d e v G1 H1 s1 t1 A1 r1 q1 => txa_seq A1 q1 fun ds e2 vs G2 H2 s2 t2 A2 r2 q2 =>
    q2 (v :: vs) G2 H2 (s1.trans s2) (t1.trans t2) A2 (.cons (vw_mono s2 t2 r1) r2)
/-- what a call of a built-in is worth, by values -/
def CallOk (E : Wd) (r : List V → Hp → VK → Prop) (b b' : Bool) (f : List D → Option D) : Prop :=
  ∀ {B : Bs} {G H : Hp} {c : Env} {σ : L2.St} {fp : List Addr} {vs : List V} {ds : List D} {d : D} {Q : VK}, Abs E B G H c σ fp → RpL E (vw b G H) vs ds → f ds = some d → Post E B c σ fp G H b' Q d → r vs H Q
def Op2Ok (E : Wd) (r : R2) (b1 b2 b' : Bool) (f : D → D → Option D) : Prop :=
  ∀ {B : Bs} {G H : Hp} {c : Env} {σ : L2.St} {fp : List Addr} {x y : V} {dx dy d : D} {Q : VK}, Abs E B G H c σ fp → Rp E (vw b1 G H) x dx → Rp E (vw b2 G H) y dy → f dx dy = some d → Post E B c σ fp G H b' Q d → r x y H Q
def eFn (f : List D → Option D) (gs : Env → R (List D)) : Env → R D := fun c => gs c >>= fun ds => lift (f ds)
def eOp2 (f : D → D → Option D) (ga gb : Env → R D) : Env → R D := fun c => ga c >>= fun x => gb c >>= fun y => lift (f x y)
theorem tx_op2 {r : R2} {f : D → D → Option D} (hr : Op2Ok ⟨X.K, X.mg⟩ r b1 b2 b' f) {ga gb : Env → R D} : ∀ σ H Q, TX ⟨X.K, X.mg⟩ W b' (eOp2 f ga gb) σ H Q → tOp r (TX ⟨X.K, X.mg⟩ W b1 ga) (TX ⟨X.K, X.mg⟩ W b2 gb) σ H Q :=
  fun σ H Q ⟨B, G, c, fp, A, q⟩ => tx_seq A q fun d e v G1 H1 s1 t1 A1 r1 q1 => tx_seq A1 q1 fun d2 e2 v2 G2 H2 s2 t2 A2 r2 q2 => by
    obtain ⟨d3, e3, p3⟩ := Res.lift q2
    exact hr A2 (vw_mono s2 t2 r1) r2 e3 (p3.grow (s1.trans s2) (t1.trans t2))
theorem px_op {op : Operator} {r : R2} {f : D → D → Option D} (ho : OpR X (binaryOp op) r) (hr : Op2Ok ⟨X.K, X.mg⟩ r b1 b2 b' f) {eb : Expr} {ga gb : Env → R D} (ha : PX X W b1 a ga) (hb : PX X W b2 eb gb) : PX X W b' (.BinOp a op eb pos) (eOp2 f ga gb) :=
  pe_mono (pe_op ho ha hb) (tx_op2 hr)
theorem px_cmp {op : CmpOp} {r : R2} {f : D → D → Option D} (ho : OpR X (compareOp op) r) (hr : Op2Ok ⟨X.K, X.mg⟩ r b1 b2 b' f) {eb : Expr} {ga gb : Env → R D} (ha : PX X W b1 a ga) (hb : PX X W b2 eb gb) (hm : behindInMarks op eb = false) : PX X W b' (.Compare a [op] [eb] pos) (eOp2 f ga gb) :=
  pe_mono (pe_cmpR ho ha hb hm) (tx_op2 hr)
def asB : D → Option Bool
  | .bl t => some t
  | _ => none
def eB (g : Env → R D) : Env → R Bool := fun c => g c >>= fun d => lift (asB d)
theorem asB_rp {E : Wd} {G : Hp} {v : V} {d : D} {t : Bool} (h : Rp E G v d) (e : asB d = some t) : v = .bl t := by
  cases d <;> simp [asB] at e
  subst e
  cases h
  rfl
theorem tx_test {g : Env → R D} : ∀ σ H Q, TXT ⟨X.K, X.mg⟩ W (eB g) σ H Q → tTest (TX ⟨X.K, X.mg⟩ W b g) σ H Q :=
  fun σ H Q ⟨B, G, c, fp, A, q⟩ => tx_seq A q fun d e v G1 H1 s1 t1 A1 r1 q1 => by
    obtain ⟨t, e3, p3⟩ := Res.lift q1
    exact ⟨t, asB_rp r1 e3, p3 G1 H1 s1 t1 A1⟩
theorem pxt_cmp {op : CmpOp} {r : R2} {f : D → D → Option D} (ho : OpR X (compareOp op) r) (hr : Op2Ok ⟨X.K, X.mg⟩ r b1 b2 true f) {eb : Expr} {ga gb : Env → R D} (ha : PX X W b1 a ga) (hb : PX X W b2 eb gb) (hm : behindInMarks op eb = false) : PXT X W (.Compare a [op] [eb] pos) (eB (eOp2 f ga gb)) :=
  pt_mono (pt_cmpR ho ha hb hm) fun σ H Q q => by
    obtain ⟨x, y, z⟩ := (⟨tx_test (b := true) σ H Q q, trivial, trivial⟩ : _ ∧ True ∧ True)
    have x' : TX ⟨X.K, X.mg⟩ W true (eOp2 f ga gb) σ H (fun x H' => ∃ k, x = .bl k ∧ Q k H') := x
    exact tx_op2 hr σ H _ x'
theorem pxt_val {g : Env → R D} (h : PX X W b e g) (he : ∀ whole, isTrue e X.env whole = (do let v ← whole; standAt e.pos; holding [v] (truthy v)) := by intro _; rfl) : PXT X W e (eB g) :=
  pt_mono (pt_val h he) fun σ H Q q => tx_test σ H Q q
/-- truth of other values -/
def truD : D → Option Bool
  | .non => some false
  | .bl t => some t
  | .int i => some (i != 0)
  | .str l => if l.length ≤ 16777216 then some (!l.isEmpty) else none
  | .tup ds => some (!ds.isEmpty)
  | .lst ds => some (!ds.isEmpty)
  | _ => none
def eTru (g : Env → R D) : Env → R Bool := fun c => g c >>= fun d => lift (truD d)
theorem RpL.isEmpty {E : Wd} {G : Hp} {vs : List V} {ds : List D} (h : RpL E G vs ds) : vs.isEmpty = ds.isEmpty := by
  cases h <;> rfl
theorem pxt_truth {g : Env → R D} (h : PX X W b e g) (he : ∀ whole, isTrue e X.env whole = (do let v ← whole; standAt e.pos; holding [v] (truthy v)) := by intro _; rfl) : PXT X W e (eTru g) :=
  pt_mono (pt_truth h he) fun σ H Q ⟨B, G, c, fp, A, q⟩ => tx_seq A q fun d e v G1 H1 s1 t1 A1 r1 q1 => by
    obtain ⟨t, e3, p3⟩ := Res.lift q1
    have r2 := vw_rp A1.fine.le r1
    refine ⟨t, ?_, p3 G1 H1 s1 t1 A1⟩
    cases r2 with
    | non => cases e3; rfl
    | bl b => cases e3; rfl
    | int i => cases e3; rfl
    | str l =>
      simp only [truD] at e3
      split at e3
      · rename_i hl
        cases e3
        refine ⟨by show l.toArray.size ≤ _; rw [sizeLine_eq]; simpa using hl, ?_⟩
        show (!l.isEmpty) = ((l.toArray.size : Int) != 0)
        cases l <;> simp
        omega
      · cases e3
    | tup hs r => cases e3; exact .inr (.inl ⟨_, hs, by rw [r.isEmpty]⟩)
    | lst hs r => cases e3; exact .inl ⟨_, hs, by rw [r.isEmpty]⟩
    | dic _ _ _ => cases e3
    | dlk _ _ _ => cases e3
    | obj _ _ _ _ => cases e3

/-! ### and, or, not, if else -/
def tAnd' (g k : Env → R Bool) : Env → R Bool := fun c => g c >>= fun t => if t then k c else .ok false
def tOr' (g k : Env → R Bool) : Env → R Bool := fun c => g c >>= fun t => if t then .ok true else k c
def tNot' (g : Env → R Bool) : Env → R Bool := fun c => g c >>= fun t => .ok (!t)
def PXW (X : Cx) (W : WX) (e : Expr) (g : Env → R Bool) : Prop := PW X e (TXT ⟨X.K, X.mg⟩ W g)
theorem pw_mono {t t' : TT} (h : PW X e t) (k : ∀ σ H Q, t' σ H Q → t σ H Q) : PW X e t' := ⟨fun wh pins s σ H Q I q => h.run wh pins s σ H Q I (k σ H Q q)⟩
theorem PXW.pt {g : Env → R Bool} (h : PXW X W e g) : PXT X W e g := PW.pt h
variable {g k : Env → R Bool} {rest : List Expr}
theorem pxw_and1 (h : PXT X W a g) : PXW X W (.BoolOp .And [a] pos) g := pw_and1 h
theorem pxw_or1 (h : PXT X W a g) : PXW X W (.BoolOp .Or [a] pos) g := pw_or1 h
theorem pxw_and {eb : Expr} (h : PXT X W a g) (h2 : PXW X W (.BoolOp .And (eb :: rest) pos) k) : PXW X W (.BoolOp .And (a :: eb :: rest) pos) (tAnd' g k) :=
  pw_mono (pw_and h h2) fun σ H Q ⟨B, G, c, fp, A, q⟩ => txt_seq A q fun t e G1 H1 s1 t1 A1 q1 => by
    cases t with
    | true => exact ⟨B, G1, c, fp, A1, Res.grow (r := k c) q1 (Same.refl _) (Same.refl _) fun x _ z => z.grow s1 t1⟩
    | false => exact q1 G1 H1 s1 t1 A1
theorem pxw_or {eb : Expr} (h : PXT X W a g) (h2 : PXW X W (.BoolOp .Or (eb :: rest) pos) k) : PXW X W (.BoolOp .Or (a :: eb :: rest) pos) (tOr' g k) :=
  pw_mono (pw_or h h2) fun σ H Q ⟨B, G, c, fp, A, q⟩ => txt_seq A q fun t e G1 H1 s1 t1 A1 q1 => by
    cases t with
    | false => exact ⟨B, G1, c, fp, A1, Res.grow (r := k c) q1 (Same.refl _) (Same.refl _) fun x _ z => z.grow s1 t1⟩
    | true => exact q1 G1 H1 s1 t1 A1
theorem pxt_not (h : PXT X W a g) : PXT X W (.UnaryOp .Not a pos) (tNot' g) :=
  pt_mono (pt_not h) fun σ H Q ⟨B, G, c, fp, A, q⟩ => txt_seq A q fun t e G1 H1 s1 t1 A1 q1 => q1 G1 H1 s1 t1 A1
/-- as values -/
def eAnd (ga gb : Env → R D) : Env → R D := fun c => ga c >>= fun d => lift (asB d) >>= fun t => if t then gb c else .ok (.bl false)
def eOr (ga gb : Env → R D) : Env → R D := fun c => ga c >>= fun d => lift (asB d) >>= fun t => if t then .ok (.bl true) else gb c
def eNot (ga : Env → R D) : Env → R D := fun c => ga c >>= fun d => lift (asB d) >>= fun t => .ok (.bl !t)
theorem px_one {op : BoolOp} {ga : Env → R D} (h : PX X W b a ga) : PX X W b (.BoolOp op [a] pos) ga := pe_one h
theorem px_and {eb : Expr} {ga gb : Env → R D} (h : PX X W b1 a ga) (h2 : PX X W true (.BoolOp .And (eb :: rest) pos) gb) : PX X W true (.BoolOp .And (a :: eb :: rest) pos) (eAnd ga gb) :=
  pe_mono (pe_and h h2) fun σ H Q ⟨B, G, c, fp, A, q⟩ => tx_seq A q fun d e v G1 H1 s1 t1 A1 r1 q1 => by
    cases hd : asB d with
    | none => rw [hd] at q1; exact q1.elim
    | some t =>
      rw [hd] at q1
      refine ⟨t, asB_rp r1 hd, ?_⟩
      cases t with
      | true => exact ⟨B, G1, c, fp, A1, Res.grow (r := gb c) q1 (Same.refl _) (Same.refl _) fun x _ z => z.grow s1 t1⟩
      | false => exact q1 _ G1 H1 s1 t1 A1 (.bl false)
theorem px_or {eb : Expr} {ga gb : Env → R D} (h : PX X W b1 a ga) (h2 : PX X W true (.BoolOp .Or (eb :: rest) pos) gb) : PX X W true (.BoolOp .Or (a :: eb :: rest) pos) (eOr ga gb) :=
  pe_mono (pe_or h h2) fun σ H Q ⟨B, G, c, fp, A, q⟩ => tx_seq A q fun d e v G1 H1 s1 t1 A1 r1 q1 => by
    cases hd : asB d with
    | none => rw [hd] at q1; exact q1.elim
    | some t =>
      rw [hd] at q1
      refine ⟨t, asB_rp r1 hd, ?_⟩
      cases t with
      | false => exact ⟨B, G1, c, fp, A1, Res.grow (r := gb c) q1 (Same.refl _) (Same.refl _) fun x _ z => z.grow s1 t1⟩
      | true => exact q1 _ G1 H1 s1 t1 A1 (.bl true)
theorem px_not {ga : Env → R D} (h : PX X W b1 a ga) : PX X W true (.UnaryOp .Not a pos) (eNot ga) :=
  pe_mono (pe_not h) fun σ H Q ⟨B, G, c, fp, A, q⟩ => tx_seq A q fun d e v G1 H1 s1 t1 A1 r1 q1 => by
    cases hd : asB d with
    | none => rw [hd] at q1; exact q1.elim
    | some t =>
      rw [hd] at q1
      exact ⟨t, asB_rp r1 hd, q1 _ G1 H1 s1 t1 A1 (.bl _)⟩
def eIf (g : Env → R Bool) (ga gb : Env → R D) : Env → R D := fun c => g c >>= fun t => if t then ga c else gb c
theorem px_if {ec eb : Expr} {ga gb : Env → R D} (hc : PXT X W ec g) (ha : PX X W b a ga) (hb : PX X W b eb gb) : PX X W b (.IfExp ec a eb pos) (eIf g ga gb) :=
  pe_mono (pe_ifExp hc ha hb) fun σ H Q ⟨B, G, c, fp, A, q⟩ => txt_seq A q fun t e G1 H1 s1 t1 A1 q1 => by
    cases t with
    | true => exact ⟨B, G1, c, fp, A1, Res.grow (r := ga c) q1 (Same.refl _) (Same.refl _) fun x _ z => z.grow s1 t1⟩
    | false => exact ⟨B, G1, c, fp, A1, Res.grow (r := gb c) q1 (Same.refl _) (Same.refl _) fun x _ z => z.grow s1 t1⟩

/-! ### calls of built-ins -/
theorem tx_fn {r : List V → Hp → VK → Prop} {f : List D → Option D} (hr : CallOk ⟨X.K, X.mg⟩ r b b' f) {gs : Env → R (List D)} : ∀ σ H Q, TX ⟨X.K, X.mg⟩ W b' (eFn f gs) σ H Q → tCB r (TXA ⟨X.K, X.mg⟩ W b gs) σ H Q :=
  fun σ H Q ⟨B, G, c, fp, A, q⟩ => txa_seq A q fun ds e vs G1 H1 s1 t1 A1 r1 q1 => by
    obtain ⟨d3, e3, p3⟩ := Res.lift q1
    exact hr A1 r1 e3 (p3.grow s1 t1)
theorem px_fn {id : String} {x : Str} {r : List V → Hp → VK → Prop} {f : List D → Option D} {e : Expr} {es : List Expr} {gs : Env → R (List D)} {p : Pos} (hc : CallR X (.builtin id) r) (hr : CallOk ⟨X.K, X.mg⟩ r b b' f) (hm : X.mg x = none) (ha : PXA X W b (e :: es) gs) (hg : Gl X x := by rfl) (hv : bootBuiltins x = some (.builtin id) := by decide +kernel)
    (hn : x ≠ "__name__" := by decide) (hdb : (x == ("__debug__" : Str)) = false := by decide) (he : starEach (e :: es) X.env = (false, eval e X.env) :: starEach es X.env := by rfl) (hpl : (backTo pos (starEach es X.env)).any (·.1) = false := by rfl) :
    PX X W b' (.Call (.Name x p) (e :: es) [] pos) (eFn f gs) := pe_mono (pe_callB hc hg hm hv ha hn hdb he hpl) (tx_fn hr)
theorem px_ty {T : String} {x : Str} {r : List V → Hp → VK → Prop} {f : List D → Option D} {e : Expr} {es : List Expr} {gs : Env → R (List D)} {p : Pos} (hc : CallR X (.type T) r) (hr : CallOk ⟨X.K, X.mg⟩ r b b' f) (hm : X.mg x = none) (ha : PXA X W b (e :: es) gs) (hg : Gl X x := by rfl) (hv : bootBuiltins x = some (.type T) := by decide +kernel)
    (hn : x ≠ "__name__" := by decide) (hdb : (x == ("__debug__" : Str)) = false := by decide) (he : starEach (e :: es) X.env = (false, eval e X.env) :: starEach es X.env := by rfl) (hpl : (backTo pos (starEach es X.env)).any (·.1) = false := by rfl) :
    PX X W b' (.Call (.Name x p) (e :: es) [] pos) (eFn f gs) := pe_mono (pe_callTy hc hg hm hv ha hn hdb he hpl) (tx_fn hr)
/-! ### displays -/
def fTup (ds : List D) : Option D := if ds.length ≤ 16777216 then some (.tup ds) else none
def fLst (ds : List D) : Option D := if ds.length ≤ 16777216 then some (.lst ds) else none
theorem sz_ok {n : Nat} (h : n ≤ 16777216) : n ≤ sizeLine := by rw [sizeLine_eq]; exact h
theorem px_tup {es : List Expr} {x1 : _} {gs : Env → R (List D)} (h : PXA X W true es gs) : PX X W true (.Tuple es x1 pos) (eFn fTup gs) :=
  pe_mono (pe_tup h) fun σ H Q ⟨B, G, c, fp, A, q⟩ => txa_seq A q fun ds e vs G1 H1 s1 t1 A1 r1 q1 => by
    obtain ⟨d3, e3, p3⟩ := Res.lift q1
    unfold fTup at e3
    split at e3
    · cases e3
      rename_i hl
      refine ⟨sz_ok (by rw [r1.length]; exact hl), fun p hp => (p3.grow s1 t1).new A1 hp fun s => .tup (.inl (.inl upd_same)) (r1.mono s)⟩
    · cases e3
theorem px_lst {es : List Expr} {gs : Env → R (List D)} (h : PXA X W true es gs) : PX X W true (.List es pos) (eFn fLst gs) :=
  pe_mono (pe_lst h) fun σ H Q ⟨B, G, c, fp, A, q⟩ => txa_seq A q fun ds e vs G1 H1 s1 t1 A1 r1 q1 => by
    obtain ⟨d3, e3, p3⟩ := Res.lift q1
    unfold fLst at e3
    split at e3
    · cases e3
      rename_i hl
      refine ⟨sz_ok (by rw [r1.length]; exact hl), fun p hp => (p3.grow s1 t1).new A1 hp fun s => .lst (.inl (.inl upd_same)) (r1.mono s)⟩
    · cases e3
end
end VS

/-! VS: operators. -/
namespace VS
open PySem PySem.Spec PyProof.Rows L2

/-! ### items that may be kept -/
def okEl (b : Bool) (ds : List D) : Bool := b || D.flats ds
def okE (b : Bool) (d : D) : Bool := b || D.flat d
@[simp] theorem okEl_t (ds : List D) : okEl true ds = true := rfl
@[simp] theorem okE_t (d : D) : okE true d = true := rfl
@[simp] theorem okEl_f (ds : List D) : okEl false ds = D.flats ds := rfl
@[simp] theorem okE_f (d : D) : okE false d = D.flat d := rfl
section
variable {E : Wd} {B : Bs} {c : Env} {σ : L2.St} {fp : List Addr} {G H : Hp} {b : Bool}
theorem Rp.known (f : Fine B G H) {v : V} {d : D} (r : Rp E (vw b G H) v d) (k : okE b d = true) : Rp E G v d := by
  cases b with
  | true => exact r
  | false => exact Rp.down f r k
theorem RpL.down (f : Fine B G H) : ∀ {vs : List V} {ds : List D}, RpL E H vs ds → D.flats ds = true → RpL E G vs ds
  | _, [], r, _ => by cases r; exact .nil
  | _, d :: ds, r, k => by
    cases r with
    | cons h r =>
      simp at k
      exact .cons (Rp.down f h k.1) (RpL.down f r k.2)
theorem RpL.known (f : Fine B G H) {vs : List V} {ds : List D} (r : RpL E (vw b G H) vs ds) (k : okEl b ds = true) : RpL E G vs ds := by
  cases b with
  | true => exact r
  | false => exact RpL.down f r k
end
@[simp] theorem vw_t (G H : Hp) : vw true G H = G := rfl
@[simp] theorem vw_f (G H : Hp) : vw false G H = H := rfl
theorem same_vw {G H : Hp} (b : Bool) (s : Same G H) : Same (vw b G H) H := by
  cases b with
  | true => exact s
  | false => exact Same.refl _
/-- a list as it may be read in the heap -/
theorem Rp.lstH {E : Wd} {G H : Hp} {b : Bool} {v : V} {ds : List D} (r : Rp E (vw b G H) v (.lst ds)) (s : Same G H) : ∃ a vs, v = .ref a ∧ SqL E.K H a vs ∧ RpL E (vw b G H) vs ds := by
  cases r with
  | lst h r => exact ⟨_, _, rfl, Same.sqL (same_vw b s) h, r⟩
theorem Rp.tupH {E : Wd} {G H : Hp} {b : Bool} {v : V} {ds : List D} (r : Rp E (vw b G H) v (.tup ds)) (s : Same G H) : ∃ a vs, v = .ref a ∧ SqT E.K H a vs ∧ RpL E (vw b G H) vs ds := by
  cases r with
  | tup h r => exact ⟨_, _, rfl, Same.sqT (same_vw b s) h, r⟩
theorem Rp.intH {E : Wd} {G : Hp} {v : V} {i : Int} (r : Rp E G v (.int i)) : v = .int i := by cases r; rfl
theorem Rp.strH {E : Wd} {G : Hp} {v : V} {l : List Nat} (r : Rp E G v (.str l)) : v = .str (S l) := by cases r; rfl
theorem Rp.blH {E : Wd} {G : Hp} {v : V} {t : Bool} (r : Rp E G v (.bl t)) : v = .bl t := by cases r; rfl
@[simp] theorem S_len (l : List Nat) : (S l).length = l.length := by show l.toArray.size = _; simp
@[simp] theorem S_list (l : List Nat) : (S l).cps.toList = l := rfl
theorem S_app (a b : List Nat) : S a ++ S b = S (a ++ b) := by
  show (⟨a.toArray ++ b.toArray⟩ : Str) = ⟨(a ++ b).toArray⟩
  simp
theorem S_inj {a b : List Nat} : S a = S b ↔ a = b := ⟨fun h => by
  have e : a.toArray = b.toArray := congrArg Str.cps h
  simpa using e, fun h => by rw [h]⟩

/-! ### + -/
def opAdd (b1 b2 : Bool) : D → D → Option D
  | .int i, .int j => some (.int (i + j))
  | .str a, .str b => if a.length + b.length ≤ 16777216 then some (.str (a ++ b)) else none
  | .lst a, .lst b => if a.length + b.length ≤ 16777216 ∧ okEl b1 a = true ∧ okEl b2 b = true then some (.lst (a ++ b)) else none
  | .tup a, .tup b => if a.length + b.length ≤ 16777216 ∧ okEl b1 a = true ∧ okEl b2 b = true then some (.tup (a ++ b)) else none
  | _, _ => none
def rCatR (K : PySem.W.Frag) : R2 := fun x y H Q => ∃ l b xs zs, x = .ref l ∧ y = .ref b ∧ SqL K H l xs ∧ SqL K H b zs ∧ xs.length + zs.length ≤ sizeLine ∧ ∀ p, H p = none → Q (.ref p) (upd H p (.lst (xs ++ zs)))
section
variable {X : Cx} {W : WX} {b b' b1 b2 : Bool}
theorem lst_of {P : Program} {w : World} {H : Hp} {h : Heap} {a : Addr} {xs : List V} (r : Rd H a (.lst xs)) (x : HOk P w H h) : xs.length ≤ sizeLine ∧ ∃ (its : List Value) (n : Nat), Vals xs its ∧ h.get? a = some { cls := .type "list", data := .seq its.toArray n } := r.ok x
theorem op_catR : OpR X (binaryOp .Add) (rCatR X.K) := by
  intro pins s σ H x y v u Q I rx ry h
  obtain ⟨l, b, xs, zs, rfl, rfl, hH, hB, hz, q⟩ := h
  cases rx
  cases ry
  obtain ⟨its, r1, p1, z1⟩ := I.list hH
  obtain ⟨its2, r2, p2, z2⟩ := I.list hB
  have l1 := r1.length
  have l2 := r2.length
  obtain ⟨⟨cls, dd, data, sl⟩, ho, hc, n, hd⟩ := id p1.isList
  obtain ⟨⟨cls2, dd2, data2, sl2⟩, ho2, hc2, n2, hd2⟩ := id p2.isList
  simp only at hc hd hc2 hd2
  subst hc hd hc2 hd2
  have ea : its.toArray ++ its2.toArray = (its ++ its2).toArray := by simp
  refine concat_meets ⟨_, ho, rfl⟩ ⟨_, ho2, rfl⟩ noFill_list_add seq_list_add PySem.F.slot_list_add PySem.F.entry_list_add (PySem.F.args_list_add_2 _ _) (list_addW l b its.toArray its2.toArray n n2 dd dd2 sl sl2 (by rw [List.size_toArray, List.size_toArray]; omega)) ⟨ho, ho2, ?_⟩
  rw [ea]
  exact ⟨.ref _, _, I.lnew (t' := s.toks) (r1.append r2) (by rw [List.length_append]; omega), rfl, q _ I.fresh⟩
def rAddD (K : PySem.W.Frag) : R2 := fun x y H Q => (rI0 fun i j => V.int (i + j)) x y H Q ∨ (∃ i j, x = .str i ∧ y = .str j ∧ i.length + j.length ≤ sizeLine ∧ Q (.str (i ++ j)) H) ∨ rCatR K x y H Q ∨ rCatA K x y H Q
theorem op_addD : OpR X (binaryOp .Add) (rAddD X.K) := op_add.or (op_add_str.or (op_catR.or op_catA))
theorem ok_add : Op2Ok ⟨X.K, X.mg⟩ (rAddD X.K) b1 b2 true (opAdd b1 b2) := by
  intro B G H c σ fp x y dx dy d Q A rx ry e p
  unfold opAdd at e
  split at e
  · cases e
    exact .inl ⟨_, _, rx.intH, ry.intH, p.here A (.int _)⟩
  · split at e
    · cases e
      rename_i hl
      refine .inr (.inl ⟨_, _, rx.strH, ry.strH, by rw [S_len, S_len, sizeLine_eq]; exact hl, ?_⟩)
      rw [S_app]
      exact p.here A (.str _)
    · cases e
  · split at e
    · cases e
      rename_i hl
      obtain ⟨hl, k1, k2⟩ := hl
      obtain ⟨a1, vs, rfl, h1, r1⟩ := rx.lstH A.fine.le
      obtain ⟨a2, ws, rfl, h2, r2⟩ := ry.lstH A.fine.le
      have g1 := RpL.known A.fine r1 k1
      have g2 := RpL.known A.fine r2 k2
      refine .inr (.inr (.inl ⟨_, _, _, _, rfl, rfl, h1, h2, by rw [g1.length, g2.length, sizeLine_eq]; exact hl, fun q hq => p.new A hq fun s => .lst (.inl (.inl upd_same)) ((g1.append g2).mono s)⟩))
    · cases e
  · split at e
    · cases e
      rename_i hl
      obtain ⟨hl, k1, k2⟩ := hl
      obtain ⟨a1, vs, rfl, h1, r1⟩ := rx.tupH A.fine.le
      obtain ⟨a2, ws, rfl, h2, r2⟩ := ry.tupH A.fine.le
      have g1 := RpL.known A.fine r1 k1
      have g2 := RpL.known A.fine r2 k2
      have d1 : SqT X.K G a1 vs := by
        rcases h1 with (z | ⟨o, z⟩) | z
        · exact .inl (.inl (A.fine.tup _ _ z rfl))
        · exact .inl (.inr ⟨o, A.fine.tup _ _ z rfl⟩)
        · exact .inr z
      have d2 : SqT X.K G a2 ws := by
        rcases h2 with (z | ⟨o, z⟩) | z
        · exact .inl (.inl (A.fine.tup _ _ z rfl))
        · exact .inl (.inr ⟨o, A.fine.tup _ _ z rfl⟩)
        · exact .inr z
      refine .inr (.inr (.inr ⟨_, _, _, _, rfl, rfl, h1, h2, by rw [g1.length, g2.length, sizeLine_eq]; exact hl, fun z => ?_, fun z1 z2 => ?_, fun _ _ q hq => p.new A hq fun s => .tup (.inl (.inl upd_same)) ((g1.append g2).mono s)⟩))
      · subst z
        cases g1
        exact p.here A (.tup d2 (by simpa using g2))
      · subst z2
        cases g2
        exact p.here A (.tup d1 (by simpa using g1))
    · cases e
  · cases e

/-! ### the others, of ints (and texts) -/
def opSub : D → D → Option D
  | .int i, .int j => some (.int (i - j))
  | _, _ => none
theorem ok_sub : Op2Ok ⟨X.K, X.mg⟩ (rI0 fun i j => V.int (i - j)) b1 b2 true opSub := by
  intro B G H c σ fp x y dx dy d Q A rx ry e p
  unfold opSub at e
  split at e
  · cases e
    exact ⟨_, _, rx.intH, ry.intH, p.here A (.int _)⟩
  · cases e
def opMul : D → D → Option D
  | .int i, .int j => if (-(2 ^ 64) < i ∧ i < 2 ^ 64) ∨ (-(2 ^ 64) < j ∧ j < 2 ^ 64) then some (.int (i * j)) else none
  | .str l, .int j => if -(2 ^ 63) ≤ j ∧ j < 2 ^ 63 ∧ l.length * j.toNat ≤ 16777216 then some (.str (List.replicate j.toNat l).flatten) else none
  | _, _ => none
def rMulS : R2 := fun x y H Q => ∃ l j, x = .str (S l) ∧ y = .int j ∧ (-(2 ^ 63) ≤ j ∧ j < 2 ^ 63 ∧ l.length * j.toNat ≤ 16777216) ∧ Q (.str (S (List.replicate j.toNat l).flatten)) H
theorem rep_flat (l : List Nat) : ∀ (n : Nat) (acc : List Nat), (List.replicate n l.toArray).foldl (· ++ ·) acc.toArray = (acc ++ (List.replicate n l).flatten).toArray
  | 0, acc => by simp
  | n + 1, acc => by
    rw [List.replicate_succ, List.foldl_cons]
    have e : acc.toArray ++ l.toArray = (acc ++ l).toArray := by simp
    rw [e, rep_flat l n]
    simp [List.replicate_succ]
theorem op_mulS : OpR X (binaryOp .Mult) rMulS := by
  intro pins s σ H x y v u Q I rx ry h
  obtain ⟨l, j, rfl, rfl, ⟨h1, h2, h3⟩, q⟩ := h
  obtain ⟨t, rfl⟩ := rx
  obtain ⟨t', rfl⟩ := ry
  refine PySem.P.mul_str (by simp; omega) (fun n1 n2 => ?_) (fun n1 n2 => ?_) ?_
  · intro z
    have hpos : 0 < j := by omega
    have k : ((S l).length : Int) * j ≤ 16777216 := by
      rw [S_len]
      have e : ((l.length * j.toNat : Nat) : Int) = (l.length : Int) * j := by
        rw [Int.natCast_mul, Int.toNat_of_nonneg (by omega)]
      omega
    have w : ((S l).length : Int) ≤ (2 ^ 63 - 1) / j := by
      refine (Int.le_ediv_iff_mul_le hpos).mpr ?_
      omega
    omega
  · show decide _ = false
    rw [S_len, sizeLine_eq]
    simp
    omega
  · by_cases n1 : j < 1
    · rw [if_pos n1]
      have e : j.toNat = 0 := by omega
      rw [e] at q
      refine ⟨by decide, ⟨.str Str.empty, H, I.tok _, ⟨_, rfl⟩, ?_⟩⟩
      simpa [S, Str.empty] using q
    · rw [if_neg n1]
      split
      · rename_i hz
        refine ⟨.str (S l), H, I, ⟨_, rfl⟩, ?_⟩
        simp at hz
        rcases hz with hz | hz
        · subst hz
          simpa using q
        · subst hz
          simpa using q
      · have e := rep_flat l j.toNat []
        simp only [List.nil_append] at e
        have e2 : (⟨(List.replicate j.toNat (S l).cps).foldl (· ++ ·) #[]⟩ : Str) = S (List.replicate j.toNat l).flatten := by
          show (⟨_⟩ : Str) = ⟨_⟩
          rw [← e]
          rfl
        rw [e2]
        refine ⟨?_, ⟨.str (S (List.replicate j.toNat l).flatten), H, I.tok _, ⟨_, rfl⟩, q⟩⟩
        rw [S_len, sizeLine_eq]
        simp
        rw [Nat.mul_comm]; exact h3
theorem ok_mul : Op2Ok ⟨X.K, X.mg⟩ (fun x y H Q => (rI CMul fun i j => V.int (i * j)) x y H Q ∨ rMulS x y H Q) b1 b2 true opMul := by
  intro B G H c σ fp x y dx dy d Q A rx ry e p
  unfold opMul at e
  split at e
  · split at e
    · cases e
      rename_i hc
      exact .inl ⟨_, _, rx.intH, ry.intH, hc, p.here A (.int _)⟩
    · cases e
  · split at e
    · cases e
      rename_i hc
      exact .inr ⟨_, _, rx.strH, ry.intH, hc, p.here A (.str _)⟩
    · cases e
  · cases e
def opMod : D → D → Option D
  | .int i, .int j => if 0 < j then some (.int (i % j)) else none
  | _, _ => none
theorem ok_mod : Op2Ok ⟨X.K, X.mg⟩ (rI (fun _ j => 0 < j) fun i j => V.int (i % j)) b1 b2 true opMod := by
  intro B G H c σ fp x y dx dy d Q A rx ry e p
  unfold opMod at e
  split at e
  · split at e
    · cases e
      rename_i hc
      exact ⟨_, _, rx.intH, ry.intH, hc, p.here A (.int _)⟩
    · cases e
  · cases e
def opDiv : D → D → Option D
  | .int i, .int j => if 0 < j ∧ j < 1073741824 then some (.int (i / j)) else none
  | _, _ => none
theorem ok_div : Op2Ok ⟨X.K, X.mg⟩ (rI CDiv fun i j => V.int (i / j)) b1 b2 true opDiv := by
  intro B G H c σ fp x y dx dy d Q A rx ry e p
  unfold opDiv at e
  split at e
  · split at e
    · cases e
      rename_i hc
      exact ⟨_, _, rx.intH, ry.intH, hc, p.here A (.int _)⟩
    · cases e
  · cases e
def opPow : D → D → Option D
  | .int i, .int j => if 0 ≤ j ∧ j ≤ 1000000 ∧ i.natAbs < 2 ^ 64 then some (.int (i ^ j.toNat)) else none
  | _, _ => none
theorem ok_pow : Op2Ok ⟨X.K, X.mg⟩ (rI CPow fun i j => V.int (i ^ j.toNat)) b1 b2 true opPow := by
  intro B G H c σ fp x y dx dy d Q A rx ry e p
  unfold opPow at e
  split at e
  · split at e
    · cases e
      rename_i hc
      exact ⟨_, _, rx.intH, ry.intH, hc, p.here A (.int _)⟩
    · cases e
  · cases e
def opShl : D → D → Option D
  | .int i, .int j => if 0 ≤ j ∧ j ≤ 1000000 ∧ i.natAbs < 2 ^ 64 then some (.int (i * 2 ^ j.toNat)) else none
  | _, _ => none
theorem ok_shl : Op2Ok ⟨X.K, X.mg⟩ (rI CPow fun i j => V.int (i * 2 ^ j.toNat)) b1 b2 true opShl := by
  intro B G H c σ fp x y dx dy d Q A rx ry e p
  unfold opShl at e
  split at e
  · split at e
    · cases e
      rename_i hc
      exact ⟨_, _, rx.intH, ry.intH, hc, p.here A (.int _)⟩
    · cases e
  · cases e
def opShr : D → D → Option D
  | .int i, .int j => if 0 ≤ j then some (.int (i / 2 ^ j.toNat)) else none
  | _, _ => none
theorem ok_shr : Op2Ok ⟨X.K, X.mg⟩ (rI (fun _ j => 0 ≤ j) fun i j => V.int (i / 2 ^ j.toNat)) b1 b2 true opShr := by
  intro B G H c σ fp x y dx dy d Q A rx ry e p
  unfold opShr at e
  split at e
  · split at e
    · cases e
      rename_i hc
      exact ⟨_, _, rx.intH, ry.intH, hc, p.here A (.int _)⟩
    · cases e
  · cases e
def opBit (f : Int → Int → Int) : D → D → Option D
  | .int i, .int j => some (.int (f i j))
  | _, _ => none
theorem ok_bit {f : Int → Int → Int} : Op2Ok ⟨X.K, X.mg⟩ (rI0 fun i j => V.int (f i j)) b1 b2 true (opBit f) := by
  intro B G H c σ fp x y dx dy d Q A rx ry e p
  unfold opBit at e
  split at e
  · cases e
    exact ⟨_, _, rx.intH, ry.intH, p.here A (.int _)⟩
  · cases e
/-- < and its kin, of ints -/
def opRel (f : Int → Int → Bool) : D → D → Option D
  | .int i, .int j => some (.bl (f i j))
  | _, _ => none
theorem ok_rel {f : Int → Int → Bool} : Op2Ok ⟨X.K, X.mg⟩ (rI0 fun i j => V.bl (f i j)) b1 b2 true (opRel f) := by
  intro B G H c σ fp x y dx dy d Q A rx ry e p
  unfold opRel at e
  split at e
  · cases e
    exact ⟨_, _, rx.intH, ry.intH, p.here A (.bl _)⟩
  · cases e
end
end VS

/-! VS: equality, membership, items, slices. -/
namespace VS
open PySem PySem.Spec PyProof.Rows L2

mutual
def D.py : D → PyData
  | .non => .none
  | .bl b => .bool b
  | .int i => .int i
  | .str l => .str (S l)
  | .tup ds => .tuple (D.pys ds)
  | .lst ds => .list (D.pys ds)
  | .dic _ _ => .none
  | .dlk _ _ => .none
  | .obj _ _ _ => .none
def D.pys : List D → List PyData
  | [] => []
  | d :: ds => D.py d :: D.pys ds
end
mutual
/-- data that == may meet: no dict, no object; at most n deep -/
def D.pln : Nat → D → Bool
  | _, .non => true
  | _, .bl _ => true
  | _, .int _ => true
  | _, .str l => l.all (· < 0x110000)
  | 0, .tup _ => false
  | 0, .lst _ => false
  | n + 1, .tup ds => D.plns n ds
  | n + 1, .lst ds => D.plns n ds
  | _, .dic _ _ => false
  | _, .dlk _ _ => false
  | _, .obj _ _ _ => false
def D.plns : Nat → List D → Bool
  | _, [] => true
  | n, d :: ds => D.pln n d && D.plns n ds
end
mutual
/-- == -/
def D.eqv : D → D → Bool
  | .non, .non => true
  | .bl a, .bl b => a == b
  | .bl a, .int j => (if a then 1 else 0) == j
  | .int i, .bl b => i == (if b then 1 else 0)
  | .int i, .int j => i == j
  | .str x, .str y => x == y
  | .tup xs, .tup ys => D.eqvs xs ys
  | .lst xs, .lst ys => D.eqvs xs ys
  | _, _ => false
def D.eqvs : List D → List D → Bool
  | [], [] => true
  | x :: xs, y :: ys => D.eqv x y && D.eqvs xs ys
  | _, _ => false
end
mutual
theorem D.lay : ∀ (n : Nat) (d : D), D.pln n d = true → d.py.canLay0 = true ∧ d.py.depth ≤ n
  | n, .non, _ => by simp [D.py, PyData.canLay0, PyData.depth]
  | n, .bl _, _ => by simp [D.py, PyData.canLay0, PyData.depth]
  | n, .int _, _ => by simp [D.py, PyData.canLay0, PyData.depth]
  | n, .str l, h => by
    simp only [D.py, PyData.canLay0, PyData.depth]
    refine ⟨?_, Nat.zero_le _⟩
    rw [D.pln] at h
    show (l.toArray).all _ = true
    rw [← Array.all_toList]
    exact h
  | 0, .tup _, h => by simp [D.pln] at h
  | 0, .lst _, h => by simp [D.pln] at h
  | n + 1, .tup ds, h => by
    rw [D.pln] at h
    obtain ⟨h1, h2⟩ := D.lays n ds h
    simp only [D.py, PyData.canLay0, PyData.depth]
    exact ⟨h1, by omega⟩
  | n + 1, .lst ds, h => by
    rw [D.pln] at h
    obtain ⟨h1, h2⟩ := D.lays n ds h
    simp only [D.py, PyData.canLay0, PyData.depth]
    exact ⟨h1, by omega⟩
  | n, .dic _ _, h => by simp [D.pln] at h
  | n, .dlk _ _, h => by simp [D.pln] at h
  | n, .obj _ _ _, h => by simp [D.pln] at h
theorem D.lays : ∀ (n : Nat) (ds : List D), D.plns n ds = true → PyData.canLayAll0 (D.pys ds) = true ∧ PyData.depthAll (D.pys ds) ≤ n
  | n, [], _ => by simp [D.pys, PyData.canLayAll0, PyData.depthAll]
  | n, d :: ds, h => by
    rw [D.plns] at h
    simp at h
    obtain ⟨h1, h2⟩ := D.lay n d h.1
    obtain ⟨h3, h4⟩ := D.lays n ds h.2
    simp only [D.pys, PyData.canLayAll0, PyData.depthAll]
    exact ⟨by simp [h1, h3], by omega⟩
end
theorem D.shaped {n : Nat} {d : D} (hn : n ≤ 64) (h : D.pln n d = true) : SeqAt.shaped d.py = true := by
  obtain ⟨h1, h2⟩ := D.lay n d h
  unfold SeqAt.shaped
  rw [h1]
  simp
  omega
mutual
theorem D.eqv_py : ∀ (n m : Nat) (d e : D), D.pln n d = true → D.pln m e = true → PyData.eqv d.py e.py = D.eqv d e
  | n, m, .tup xs, .tup ys, h, k => by
    cases n with
    | zero => simp [D.pln] at h
    | succ n => cases m with
      | zero => simp [D.pln] at k
      | succ m =>
        rw [D.pln] at h k
        simp only [D.py, PyData.eqv, D.eqv]
        exact D.eqvs_py n m xs ys h k
  | n, m, .lst xs, .lst ys, h, k => by
    cases n with
    | zero => simp [D.pln] at h
    | succ n => cases m with
      | zero => simp [D.pln] at k
      | succ m =>
        rw [D.pln] at h k
        simp only [D.py, PyData.eqv, D.eqv]
        exact D.eqvs_py n m xs ys h k
  | n, m, .non, e, h, k => by cases e <;> simp_all [D.py, PyData.eqv, D.eqv, D.pln]
  | n, m, .bl _, e, h, k => by cases e <;> simp_all [D.py, PyData.eqv, D.eqv, D.pln]
  | n, m, .int _, e, h, k => by cases e <;> simp_all [D.py, PyData.eqv, D.eqv, D.pln]
  | n, m, .str a, .str b, h, k => by
    simp only [D.py, PyData.eqv, D.eqv]
    by_cases e : a = b
    · subst e; simp
    · have e2 : ¬ S a = S b := fun z => e (S_inj.mp z)
      rw [beq_eq_false_iff_ne.mpr e, beq_eq_false_iff_ne.mpr e2]
  | n, m, .str _, .non, h, k => by simp [D.py, PyData.eqv, D.eqv]
  | n, m, .str _, .bl _, h, k => by simp [D.py, PyData.eqv, D.eqv]
  | n, m, .str _, .int _, h, k => by simp [D.py, PyData.eqv, D.eqv]
  | n, m, .str _, .tup _, h, k => by simp [D.py, PyData.eqv, D.eqv]
  | n, m, .str _, .lst _, h, k => by simp [D.py, PyData.eqv, D.eqv]
  | n, m, _, .dic _ _, h, k => by simp [D.pln] at k
  | n, m, _, .dlk _ _, h, k => by simp [D.pln] at k
  | n, m, _, .obj _ _ _, h, k => by simp [D.pln] at k
  | n, m, .dic _ _, _, h, k => by simp [D.pln] at h
  | n, m, .dlk _ _, _, h, k => by simp [D.pln] at h
  | n, m, .obj _ _ _, _, h, k => by simp [D.pln] at h
  | n, m, .tup _, .non, h, k => by simp [D.py, PyData.eqv, D.eqv]
  | n, m, .tup _, .bl _, h, k => by simp [D.py, PyData.eqv, D.eqv]
  | n, m, .tup _, .int _, h, k => by simp [D.py, PyData.eqv, D.eqv]
  | n, m, .tup _, .str _, h, k => by simp [D.py, PyData.eqv, D.eqv]
  | n, m, .tup _, .lst _, h, k => by simp [D.py, PyData.eqv, D.eqv]
  | n, m, .lst _, .non, h, k => by simp [D.py, PyData.eqv, D.eqv]
  | n, m, .lst _, .bl _, h, k => by simp [D.py, PyData.eqv, D.eqv]
  | n, m, .lst _, .int _, h, k => by simp [D.py, PyData.eqv, D.eqv]
  | n, m, .lst _, .str _, h, k => by simp [D.py, PyData.eqv, D.eqv]
  | n, m, .lst _, .tup _, h, k => by simp [D.py, PyData.eqv, D.eqv]
theorem D.eqvs_py : ∀ (n m : Nat) (xs ys : List D), D.plns n xs = true → D.plns m ys = true → PyData.eqvAll (D.pys xs) (D.pys ys) = D.eqvs xs ys
  | n, m, [], [], _, _ => by simp [D.pys, PyData.eqvAll, D.eqvs]
  | n, m, [], y :: ys, _, _ => by simp [D.pys, PyData.eqvAll, D.eqvs]
  | n, m, x :: xs, [], _, _ => by simp [D.pys, PyData.eqvAll, D.eqvs]
  | n, m, x :: xs, y :: ys, h, k => by
    rw [D.plns] at h k
    simp at h k
    simp only [D.pys, PyData.eqvAll, D.eqvs]
    rw [D.eqv_py n m x y h.1 k.1, D.eqvs_py n m xs ys h.2 k.2]
end
@[simp] theorem D.pys_map (ds : List D) : D.pys ds = ds.map D.py := by
  induction ds with
  | nil => rfl
  | cons d ds ih => rw [D.pys, ih]; rfl
theorem plns_all (n : Nat) (ds : List D) : D.plns n ds = ds.all (D.pln n) := by
  induction ds with
  | nil => rfl
  | cons d ds ih => rw [D.plns, ih]; rfl

section
variable {E : Wd} {G : Hp}
mutual
theorem Rp.dp : ∀ (n : Nat) (d : D) (v : V), Rp E G v d → D.pln n d = true → Dp E.K G v d.py
  | n, .non, _, h, _ => by cases h; exact .non
  | n, .bl b, _, h, _ => by cases h; exact .bl b
  | n, .int i, _, h, _ => by cases h; exact .int i
  | n, .str l, _, h, _ => by cases h; exact .str _
  | 0, .tup ds, _, h, k => by simp [D.pln] at k
  | 0, .lst ds, _, h, k => by simp [D.pln] at k
  | n + 1, .tup ds, _, h, k => by
    cases h with
    | tup h r => rw [D.py]; exact .tup h (RpL.dp n ds _ r (by rw [D.pln] at k; exact k))
  | n + 1, .lst ds, _, h, k => by
    cases h with
    | lst h r => rw [D.py]; exact .lst h (RpL.dp n ds _ r (by rw [D.pln] at k; exact k))
  | n, .dic _ _, _, h, k => by simp [D.pln] at k
  | n, .dlk _ _, _, h, k => by simp [D.pln] at k
  | n, .obj _ _ _, _, h, k => by simp [D.pln] at k
theorem RpL.dp : ∀ (n : Nat) (ds : List D) (vs : List V), RpL E G vs ds → D.plns n ds = true → DpAll E.K G vs (D.pys ds)
  | n, [], _, h, _ => by cases h; exact .nil
  | n, d :: ds, _, h, k => by
    cases h with
    | cons h r =>
      rw [D.plns] at k
      simp at k
      rw [D.pys]
      exact .cons (Rp.dp n d _ h k.1) (RpL.dp n ds _ r k.2)
end
end
section
variable {X : Cx} {W : WX} {b b' b1 b2 : Bool}
def opEq : D → D → Option D := fun d e => if D.pln 64 d && D.pln 64 e then some (.bl (D.eqv d e)) else none
def opNe : D → D → Option D := fun d e => if D.pln 64 d && D.pln 64 e then some (.bl (!D.eqv d e)) else none
theorem ok_eq : Op2Ok ⟨X.K, X.mg⟩ (rEqD X.K) b1 b2 true opEq := by
  intro B G H c σ fp x y dx dy d Q A rx ry e p
  unfold opEq at e
  split at e
  · cases e
    rename_i hc
    simp at hc
    exact ⟨_, _, Rp.dp 64 _ _ (vw_rp A.fine.le rx) hc.1, Rp.dp 64 _ _ (vw_rp A.fine.le ry) hc.2, D.shaped (Nat.le_refl _) hc.1, D.shaped (Nat.le_refl _) hc.2, by rw [D.eqv_py 64 64 _ _ hc.1 hc.2]; exact p.here A (.bl _)⟩
  · cases e
theorem ok_ne : Op2Ok ⟨X.K, X.mg⟩ (rNeD X.K) b1 b2 true opNe := by
  intro B G H c σ fp x y dx dy d Q A rx ry e p
  unfold opNe at e
  split at e
  · cases e
    rename_i hc
    simp at hc
    exact ⟨_, _, Rp.dp 64 _ _ (vw_rp A.fine.le rx) hc.1, Rp.dp 64 _ _ (vw_rp A.fine.le ry) hc.2, D.shaped (Nat.le_refl _) hc.1, D.shaped (Nat.le_refl _) hc.2, by rw [D.eqv_py 64 64 _ _ hc.1 hc.2]; exact p.here A (.bl _)⟩
  · cases e
/-! ### is None -/
def D.isNon : D → Bool
  | .non => true
  | _ => false
def opIs : D → D → Option D
  | d, .non => some (.bl d.isNon)
  | _, _ => none
def opIsnt : D → D → Option D
  | d, .non => some (.bl (!d.isNon))
  | _, _ => none
theorem rp_non {E : Wd} {G : Hp} {v : V} {d : D} (r : Rp E G v d) : decide (v = .non) = d.isNon := by cases r <;> simp [D.isNon]
theorem ok_is : Op2Ok ⟨X.K, X.mg⟩ (fun x y H Q => y = .non ∧ Q (.bl (decide (x = .non))) H) b1 b2 true opIs := by
  intro B G H c σ fp x y dx dy d Q A rx ry e p
  unfold opIs at e
  split at e
  · cases e
    refine ⟨by cases ry; rfl, ?_⟩
    rw [rp_non rx]
    exact p.here A (.bl _)
  · cases e
theorem ok_isnt : Op2Ok ⟨X.K, X.mg⟩ (fun x y H Q => y = .non ∧ Q (.bl (!decide (x = .non))) H) b1 b2 true opIsnt := by
  intro B G H c σ fp x y dx dy d Q A rx ry e p
  unfold opIsnt at e
  split at e
  · cases e
    refine ⟨by cases ry; rfl, ?_⟩
    rw [rp_non rx]
    exact p.here A (.bl _)
  · cases e
/-! ### in -/
def inD : D → D → Option Bool
  | .str x, .str l => some (!(Builtin.Str.occurrences (S l) (S x) 0 l.length 1).isEmpty)
  | d, .lst ds => if D.pln 64 d && D.pln 64 (.lst ds) then some (ds.any fun z => D.eqv z d) else none
  | d, .tup ds => if D.pln 64 d && D.pln 64 (.tup ds) then some (ds.any fun z => D.eqv z d) else none
  | d, .dic ks _ => match d.key with
    | some k => some (ks.any fun z => z.key == some k)
    | none => none
  | _, _ => none
def opIn : D → D → Option D := fun d e => (inD d e).map D.bl
def opNotIn : D → D → Option D := fun d e => (inD d e).map fun t => D.bl !t
def rInA (K : PySem.W.Frag) (neg : Bool) : R2 := fun x y H Q => ∃ d ds, Dp K H x d ∧ (Dp K H y (.list ds) ∨ Dp K H y (.tuple ds)) ∧ SeqAt.shaped d = true ∧ SeqAt.shaped (.list ds) = true ∧ Q (.bl (if neg then !(ds.any fun z => PyData.eqv z d) else ds.any fun z => PyData.eqv z d)) H
theorem op_inA (hu : X.A.units + 65 < cLine) : OpR X (compareOp .In) (rInA X.K false) := by
  intro pins s σ H x y v u Q I rx ry h
  obtain ⟨d, ds, hd, he, sd, se, q⟩ := h
  obtain ⟨as, r1⟩ := Dp.reads I d x v hd rx
  rcases he with he | he
  · obtain ⟨bs, r2⟩ := Dp.reads I (.list ds) y u he ry
    exact SeqAt.in_list_reads r2 r1 (SeqAt.canLay_of_shaped se) (SeqAt.canLay_of_shaped sd) (room_in_shaped sd hu) ⟨.bl _, H, I, rfl, q⟩
  · obtain ⟨bs, r2⟩ := Dp.reads I (.tuple ds) y u he ry
    exact SeqAt.in_tuple_reads r2 r1 (SeqAt.canLay_of_shaped se) (SeqAt.canLay_of_shaped sd) (room_in_shaped sd hu) ⟨.bl _, H, I, rfl, q⟩
theorem op_notInA (hu : X.A.units + 65 < cLine) : OpR X (compareOp .NotIn) (rInA X.K true) := by
  intro pins s σ H x y v u Q I rx ry h
  obtain ⟨d, ds, hd, he, sd, se, q⟩ := h
  obtain ⟨as, r1⟩ := Dp.reads I d x v hd rx
  rcases he with he | he
  · obtain ⟨bs, r2⟩ := Dp.reads I (.list ds) y u he ry
    exact SeqAt.notIn_list_reads r2 r1 (SeqAt.canLay_of_shaped se) (SeqAt.canLay_of_shaped sd) (room_in_shaped sd hu) ⟨.bl _, H, I, rfl, q⟩
  · obtain ⟨bs, r2⟩ := Dp.reads I (.tuple ds) y u he ry
    exact SeqAt.notIn_tuple_reads r2 r1 (SeqAt.canLay_of_shaped se) (SeqAt.canLay_of_shaped sd) (room_in_shaped sd hu) ⟨.bl _, H, I, rfl, q⟩
def rStrIn (neg : Bool) : R2 := fun x y H Q => ∃ i j, x = .str i ∧ y = .str j ∧ Q (.bl (if neg then !(!(Builtin.Str.occurrences j i 0 j.length 1).isEmpty) else !(Builtin.Str.occurrences j i 0 j.length 1).isEmpty)) H
def rInX (K : PySem.W.Frag) (neg : Bool) : R2 := fun x y H Q => rStrIn neg x y H Q ∨ rInA K neg x y H Q
theorem op_inX (hu : X.A.units + 65 < cLine) : OpR X (compareOp .In) (rInX X.K false) := OpR.or op_in_str (op_inA hu)
theorem op_notInX (hu : X.A.units + 65 < cLine) : OpR X (compareOp .NotIn) (rInX X.K true) := OpR.or op_notin_str (op_notInA hu)
/-- membership but in a dict -/
def inS : D → D → Option Bool
  | .str x, .str l => some (!(Builtin.Str.occurrences (S l) (S x) 0 l.length 1).isEmpty)
  | d, .lst ds => if D.pln 64 d && D.pln 64 (.lst ds) then some (ds.any fun z => D.eqv z d) else none
  | d, .tup ds => if D.pln 64 d && D.pln 64 (.tup ds) then some (ds.any fun z => D.eqv z d) else none
  | _, _ => none
theorem any_py {n : Nat} {d : D} {ds : List D} (h : D.pln 64 d = true) (k : D.plns n ds = true) : ((D.pys ds).any fun z => PyData.eqv z d.py) = ds.any fun z => D.eqv z d := by
  rw [plns_all] at k
  rw [D.pys_map, List.any_map]
  induction ds with
  | nil => rfl
  | cons x ds ih =>
    simp at k
    rw [List.any_cons, List.any_cons, ih (by simpa using k.2)]
    show (PyData.eqv x.py d.py || _) = _
    rw [D.eqv_py n 64 x d k.1 h]
theorem ok_inX {neg : Bool} : Op2Ok ⟨X.K, X.mg⟩ (rInX X.K neg) b1 b2 true (fun d e => (inS d e).map fun t => D.bl (if neg then !t else t)) := by
  intro B G H c σ fp x y dx dy d Q A rx ry e p
  have rx' := vw_rp A.fine.le rx
  have ry' := vw_rp A.fine.le ry
  obtain ⟨t, ht, rfl⟩ := Option.map_eq_some_iff.mp e
  clear e
  unfold inS at ht
  split at ht
  · cases ht
    refine .inl ⟨_, _, rx'.strH, ry'.strH, ?_⟩
    rw [S_len]
    exact p.here A (.bl _)
  · split at ht
    · cases ht
      rename_i es hc
      simp only [Bool.and_eq_true] at hc
      obtain ⟨h1, h2⟩ := hc
      have h3 : D.plns 63 es = true := by rw [D.pln] at h2; exact h2
      have hd := Rp.dp 64 _ _ ry' h2
      rw [D.py] at hd
      have hs := D.shaped (Nat.le_refl _) h2
      rw [D.py] at hs
      refine .inr ⟨_, _, Rp.dp 64 _ _ rx' h1, .inl hd, D.shaped (Nat.le_refl _) h1, hs, ?_⟩
      rw [any_py h1 h3]
      exact p.here A (.bl _)
    · cases ht
  · split at ht
    · cases ht
      rename_i es hc
      simp only [Bool.and_eq_true] at hc
      obtain ⟨h1, h2⟩ := hc
      have h3 : D.plns 63 es = true := by rw [D.pln] at h2; exact h2
      have hd := Rp.dp 64 _ _ ry' h2
      rw [D.py] at hd
      have hs : SeqAt.shaped (PyData.list (D.pys es)) = true := by
        have z := D.shaped (Nat.le_refl 64) h2
        rw [D.py] at z
        unfold SeqAt.shaped at z ⊢
        simp only [PyData.canLay0, PyData.depth] at z ⊢
        exact z
      refine .inr ⟨_, _, Rp.dp 64 _ _ rx' h1, .inr hd, D.shaped (Nat.le_refl _) h1, hs, ?_⟩
      rw [any_py h1 h3]
      exact p.here A (.bl _)
    · cases ht
  · cases ht
def opInS : D → D → Option D := fun d e => (inS d e).map fun t => D.bl t
def opNotInS : D → D → Option D := fun d e => (inS d e).map fun t => D.bl (!t)
theorem ok_inS : Op2Ok ⟨X.K, X.mg⟩ (rInX X.K false) b1 b2 true opInS := ok_inX (neg := false)
theorem ok_notInS : Op2Ok ⟨X.K, X.mg⟩ (rInX X.K true) b1 b2 true opNotInS := ok_inX (neg := true)

/-! ### items -/
def opIx (b : Bool) : D → D → Option D
  | .lst ds, .int i => (atI ds i).bind fun d => if okE b d then some d else none
  | .tup ds, .int i => (atI ds i).bind fun d => if okE b d then some d else none
  | .str l, .int i => if l.length ≤ 16777216 then (atI l i).map fun x => .str [x] else none
  | _, _ => none
theorem RpL.at {E : Wd} {G : Hp} {vs : List V} {ds : List D} (h : RpL E G vs ds) {i : Int} {d : D} (e : atI ds i = some d) : ∃ v, atI vs i = some v ∧ Rp E G v d := by
  unfold atI at e ⊢
  rw [h.length]
  cases k : ixN ds.length i with
  | none => rw [k] at e; cases e
  | some j =>
    rw [k] at e
    exact h.get e
theorem ok_ix : Op2Ok ⟨X.K, X.mg⟩ (rIx X.K) b b2 true (opIx b) := by
  intro B G H c σ fp x y dx dy d Q A rx ry e p
  unfold opIx at e
  split at e
  · rename_i ds i
    cases hk : atI ds i with
    | none => rw [hk] at e; cases e
    | some d' =>
      rw [hk] at e
      have e : (if okE b d' then some d' else none) = some d := e
      split at e
      · cases e
        rename_i hok
        obtain ⟨a, vs, rfl, h1, r1⟩ := rx.lstH A.fine.le
        obtain ⟨v, hv, rv⟩ := r1.at hk
        exact .inl ⟨_, _, _, _, rfl, ry.intH, h1, hv, p.here A (rv.known A.fine hok)⟩
      · cases e
  · rename_i ds i
    cases hk : atI ds i with
    | none => rw [hk] at e; cases e
    | some d' =>
      rw [hk] at e
      have e : (if okE b d' then some d' else none) = some d := e
      split at e
      · cases e
        rename_i hok
        obtain ⟨a, vs, rfl, h1, r1⟩ := rx.tupH A.fine.le
        obtain ⟨v, hv, rv⟩ := r1.at hk
        exact .inr (.inl ⟨_, _, _, _, rfl, ry.intH, h1, hv, p.here A (rv.known A.fine hok)⟩)
      · cases e
  · rename_i l i
    split at e
    · rename_i hl
      cases hk : atI l i with
      | none => rw [hk] at e; cases e
      | some z =>
        rw [hk] at e
        cases e
        refine .inr (.inr ⟨_, _, z, rx.strH, ry.intH, by rw [S_len, sizeLine_eq]; exact hl, hk, ?_⟩)
        exact p.here A (.str [z])
    · cases e
  · cases e
theorem px_ix {a eb : Expr} {pos : Pos} {ga gb : Env → R D} (ha : PX X W b a ga) (hb : PX X W b2 eb gb) (hs : PlainIx eb := by exact fun _ _ => rfl) : PX X W true (.Subscript a eb pos) (eOp2 (opIx b) ga gb) :=
  pe_mono (pe_ix ix_seq ha hb hs) (tx_op2 ok_ix)

/-! ### slices -/
def eO (g : Env → R D) : Env → R (Option Int) := fun c => g c >>= fun d => match d with
  | .int i => .ok (some i)
  | _ => .stuck
def eNoO : Env → R (Option Int) := fun _ => .ok none
def PostO (E : Wd) (B : Bs) (c : Env) (σ : L2.St) (fp : List Addr) (G H : Hp) (Q : Option Int → Hp → Prop) (t : Option Int) : Prop :=
  ∀ G' H', Same G G' → Same H H' → Abs E B G' H' c σ fp → Q t H'
def TXO (E : Wd) (W : WX) (g : Env → R (Option Int)) : TO := fun σ H Q => ∃ B G c fp, Abs E B G H c σ fp ∧ Res E W B c σ fp G H (g c) (PostO E B c σ fp G H Q)
def PXO (X : Cx) (W : WX) (e : Option Expr) (g : Env → R (Option Int)) : Prop := PO X e (TXO ⟨X.K, X.mg⟩ W g)
theorem po_mono {e : Option Expr} {t t' : TO} (h : PO X e t) (k : ∀ σ H Q, t' σ H Q → t σ H Q) : PO X e t' := ⟨fun pins s σ H Q I q => h.run pins s σ H Q I (k σ H Q q)⟩
theorem pxo_no : PXO X W none eNoO := po_mono po_none fun σ H Q ⟨B, G, c, fp, A, q⟩ => q G H (Same.refl _) (Same.refl _) A
theorem pxo_some {e : Expr} {g : Env → R D} (h : PX X W b e g) : PXO X W (some e) (eO g) := po_mono (po_some h) fun σ H Q ⟨B, G, c, fp, A, q⟩ => tx_seq A q fun d e v G1 H1 s1 t1 A1 r1 q1 => by
  cases d with
  | int i => exact ⟨i, r1.intH, q1 G1 H1 s1 t1 A1⟩
  | _ => exact q1.elim
theorem txo_seq {α : Type} {E : Wd} {W : WX} {B : Bs} {c : Env} {σ : L2.St} {fp : List Addr} {G H : Hp} {ga : Env → R (Option Int)} {f : Option Int → R α} {P : α → Prop} {Q' : Option Int → Hp → Prop} (A : Abs E B G H c σ fp) (h : Res E W B c σ fp G H (ga c >>= f) P)
    (k : ∀ t, ga c = .ok t → ∀ G1 H1, Same G G1 → Same H H1 → Abs E B G1 H1 c σ fp → Res E W B c σ fp G1 H1 (f t) P → Q' t H1) : TXO E W ga σ H Q' := by
  refine ⟨B, G, c, fp, A, ?_⟩
  cases e : ga c with
  | ok d =>
    rw [e] at h
    exact fun G1 H1 s t A1 => k d e G1 H1 s t A1 (Res.grow (r := f d) h s t fun _ _ z => z)
  | ex x => rw [e] at h; exact h
  | stuck => rw [e] at h; exact h
/-- the part of a list between two places -/
def cutD {α : Type} (xs : List α) (lo hi : Option Int) : List α := (xs.drop (HT.sIx xs.length 0 lo)).take (HT.sIx xs.length xs.length hi - HT.sIx xs.length 0 lo)
def opSl (b : Bool) (d : D) (lo hi : Option Int) : Option D :=
  match d with
  | .lst ds => if okEl b (cutD ds lo hi) then some (.lst (cutD ds lo hi)) else none
  | .tup ds => if okEl b (cutD ds lo hi) then some (.tup (cutD ds lo hi)) else none
  | .str l => if l.length ≤ 16777216 then some (.str (cutD l lo hi)) else none
  | _ => none
def eSl (b : Bool) (g : Env → R D) (gl gh : Env → R (Option Int)) : Env → R D := fun c => g c >>= fun d => gl c >>= fun lo => gh c >>= fun hi => lift (opSl b d lo hi)
def rSlX' (K : PySem.W.Frag) : V → Option Int → Option Int → Hp → VK → Prop := fun x lo hi H Q => rSlL K x lo hi H Q ∨ rSlA K x lo hi H Q ∨ rSlS x lo hi H Q
theorem sl_X : SlR X (rSlX' X.K) := sl_list.or (sl_tupA.or sl_str)
theorem RpL.cut {E : Wd} {G : Hp} {vs : List V} {ds : List D} (h : RpL E G vs ds) (lo hi : Option Int) : RpL E G (cutV vs lo hi) (cutD ds lo hi) := by
  unfold cutV cutD
  rw [h.length]
  exact (h.drop _).take _
theorem cut_whole {α : Type} {xs : List α} {lo hi : Option Int} (h : HT.sIx xs.length 0 lo = 0 ∧ HT.sIx xs.length xs.length hi = xs.length) : cutD xs lo hi = xs := by
  unfold cutD
  rw [h.1, h.2]
  simp
theorem ok_sl {B : Bs} {G H : Hp} {c : Env} {σ : L2.St} {fp : List Addr} {x : V} {d d' : D} {lo hi : Option Int} {Q : VK} (A : Abs ⟨X.K, X.mg⟩ B G H c σ fp) (rx : Rp ⟨X.K, X.mg⟩ (vw b G H) x d) (e : opSl b d lo hi = some d') (p : Post ⟨X.K, X.mg⟩ B c σ fp G H true Q d') : rSlX' X.K x lo hi H Q := by
  unfold opSl at e
  split at e
  · split at e
    · cases e
      rename_i hok
      obtain ⟨a, vs, rfl, h1, r1⟩ := rx.lstH A.fine.le
      exact .inl ⟨_, _, rfl, h1, fun q hq => p.new A hq fun s => .lst (.inl (.inl upd_same)) (((r1.cut lo hi).known A.fine hok).mono s)⟩
    · cases e
  · split at e
    · cases e
      rename_i ds hok
      obtain ⟨a, vs, rfl, h1, r1⟩ := rx.tupH A.fine.le
      have r2 := (r1.cut lo hi).known A.fine hok
      refine .inr (.inl ⟨_, _, rfl, h1, fun hw => ?_, fun hw q hq => p.new A hq fun s => .tup (.inl (.inl upd_same)) (r2.mono s)⟩)
      have e1 : cutV vs lo hi = vs := cut_whole hw
      rw [r1.length] at hw
      have e2 : cutD ds lo hi = ds := cut_whole hw
      rw [e1, e2] at r2
      rw [e2] at p
      refine p.here A (.tup ?_ r2)
      rcases h1 with (z | ⟨o, z⟩) | z
      · exact .inl (.inl (A.fine.tup _ _ z rfl))
      · exact .inl (.inr ⟨o, A.fine.tup _ _ z rfl⟩)
      · exact .inr z
    · cases e
  · split at e
    · cases e
      rename_i l hl
      refine .inr (.inr ⟨S l, rx.strH, by rw [S_len, sizeLine_eq]; exact hl, ?_⟩)
      have e2 : cutS (S l) lo hi = S (cutD l lo hi) := by
        unfold cutS cutD S
        simp [Str.length]
      rw [e2]
      exact p.here A (.str _)
    · cases e
  · cases e
theorem px_sl {a : Expr} {lo hi : Option Expr} {pos p2 : Pos} {g : Env → R D} {gl gh : Env → R (Option Int)} (ha : PX X W b a g) (hl : PXO X W lo gl) (hh : PXO X W hi gh) : PX X W true (.Subscript a (.Slice lo hi none p2) pos) (eSl b g gl gh) :=
  pe_mono (pe_slice sl_X ha hl hh) fun σ H Q ⟨B, G, c, fp, A, q⟩ => tx_seq A q fun d e v G1 H1 s1 t1 A1 r1 q1 => txo_seq A1 q1 fun lo e2 G2 H2 s2 t2 A2 q2 => txo_seq A2 q2 fun hi e3 G3 H3 s3 t3 A3 q3 => by
    obtain ⟨d3, e3, p3⟩ := Res.lift q3
    exact ok_sl A3 (vw_mono (s2.trans s3) (t2.trans t3) r1) e3 (p3.grow (s1.trans (s2.trans s3)) (t1.trans (t2.trans t3)))
end
end VS

/-! VS: built-in functions and methods. -/
namespace VS
open PySem PySem.Spec PyProof.Rows L2

section
variable {X : Cx} {W : WX} {b b' b1 b2 : Bool}
theorem RpL.one {E : Wd} {G : Hp} {vs : List V} {d : D} (h : RpL E G vs [d]) : ∃ v, vs = [v] ∧ Rp E G v d := by
  cases h with
  | cons h r => cases r; exact ⟨_, rfl, h⟩
theorem RpL.two {E : Wd} {G : Hp} {vs : List V} {d e : D} (h : RpL E G vs [d, e]) : ∃ v w, vs = [v, w] ∧ Rp E G v d ∧ Rp E G w e := by
  cases h with
  | cons h r => cases r with
    | cons k r => cases r; exact ⟨_, _, rfl, h, k⟩
theorem vw_rd {G H : Hp} {a : Addr} {u : HO} (s : Same G H) (h : Rd (vw b G H) a u) : Rd H a u := Same.rd (same_vw b s) h
theorem Rp.dicH {E : Wd} {G H : Hp} {v : V} {ks ds : List D} (r : Rp E (vw b G H) v (.dic ks ds)) (s : Same G H) : ∃ a kvs, v = .ref a ∧ Rd H a (.dK kvs) ∧ ks.map D.key = kvs.map (fun p => some p.1) ∧ RpL E (vw b G H) (kvs.map (·.2)) ds := by
  cases r with
  | dic h e r => exact ⟨_, _, rfl, Same.rd (same_vw b s) h, e, r⟩

/-! ### len -/
def fLen : List D → Option D
  | [.str l] => if l.length ≤ 16777216 then some (.int l.length) else none
  | [.lst ds] => some (.int ds.length)
  | [.tup ds] => some (.int ds.length)
  | [.dic ks _] => some (.int ks.length)
  | [.dlk ks _] => some (.int ks.length)
  | _ => none
def rLenA (K : PySem.W.Frag) : List V → Hp → VK → Prop := fun xs H Q => (∃ x n, xs = [x] ∧ LenV K x H n ∧ Q (.int n) H) ∨ ∃ a kvs, xs = [V.ref a] ∧ Rd H a (.dK kvs) ∧ Q (.int kvs.length) H
theorem call_lenA : CallR X (.builtin "len") (rLenA X.K) := call_len.or fun pins s σ H xs us Q I r h => by
  obtain ⟨a, kvs, rfl, ha, q⟩ := h
  obtain ⟨u, rfl, ru⟩ := vals1 r
  cases ru
  exact d_len I ha fun t s' I' => ⟨.int kvs.length, H, I', ⟨t, rfl⟩, q⟩
theorem ok_len : CallOk ⟨X.K, X.mg⟩ (rLenA X.K) b true fLen := by
  intro B G H c σ fp vs ds d Q A r e p
  unfold fLen at e
  split at e
  · split at e
    · cases e
      rename_i l hl
      obtain ⟨v, rfl, rv⟩ := r.one
      cases rv.strH
      exact .inl ⟨_, l.length, rfl, ⟨by rw [S_len, sizeLine_eq]; exact hl, by rw [S_len]⟩, p.here A (.int _)⟩
    · cases e
  · cases e
    rename_i ds
    obtain ⟨v, rfl, rv⟩ := r.one
    obtain ⟨a, vs, rfl, h1, r1⟩ := rv.lstH A.fine.le
    exact .inl ⟨_, ds.length, rfl, .inl ⟨vs, h1, r1.length.symm⟩, p.here A (.int _)⟩
  · cases e
    rename_i ds
    obtain ⟨v, rfl, rv⟩ := r.one
    obtain ⟨a, vs, rfl, h1, r1⟩ := rv.tupH A.fine.le
    exact .inl ⟨_, ds.length, rfl, .inr ⟨vs, h1, r1.length.symm⟩, p.here A (.int _)⟩
  · cases e
    rename_i ks ds
    obtain ⟨v, rfl, rv⟩ := r.one
    obtain ⟨a, kvs, rfl, h1, e1, r1⟩ := rv.dicH A.fine.le
    have hl : kvs.length = ks.length := by
      have := congrArg List.length e1
      simpa using this.symm
    refine .inr ⟨_, _, rfl, h1, ?_⟩
    rw [hl]
    exact p.here A (.int _)
  · cases e
    rename_i ks ds
    obtain ⟨v, rfl, rv⟩ := r.one
    have rv := vw_rp A.fine.le rv
    cases rv with
    | @dlk a o kvs _ _ h1 e1 r1 =>
      have hl : kvs.length = ks.length := by
        have := congrArg List.length e1
        simpa using this.symm
      refine .inr ⟨_, _, rfl, .inr ⟨_, h1⟩, ?_⟩
      rw [hl]
      exact p.here A (.int _)
  · cases e

/-! ### abs, int, max, min, list, tuple, sum, any, all -/
def fAbs : List D → Option D
  | [.int i] => some (.int (if i < 0 then -i else i))
  | _ => none
theorem ok_abs : CallOk ⟨X.K, X.mg⟩ (fun xs H Q => ∃ i, xs = [V.int i] ∧ Q (.int (if i < 0 then -i else i)) H) b true fAbs := by
  intro B G H c σ fp vs ds d Q A r e p
  unfold fAbs at e
  split at e
  · cases e
    obtain ⟨v, rfl, rv⟩ := r.one
    cases rv.intH
    exact ⟨_, rfl, p.here A (.int _)⟩
  · cases e
def fInt : List D → Option D
  | [.int i] => some (.int i)
  | [.bl t] => some (.int (if t then 1 else 0))
  | _ => none
theorem ok_int : CallOk ⟨X.K, X.mg⟩ (fun xs H Q => (∃ i, xs = [V.int i] ∧ Q (.int i) H) ∨ ∃ k, xs = [V.bl k] ∧ Q (.int (if k then 1 else 0)) H) b true fInt := by
  intro B G H c σ fp vs ds d Q A r e p
  unfold fInt at e
  split at e
  · cases e
    obtain ⟨v, rfl, rv⟩ := r.one
    cases rv.intH
    exact .inl ⟨_, rfl, p.here A (.int _)⟩
  · cases e
    obtain ⟨v, rfl, rv⟩ := r.one
    cases rv.blH
    exact .inr ⟨_, rfl, p.here A (.int _)⟩
  · cases e
def fMax2 : List D → Option D
  | [.int i, .int j] => some (.int (if j > i then j else i))
  | _ => none
theorem ok_max2 : CallOk ⟨X.K, X.mg⟩ (fun xs H Q => ∃ i j, xs = [V.int i, V.int j] ∧ Q (.int (if j > i then j else i)) H) b true fMax2 := by
  intro B G H c σ fp vs ds d Q A r e p
  unfold fMax2 at e
  split at e
  · cases e
    obtain ⟨v, w, rfl, rv, rw'⟩ := r.two
    cases rv.intH
    cases rw'.intH
    exact ⟨_, _, rfl, p.here A (.int _)⟩
  · cases e
def fMin2 : List D → Option D
  | [.int i, .int j] => some (.int (if j < i then j else i))
  | _ => none
theorem ok_min2 : CallOk ⟨X.K, X.mg⟩ (fun xs H Q => ∃ i j, xs = [V.int i, V.int j] ∧ Q (.int (if j < i then j else i)) H) b true fMin2 := by
  intro B G H c σ fp vs ds d Q A r e p
  unfold fMin2 at e
  split at e
  · cases e
    obtain ⟨v, w, rfl, rv, rw'⟩ := r.two
    cases rv.intH
    cases rw'.intH
    exact ⟨_, _, rfl, p.here A (.int _)⟩
  · cases e
def fList (b : Bool) : List D → Option D
  | [.lst ds] => if okEl b ds then some (.lst ds) else none
  | [.tup ds] => if okEl b ds then some (.lst ds) else none
  | [.dic ks _] => if ks.length ≤ 16777216 then some (.lst ks) else none
  | _ => none
def rListA (K : PySem.W.Frag) : List V → Hp → VK → Prop := fun xs H Q => (∃ p ys, xs = [V.ref p] ∧ (SqL K H p ys ∨ SqT K H p ys) ∧ ∀ l, H l = none → Q (.ref l) (upd H l (.lst ys))) ∨
  ∃ (a : Addr) (kvs : List (Key × V)), xs = [.ref a] ∧ Rd H a (.dK kvs) ∧ ∀ p, H p = none → Q (.ref p) (upd H p (.lst (kvs.map fun kv => kV kv.1)))
theorem call_listA (hc : X.calm = true) : CallR X (.type "list") (rListA X.K) := call_list_of.or (call_listD hc)
theorem key_rp {E : Wd} {G : Hp} {d : D} {k : Key} (h : d.key = some k) : Rp E G (kV k) d := by
  cases d <;> simp [D.key] at h
  · subst h; exact .int _
  · subst h; exact .str _
theorem keys_rp {E : Wd} {G : Hp} : ∀ {ks : List D} {kvs : List (Key × V)}, ks.map D.key = kvs.map (fun p => some p.1) → RpL E G (kvs.map fun kv => kV kv.1) ks
  | [], [], _ => .nil
  | [], _ :: _, h => by simp at h
  | _ :: _, [], h => by simp at h
  | k :: ks, kv :: kvs, h => by
    simp at h
    exact .cons (key_rp h.1) (keys_rp (by simpa using h.2))
theorem ok_list : CallOk ⟨X.K, X.mg⟩ (rListA X.K) b true (fList b) := by
  intro B G H c σ fp vs ds d Q A r e p
  unfold fList at e
  split at e
  · split at e
    · cases e
      rename_i hk
      obtain ⟨v, rfl, rv⟩ := r.one
      obtain ⟨a, vs, rfl, h1, r1⟩ := rv.lstH A.fine.le
      exact .inl ⟨_, _, rfl, .inl h1, fun q hq => p.new A hq fun s => .lst (.inl (.inl upd_same)) ((r1.known A.fine hk).mono s)⟩
    · cases e
  · split at e
    · cases e
      rename_i hk
      obtain ⟨v, rfl, rv⟩ := r.one
      obtain ⟨a, vs, rfl, h1, r1⟩ := rv.tupH A.fine.le
      exact .inl ⟨_, _, rfl, .inr h1, fun q hq => p.new A hq fun s => .lst (.inl (.inl upd_same)) ((r1.known A.fine hk).mono s)⟩
    · cases e
  · split at e
    · cases e
      rename_i ks ds hl
      obtain ⟨v, rfl, rv⟩ := r.one
      obtain ⟨a, kvs, rfl, h1, e1, r1⟩ := rv.dicH A.fine.le
      exact .inr ⟨_, _, rfl, h1, fun q hq => p.new A hq fun s => .lst (.inl (.inl upd_same)) (keys_rp e1)⟩
    · cases e
  · cases e
def fTuple (b : Bool) : List D → Option D
  | [.lst ds] => if okEl b ds then some (.tup ds) else none
  | [.tup ds] => if okEl b ds then some (.tup ds) else none
  | _ => none
theorem known_tup {B : Bs} {G H : Hp} {K : PySem.W.Frag} (f : Fine B G H) {a : Addr} {xs : List V} (h : SqT K H a xs) : SqT K G a xs := by
  rcases h with (z | ⟨o, z⟩) | z
  · exact .inl (.inl (f.tup _ _ z rfl))
  · exact .inl (.inr ⟨o, f.tup _ _ z rfl⟩)
  · exact .inr z
theorem ok_tuple : CallOk ⟨X.K, X.mg⟩ (fun xs H Q => ∃ p ys, xs = [V.ref p] ∧ ((SqL X.K H p ys ∧ ∀ l, H l = none → Q (.ref l) (upd H l (.tup ys))) ∨ (SqT X.K H p ys ∧ Q (.ref p) H))) b true (fTuple b) := by
  intro B G H c σ fp vs ds d Q A r e p
  unfold fTuple at e
  split at e
  · split at e
    · cases e
      rename_i hk
      obtain ⟨v, rfl, rv⟩ := r.one
      obtain ⟨a, vs, rfl, h1, r1⟩ := rv.lstH A.fine.le
      exact ⟨_, _, rfl, .inl ⟨h1, fun q hq => p.new A hq fun s => .tup (.inl (.inl upd_same)) ((r1.known A.fine hk).mono s)⟩⟩
    · cases e
  · split at e
    · cases e
      rename_i hk
      obtain ⟨v, rfl, rv⟩ := r.one
      obtain ⟨a, vs, rfl, h1, r1⟩ := rv.tupH A.fine.le
      exact ⟨_, _, rfl, .inr ⟨h1, p.here A (.tup (known_tup A.fine h1) (r1.known A.fine hk))⟩⟩
    · cases e
  · cases e
def asInt : D → Option Int
  | .int i => some i
  | _ => none
def asInts (ds : List D) : Option (List Int) := ds.mapM asInt
theorem asInts_cons (d : D) (ds : List D) : asInts (d :: ds) = (asInt d).bind fun i => (asInts ds).map fun is => i :: is := by
  unfold asInts
  rw [List.mapM_cons]
  cases asInt d <;> simp
  cases List.mapM asInt ds <;> rfl
@[simp] theorem asInts_map (ns : List Int) : asInts (ns.map D.int) = some ns := by
  induction ns with
  | nil => rfl
  | cons n ns ih => rw [List.map_cons, asInts_cons, ih]; rfl
theorem asInts_rp {E : Wd} {G : Hp} : ∀ {ds : List D} {vs : List V} {ns : List Int}, RpL E G vs ds → asInts ds = some ns → vs = ns.map V.int
  | [], _, _, r, e => by cases r; cases e; rfl
  | d :: ds, _, ns, r, e => by
    cases r with
    | cons h r =>
      rw [asInts_cons] at e
      cases d <;> simp [asInt] at e
      obtain ⟨a, e1, rfl⟩ := e
      rw [asInts_rp r e1, h.intH]
      rfl
def fSum : List D → Option D
  | [.lst ds] => (asInts ds).map fun ns => .int ns.sum
  | _ => none
theorem ok_sum : CallOk ⟨X.K, X.mg⟩ (rSum X.K) b true fSum := by
  intro B G H c σ fp vs ds d Q A r e p
  unfold fSum at e
  split at e
  · obtain ⟨ns, e1, rfl⟩ := Option.map_eq_some_iff.mp e
    obtain ⟨v, rfl, rv⟩ := r.one
    obtain ⟨a, vs, rfl, h1, r1⟩ := rv.lstH A.fine.le
    rw [asInts_rp r1 e1] at h1
    exact ⟨_, ns, rfl, h1, p.here A (.int _)⟩
  · cases e
def asBs (ds : List D) : Option (List Bool) := ds.mapM asB
theorem asBs_cons (d : D) (ds : List D) : asBs (d :: ds) = (asB d).bind fun i => (asBs ds).map fun is => i :: is := by
  unfold asBs
  rw [List.mapM_cons]
  cases asB d <;> simp
  cases List.mapM asB ds <;> rfl
@[simp] theorem asBs_map (ns : List Bool) : asBs (ns.map D.bl) = some ns := by
  induction ns with
  | nil => rfl
  | cons n ns ih => rw [List.map_cons, asBs_cons, ih]; rfl
theorem asBs_rp {E : Wd} {G : Hp} : ∀ {ds : List D} {vs : List V} {ns : List Bool}, RpL E G vs ds → asBs ds = some ns → vs = ns.map V.bl
  | [], _, _, r, e => by cases r; cases e; rfl
  | d :: ds, _, ns, r, e => by
    cases r with
    | cons h r =>
      rw [asBs_cons] at e
      cases d <;> simp [asB] at e
      obtain ⟨a, e1, rfl⟩ := e
      rw [asBs_rp r e1, h.blH]
      rfl
def fAny : List D → Option D
  | [.lst ds] => (asBs ds).map fun ns => .bl (ns.any id)
  | _ => none
theorem ok_any : CallOk ⟨X.K, X.mg⟩ (rAny X.K) b true fAny := by
  intro B G H c σ fp vs ds d Q A r e p
  unfold fAny at e
  split at e
  · obtain ⟨ns, e1, rfl⟩ := Option.map_eq_some_iff.mp e
    obtain ⟨v, rfl, rv⟩ := r.one
    obtain ⟨a, vs, rfl, h1, r1⟩ := rv.lstH A.fine.le
    rw [asBs_rp r1 e1] at h1
    exact ⟨_, ns, rfl, h1, p.here A (.bl _)⟩
  · cases e
def fAll : List D → Option D
  | [.lst ds] => (asBs ds).map fun ns => .bl (ns.all id)
  | _ => none
theorem ok_all : CallOk ⟨X.K, X.mg⟩ (rAll X.K) b true fAll := by
  intro B G H c σ fp vs ds d Q A r e p
  unfold fAll at e
  split at e
  · obtain ⟨ns, e1, rfl⟩ := Option.map_eq_some_iff.mp e
    obtain ⟨v, rfl, rv⟩ := r.one
    obtain ⟨a, vs, rfl, h1, r1⟩ := rv.lstH A.fine.le
    rw [asBs_rp r1 e1] at h1
    exact ⟨_, ns, rfl, h1, p.here A (.bl _)⟩
  · cases e

/-! ### isinstance of a built-in type -/
inductive Ty where | bool | int | str | list | tuple | dict
def Ty.name : Ty → String
  | .bool => "bool" | .int => "int" | .str => "str" | .list => "list" | .tuple => "tuple" | .dict => "dict"
def isI : Ty → D → Option Bool
  | T, .non => some false
  | .bool, .bl _ => some true
  | .int, .bl _ => some true
  | _, .bl _ => some false
  | .int, .int _ => some true
  | _, .int _ => some false
  | .str, .str _ => some true
  | _, .str _ => some false
  | .list, .lst _ => some true
  | _, .lst _ => some false
  | .tuple, .tup _ => some true
  | _, .tup _ => some false
  | .dict, .dic _ _ => some true
  | _, .dic _ _ => some false
  | _, .dlk _ _ => none
  | _, .obj _ _ _ => none
def eIs (T : Ty) (g : Env → R D) : Env → R D := fun c => g c >>= fun d => lift ((isI T d).map D.bl)
theorem is_kit : ∀ (T : Ty), kitB "NoneType" T.name = some false ∧ kitB "bool" T.name = some (match T with | .bool => true | .int => true | _ => false) ∧ kitB "int" T.name = some (match T with | .int => true | _ => false) ∧
    kitB "str" T.name = some (match T with | .str => true | _ => false) ∧ kitB "list" T.name = some (match T with | .list => true | _ => false) ∧ kitB "tuple" T.name = some (match T with | .tuple => true | _ => false) ∧ kitB "dict" T.name = some (match T with | .dict => true | _ => false) := by
  intro T
  cases T <;> decide +kernel
theorem is_ty {K : PySem.W.Frag} {mg : Str → Option Value} {H : Hp} {T : Ty} {v : V} {d : D} {t : Bool} (r : Rp ⟨K, mg⟩ H v d) (e : isI T d = some t) : ∃ u, TyX K H v u ∧ PySem.W.kitOne K u (.type T.name) = some t := by
  obtain ⟨k1, k2, k3, k4, k5, k6, k7⟩ := is_kit T
  cases r with
  | non => exact ⟨_, .base .non, kit_ty (by rw [k1]; cases T <;> simpa [isI] using e)⟩
  | bl x => exact ⟨_, .base (.bl x), kit_ty (by rw [k2]; cases T <;> simpa [isI] using e)⟩
  | int i => exact ⟨_, .base (.int i), kit_ty (by rw [k3]; cases T <;> simpa [isI] using e)⟩
  | str l => exact ⟨_, .base (.str _), kit_ty (by rw [k4]; cases T <;> simpa [isI] using e)⟩
  | lst h r =>
    refine ⟨.type "list", ?_, kit_ty (by rw [k5]; cases T <;> simpa [isI] using e)⟩
    rcases h with (h | ⟨o, h⟩) | ⟨o, its, n, h1, h2, _⟩
    · exact .base (.lst h)
    · exact .base (.frz h)
    · exact .kList h1 h2
  | tup h r =>
    refine ⟨.type "tuple", ?_, kit_ty (by rw [k6]; cases T <;> simpa [isI] using e)⟩
    rcases h with (h | ⟨o, h⟩) | ⟨o, its, n, h1, h2, _⟩
    · exact .base (.tup h)
    · exact .fTuple h
    · exact .kTuple h1 h2
  | dic h _ _ =>
    refine ⟨.type "dict", ?_, kit_ty (by rw [k7]; cases T <;> simpa [isI] using e)⟩
    rcases h with h | ⟨o, h⟩
    · exact .base (.dK h)
    · exact .fDict h
  | dlk h _ _ => cases T <;> simp [isI] at e
  | obj _ _ _ _ => cases T <;> simp [isI] at e
theorem px_is {a : Expr} {g : Env → R D} {x : Str} {p p2 pos : Pos} (T : Ty) (h : PX X W b a g) (hm : X.mg "isinstance" = none) (hx : X.mg x = none) (hT : bootBuiltins x = some (.type T.name) := by decide +kernel) (hgx : Gl X x := by rfl) (hg : Gl X "isinstance" := by rfl)
    (hn : x ≠ "__name__" := by decide) (hdb : (x == ("__debug__" : Str)) = false := by decide) (he : starEach [a, .Name x p2] X.env = (false, eval a X.env) :: starEach [.Name x p2] X.env := by rfl) (hpl : (backTo pos (starEach [.Name x p2] X.env)).any (·.1) = false := by rfl)
    (hs2 : starEach [.Name x p2] X.env = (false, eval (.Name x p2) X.env) :: starEach [] X.env := by rfl) :
    PX X W true (.Call (.Name "isinstance" p) [a, .Name x p2] [] pos) (eIs T g) :=
  pe_mono (pe_callB call_isi hg hm (by decide +kernel) (pa_cons h (pa_cons (pe_bltn (v := .ty T.name) hgx hx hT rfl hn hdb) pa_nil hs2) he) (by decide) (by decide) he hpl) fun σ H Q ⟨B, G, c, fp, A, q⟩ => tx_seq A q fun d e v G1 H1 s1 t1 A1 r1 q1 => by
    obtain ⟨d3, e3, p3⟩ := Res.lift q1
    obtain ⟨t, ht, rfl⟩ := Option.map_eq_some_iff.mp e3
    obtain ⟨u, h1, h2⟩ := is_ty (vw_rp A1.fine.le r1) ht
    exact ⟨_, _, u, _, t, rfl, .ty _, h1, h2, p3 _ G1 H1 s1 t1 A1 (.bl _)⟩

/-! ### methods of texts -/
def asS : D → Option (List Nat)
  | .str l => some l
  | _ => none
def eMS (f : List Nat → List D → Option D) (g : Env → R D) (gs : Env → R (List D)) : Env → R D := fun c => g c >>= fun d => lift (asS d) >>= fun l => gs c >>= fun ds => lift (f l ds)
def MethOk (E : Wd) (r : V → List V → Hp → VK → Prop) (b b' : Bool) (f : List Nat → List D → Option D) : Prop :=
  ∀ {B : Bs} {G H : Hp} {c : Env} {σ : L2.St} {fp : List Addr} {l : List Nat} {vs : List V} {ds : List D} {d : D} {Q : VK}, Abs E B G H c σ fp → RpL E (vw b G H) vs ds → f l ds = some d → Post E B c σ fp G H b' Q d → r (.str (S l)) vs H Q
theorem asS_rp {E : Wd} {G : Hp} {v : V} {d : D} {l : List Nat} (h : Rp E G v d) (e : asS d = some l) : v = .str (S l) := by
  cases d <;> simp [asS] at e
  subst e
  exact h.strH
theorem px_ms {id : String} {name : Str} {r : V → List V → Hp → VK → Prop} {f : List Nat → List D → Option D} {o e : Expr} {es : List Expr} {g : Env → R D} {gs : Env → R (List D)} {apos cpos : Pos} (slot : Slot "str" name id) (hty : typeOf (.builtin id) = pure (.type "method_descriptor")) (hm : MtR X id r) (hr : MethOk ⟨X.K, X.mg⟩ r b b' f)
    (ho : PX X W b1 o g) (ha : PXA X W b (e :: es) gs)
    (hbase : attributeBase o name X.env (eval o X.env) = eval o X.env := by rfl)
    (hfew : ((backTo cpos (starEach (e :: es) X.env)).all (fun x => !x.1) && (backToKw cpos (keywordEach [] X.env)).all (fun x => x.1.isSome)
      && decide ((e :: es).length + ([] : List Keyword).length + (if ([] : List Keyword).isEmpty then 0 else 1) < 30)) = true := by rfl)
    (hline : (apos.endLine == cpos.line) = true := by rfl) (hs : starEach (e :: es) X.env = (false, eval e X.env) :: starEach es X.env := by rfl) (hplain : (backTo cpos (starEach es X.env)).any (·.1) = false := by rfl) :
    PX X W b' (.Call (.Attribute o name apos) (e :: es) [] cpos) (eMS f g gs) :=
  pe_mono (pe_bm PySem.F.plainAttrs_str slot hty hm ho ha hbase hfew hline hs hplain) fun σ H Q ⟨B, G, c, fp, A, q⟩ => tx_seq A q fun d e v G1 H1 s1 t1 A1 r1 q1 => by
    cases hd : asS d with
    | none => rw [hd] at q1; exact q1.elim
    | some l =>
      rw [hd] at q1
      cases asS_rp r1 hd
      refine ⟨rfl, txa_seq A1 q1 fun ds e2 vs G2 H2 s2 t2 A2 r2 q2 => ?_⟩
      obtain ⟨d3, e3, p3⟩ := Res.lift q2
      exact hr A2 r2 e3 (p3.grow (s1.trans s2) (t1.trans t2))
def asSs (ds : List D) : Option (List (List Nat)) := ds.mapM asS
theorem asSs_cons (d : D) (ds : List D) : asSs (d :: ds) = (asS d).bind fun i => (asSs ds).map fun is => i :: is := by
  unfold asSs
  rw [List.mapM_cons]
  cases asS d <;> simp
  cases List.mapM asS ds <;> rfl
@[simp] theorem asSs_map (ns : List (List Nat)) : asSs (ns.map D.str) = some ns := by
  induction ns with
  | nil => rfl
  | cons n ns ih => rw [List.map_cons, asSs_cons, ih]; rfl
theorem asSs_rp {E : Wd} {G : Hp} : ∀ {ds : List D} {vs : List V} {ns : List (List Nat)}, RpL E G vs ds → asSs ds = some ns → vs = (ns.map S).map V.str
  | [], _, _, r, e => by cases r; cases e; rfl
  | d :: ds, _, ns, r, e => by
    cases r with
    | cons h r =>
      rw [asSs_cons] at e
      cases d <;> simp [asS] at e
      obtain ⟨a, e1, rfl⟩ := e
      rw [asSs_rp r e1, h.strH]
      rfl
/-- sep.join(list of texts) -/
def fJoin (l : List Nat) : List D → Option D
  | [.lst ds] => (asSs ds).bind fun xs => if (xs.map List.length).sum + xs.length * l.length ≤ 16777216 then some (.str (TL.joinL l xs)) else none
  | [.tup ds] => (asSs ds).bind fun xs => if (xs.map List.length).sum + xs.length * l.length ≤ 16777216 then some (.str (TL.joinL l xs)) else none
  | _ => none
theorem join_S (l : List Nat) (xs : List (List Nat)) : Txt.join (S l) (xs.map S) = S (TL.joinL l xs) := by
  have h := TL.tl_join (S l) (xs.map S)
  rw [TL.join_eq]
  have e : (xs.map S).map TL.tl = xs := by
    rw [List.map_map]
    have : TL.tl ∘ S = id := by funext x; rfl
    rw [this, List.map_id]
  rw [e] at h
  have h2 : (Str.join (S l) (xs.map S)).cps.toList = TL.joinL l xs := h
  show _ = (⟨(TL.joinL l xs).toArray⟩ : Str)
  rw [← h2]
theorem ok_join : MethOk ⟨X.K, X.mg⟩ (fun x xs H Q => ∃ a p, ∃ ys : List Str, x = .str a ∧ xs = [.ref p] ∧ (SqL X.K H p (ys.map V.str) ∨ SqT X.K H p (ys.map V.str)) ∧ (ys.map (·.length)).sum + ys.length * a.length ≤ 16777216 ∧ Q (.str (Txt.join a ys)) H) b true fJoin := by
  intro B G H c σ fp l vs ds d Q A r e p
  have hlen : ∀ xs : List (List Nat), ((xs.map S).map (·.length)).sum + (xs.map S).length * (S l).length = (xs.map List.length).sum + xs.length * l.length := fun xs => by
    have : ((fun y : Str => y.length) ∘ S) = List.length := by funext x; simp
    rw [List.map_map, this]; simp
  unfold fJoin at e
  split at e
  · obtain ⟨xs, e1, e2⟩ := Option.bind_eq_some_iff.mp e
    split at e2
    · cases e2
      rename_i hl
      obtain ⟨v, rfl, rv⟩ := r.one
      obtain ⟨a, vs, rfl, h1, r1⟩ := rv.lstH A.fine.le
      rw [asSs_rp r1 e1] at h1
      refine ⟨S l, a, xs.map S, rfl, rfl, .inl h1, by rw [hlen]; exact hl, ?_⟩
      rw [join_S]
      exact p.here A (.str _)
    · cases e2
  · obtain ⟨xs, e1, e2⟩ := Option.bind_eq_some_iff.mp e
    split at e2
    · cases e2
      rename_i hl
      obtain ⟨v, rfl, rv⟩ := r.one
      obtain ⟨a, vs, rfl, h1, r1⟩ := rv.tupH A.fine.le
      rw [asSs_rp r1 e1] at h1
      refine ⟨S l, a, xs.map S, rfl, rfl, .inr h1, by rw [hlen]; exact hl, ?_⟩
      rw [join_S]
      exact p.here A (.str _)
    · cases e2
  · cases e
/-- s.index(t), t within -/
def fSIndex (l : List Nat) : List D → Option D
  | [.str k] => match Builtin.Str.occurrences (S l) (S k) 0 l.length 1 with
    | i :: _ => some (.int i)
    | [] => none
  | _ => none
theorem ok_sindex : MethOk ⟨X.K, X.mg⟩ (fun x xs H Q => ∃ a b i rest, x = .str a ∧ xs = [.str b] ∧ Builtin.Str.occurrences a b 0 a.length 1 = i :: rest ∧ Q (.int (i : Nat)) H) b true fSIndex := by
  intro B G H c σ fp l vs ds d Q A r e p
  unfold fSIndex at e
  split at e
  · rename_i k
    split at e
    · rename_i i rest ho
      cases e
      obtain ⟨v, rfl, rv⟩ := r.one
      cases rv.strH
      exact ⟨S l, S k, i, rest, rfl, rfl, by rw [S_len]; exact ho, p.here A (.int _)⟩
    · cases e
  · cases e
end
end VS

/-! VS: statements. -/
namespace VS
open PySem PySem.Spec PyProof.Rows L2

inductive Fl where | nx | bk | ct | rt (d : D)
inductive Rs where | ok (f : Fl) (c : Env) | ex (e : D) (c : Env) | stuck
def PinOk (pn : List Nat) (B : Bs) : Prop := (∀ q ∈ B.pn, q.1 ∈ pn) ∧ (pn = [] → ∀ a, ¬ B.br a)
def ResS (E : Wd) (W : WX) (B : Bs) (G H : Hp) (r : Rs) (Dn : Ends) : Prop :=
  match r with
  | .ok .nx c' => ∀ σ' G' H' fp', Same G G' → Abs E B G' H' c' σ' fp' → Dn.nx σ' H'
  | .ok .bk c' => ∀ σ' G' H' fp', Same G G' → Abs E B G' H' c' σ' fp' → Dn.bk σ' H'
  | .ok .ct c' => ∀ σ' G' H' fp', Same G G' → Abs E B G' H' c' σ' fp' → Dn.ct σ' H'
  | .ok (.rt d) c' => ∀ v σ' G' H' fp', Same G G' → Abs E B G' H' c' σ' fp' → Rp E G' v d → Dn.rt v H'
  | .ex e c' => ∀ cl dx σ' G' H' fp', Same G G' → Abs E B G' H' c' σ' fp' → XRep E G' cl dx e → W cl dx σ' H'
  | .stuck => False
def TSt (E : Wd) (W : WX) (pn : List Nat) (g : Env → Rs) : TS := fun Dn σ H => ∃ B G c fp, Abs E B G H c σ fp ∧ PinOk pn B ∧ ResS E W B G H (g c) Dn
def PXS (X : Cx) (W : WX) (pn : List Nat) (st : Stmt) (g : Env → Rs) : Prop := PS X st (TSt ⟨X.K, X.mg⟩ W pn g)
def PXSs (X : Cx) (W : WX) (pn : List Nat) (st : List Stmt) (g : Env → Rs) : Prop := PSs X st (TSt ⟨X.K, X.mg⟩ W pn g)
theorem ps_mono {X : Cx} {st : Stmt} {t t' : TS} (h : PS X st t) (k : ∀ Dn σ H, t' Dn σ H → t Dn σ H) : PS X st t' := ⟨fun pins s σ H Dn I q => h.run pins s σ H Dn I (k Dn σ H q)⟩
theorem pss_mono {X : Cx} {st : List Stmt} {t t' : TS} (h : PSs X st t) (k : ∀ Dn σ H, t' Dn σ H → t Dn σ H) : PSs X st t' := ⟨fun pins s σ H Dn I q => h.run pins s σ H Dn I (k Dn σ H q)⟩
theorem ResS.grow {E : Wd} {W : WX} {B : Bs} {G H G' H' : Hp} {r : Rs} {Dn : Ends} (h : ResS E W B G H r Dn) (s : Same G G') : ResS E W B G' H' r Dn := by
  cases r with
  | ok f c =>
    cases f with
    | nx => exact fun σ' G2 H2 fp2 t A => h σ' G2 H2 fp2 (s.trans t) A
    | bk => exact fun σ' G2 H2 fp2 t A => h σ' G2 H2 fp2 (s.trans t) A
    | ct => exact fun σ' G2 H2 fp2 t A => h σ' G2 H2 fp2 (s.trans t) A
    | rt d => exact fun v σ' G2 H2 fp2 t A r => h v σ' G2 H2 fp2 (s.trans t) A r
  | ex e c => exact fun cl dx σ' G2 H2 fp2 t A r => h cl dx σ' G2 H2 fp2 (s.trans t) A r
  | stuck => exact h
/-- a part of a statement that is an expression -/
def R.st {α : Type} (r : R α) (c : Env) (f : α → Rs) : Rs :=
  match r with
  | .ok a => f a
  | .ex e => .ex e c
  | .stuck => .stuck
@[simp] theorem st_ok {α : Type} (a : α) (c : Env) (f : α → Rs) : R.st (.ok a) c f = f a := rfl
@[simp] theorem st_stuck {α : Type} (c : Env) (f : α → Rs) : R.st (.stuck : R α) c f = .stuck := rfl
@[simp] theorem st_ex {α : Type} (e : D) (c : Env) (f : α → Rs) : R.st (.ex e : R α) c f = .ex e c := rfl
section
variable {E : Wd} {W : WX} {B : Bs} {c : Env} {σ : L2.St} {fp : List Addr} {G H : Hp} {b : Bool} {Dn : Ends}
theorem tx_st {ga : Env → R D} {f : D → Rs} {Q' : VK} (A : Abs E B G H c σ fp) (h : ResS E W B G H (R.st (ga c) c f) Dn)
    (k : ∀ d, ga c = .ok d → ∀ v G1 H1, Same G G1 → Same H H1 → Abs E B G1 H1 c σ fp → Rp E (vw b G1 H1) v d → ResS E W B G1 H1 (f d) Dn → Q' v H1) : TX E W b ga σ H Q' := by
  refine ⟨B, G, c, fp, A, ?_⟩
  cases e : ga c with
  | ok d =>
    rw [e] at h
    exact fun v G1 H1 s t A1 r => k d e v G1 H1 s t A1 r (ResS.grow (r := f d) h s)
  | ex x => rw [e] at h; exact fun cl dx G1 H1 s t A1 r => h cl dx σ G1 H1 fp s A1 r
  | stuck => rw [e] at h; exact h
theorem txa_st {ga : Env → R (List D)} {f : List D → Rs} {Q' : List V → Hp → Prop} (A : Abs E B G H c σ fp) (h : ResS E W B G H (R.st (ga c) c f) Dn)
    (k : ∀ ds, ga c = .ok ds → ∀ vs G1 H1, Same G G1 → Same H H1 → Abs E B G1 H1 c σ fp → RpL E (vw b G1 H1) vs ds → ResS E W B G1 H1 (f ds) Dn → Q' vs H1) : TXA E W b ga σ H Q' := by
  refine ⟨B, G, c, fp, A, ?_⟩
  cases e : ga c with
  | ok d =>
    rw [e] at h
    exact fun v G1 H1 s t A1 r => k d e v G1 H1 s t A1 r (ResS.grow (r := f d) h s)
  | ex x => rw [e] at h; exact fun cl dx G1 H1 s t A1 r => h cl dx σ G1 H1 fp s A1 r
  | stuck => rw [e] at h; exact h
theorem txt_st {ga : Env → R Bool} {f : Bool → Rs} {Q' : Bool → Hp → Prop} (A : Abs E B G H c σ fp) (h : ResS E W B G H (R.st (ga c) c f) Dn)
    (k : ∀ t, ga c = .ok t → ∀ G1 H1, Same G G1 → Same H H1 → Abs E B G1 H1 c σ fp → ResS E W B G1 H1 (f t) Dn → Q' t H1) : TXT E W ga σ H Q' := by
  refine ⟨B, G, c, fp, A, ?_⟩
  cases e : ga c with
  | ok d =>
    rw [e] at h
    exact fun G1 H1 s t A1 => k d e G1 H1 s t A1 (ResS.grow (r := f d) h s)
  | ex x => rw [e] at h; exact fun cl dx G1 H1 s t A1 r => h cl dx σ G1 H1 fp s A1 r
  | stuck => rw [e] at h; exact h
/-- a name is stored -/
theorem Abs.set {v : V} {o : O} {fq : List Addr} {i : Nat} (A : Abs E B G H c σ fp) (h : Own E G H v o fq) (n : fq.Nodup) (d : ∀ p ∈ fq, p ∉ fp) (f : ∀ p ∈ fq, G p = none ∧ (B.H0 p = none ∨ B.br p)) (hp : ∀ q ∈ B.pn, q.1 ≠ i) :
    ∃ fr, Abs E B G H (c.set i (some o)) (σ.set i (some v)) fr := by
  obtain ⟨fr, h1, h2, h3⟩ := A.cells.set i h A.nd n d
  refine ⟨fr, A.fine, h1, h2, fun p hp => (h3 p hp).elim (A.fresh p) (f p), fun q hq => ?_⟩
  rw [List.getElem?_set_ne (Ne.symm (hp q hq))]
  exact A.pin q hq
theorem Abs.setV {v : V} {d : D} {i : Nat} (A : Abs E B G H c σ fp) (h : Rp E G v d) (hp : ∀ q ∈ B.pn, q.1 ≠ i) : ∃ fr, Abs E B G H (c.set i (some (.v d))) (σ.set i (some v)) fr :=
  A.set (.v h) List.nodup_nil (fun p hp => nomatch hp) (fun p hp => nomatch hp) hp
end
theorem PinOk.ne {pn : List Nat} {B : Bs} {i : Nat} (h : PinOk pn B) (hi : i ∉ pn) : ∀ q ∈ B.pn, q.1 ≠ i := fun q hq e => hi (e ▸ h.1 q hq)

/-! ### blocks -/
def sNil : Env → Rs := fun c => .ok .nx c
def sSeq (g k : Env → Rs) : Env → Rs := fun c => match g c with
  | .ok .nx c' => k c'
  | r => r
section
variable {X : Cx} {W : WX} {pn : List Nat} {b : Bool} {st : Stmt} {sts : List Stmt} {g k : Env → Rs} {pos : Pos} {e : Expr}
theorem pxs_nil : PXSs X W pn [] sNil := pss_mono pss_nil fun Dn σ H ⟨B, G, c, fp, A, P, q⟩ => q σ G H fp (Same.refl _) A
theorem tst_seq : ∀ Dn σ H, TSt ⟨X.K, X.mg⟩ W pn (sSeq g k) Dn σ H → tSeq (TSt ⟨X.K, X.mg⟩ W pn g) (TSt ⟨X.K, X.mg⟩ W pn k) Dn σ H := fun Dn σ H ⟨B, G, c, fp, A, P, q⟩ => by
  refine ⟨B, G, c, fp, A, P, ?_⟩
  unfold sSeq at q
  cases e : g c with
  | ok f c' =>
    rw [e] at q
    cases f with
    | nx => exact fun σ' G' H' fp' s A' => ⟨B, G', c', fp', A', P, ResS.grow (r := k c') q s⟩
    | bk => exact q
    | ct => exact q
    | rt d => exact q
  | ex x c' => rw [e] at q; exact q
  | stuck => rw [e] at q; exact q
theorem pxs_cons (h : PXS X W pn st g) (h2 : PXSs X W pn sts k) : PXSs X W pn (st :: sts) (sSeq g k) := pss_mono (pss_cons h h2) tst_seq
theorem pxs_one (h : PXS X W pn st g) : PXSs X W pn [st] g := pss_one h
theorem ps_pass' : PXS X W pn (.Pass pos) sNil := ps_mono ps_pass fun Dn σ H ⟨B, G, c, fp, A, P, q⟩ => q σ G H fp (Same.refl _) A
def sBreak : Env → Rs := fun c => .ok .bk c
def sCont : Env → Rs := fun c => .ok .ct c
theorem pxs_break : PXS X W pn (.Break pos) sBreak := ps_mono ps_break fun Dn σ H ⟨B, G, c, fp, A, P, q⟩ => q σ G H fp (Same.refl _) A
theorem pxs_continue : PXS X W pn (.Continue pos) sCont := ps_mono ps_continue fun Dn σ H ⟨B, G, c, fp, A, P, q⟩ => q σ G H fp (Same.refl _) A
/-- a way that is never taken -/
def sNo : Env → Rs := fun _ => .stuck
theorem pxs_no : PXS X W pn st sNo := ps_mono ps_never fun Dn σ H ⟨B, G, c, fp, A, P, q⟩ => q
/-! ### x = e -/
def sSet (i : Nat) (g : Env → R D) : Env → Rs := fun c => (g c).st c fun d => .ok .nx (c.set i (some (.v d)))
theorem pxs_set {x : Str} {p : Pos} (i : Nat) {g : Env → R D} (h : PX X W true e g) (nd : X.N.Nodup) (hN : X.N[i]? = some x := by rfl) (hl : Loc X.env.scope x := by first | exact Or.inl rfl | exact Or.inr rfl) (hi : i ∉ pn := by decide)
    (hs : swapsWith e (some (.Name x p)) pos.line X.env = pure false := by rfl) (hf : X.fn x = true ∨ X.env.scope.names.lookup x = some .local := by first | exact .inl rfl | exact .inr rfl) : PXS X W pn (.Assign [.Name x p] e pos) (sSet i g) :=
  ps_mono (ps_asg h (pg_name (i := i) nd hN hl) hs) fun Dn σ H ⟨B, G, c, fp, A, P, q⟩ => tx_st A q fun d e v G1 H1 s1 t1 A1 r1 q1 => by
    obtain ⟨fr, A2⟩ := A1.setV (i := i) r1 (P.ne hi)
    exact q1 _ G1 H1 fr (Same.refl _) A2
/-! ### return, an expression alone -/
def sRet (g : Env → R D) : Env → Rs := fun c => (g c).st c fun d => .ok (.rt d) c
theorem pxs_ret {g : Env → R D} (h : PX X W true e g) : PXS X W pn (.Return (some e) pos) (sRet g) :=
  ps_mono (ps_ret h) fun Dn σ H ⟨B, G, c, fp, A, P, q⟩ => tx_st A q fun d e v G1 H1 s1 t1 A1 r1 q1 => q1 v σ G1 H1 fp (Same.refl _) A1 r1
def sRetN : Env → Rs := fun c => .ok (.rt .non) c
theorem pxs_retN : PXS X W pn (.Return none pos) sRetN := ps_mono ps_retN fun Dn σ H ⟨B, G, c, fp, A, P, q⟩ => q .non σ G H fp (Same.refl _) A .non
def sExpr (g : Env → R D) : Env → Rs := fun c => (g c).st c fun _ => .ok .nx c
theorem pxs_expr {g : Env → R D} (h : PX X W b e g) (hs : swapsWith e none pos.line X.env = pure false := by rfl) : PXS X W pn (.Expr e pos) (sExpr g) :=
  ps_mono (ps_expr h hs) fun Dn σ H ⟨B, G, c, fp, A, P, q⟩ => tx_st A q fun d e v G1 H1 s1 t1 A1 r1 q1 => q1 σ G1 H1 fp (Same.refl _) A1
/-! ### if -/
def sIf (t : Env → R Bool) (g k : Env → Rs) : Env → Rs := fun c => (t c).st c fun b => if b then g c else k c
theorem pxs_if {ec : Expr} {sa sb : List Stmt} {t : Env → R Bool} (h : PXT X W ec t) (ha : PXSs X W pn sa g) (hb : PXSs X W pn sb k) : PXS X W pn (.If ec sa sb pos) (sIf t g k) :=
  ps_mono (ps_if h ha hb) fun Dn σ H ⟨B, G, c, fp, A, P, q⟩ => txt_st A q fun t e G1 H1 s1 t1 A1 q1 => by
    cases t with
    | true => exact ⟨B, G1, c, fp, A1, P, q1⟩
    | false => exact ⟨B, G1, c, fp, A1, P, q1⟩
/-! ### while -/
def whileL (t : Env → R Bool) (g : Env → Rs) : Nat → Env → Rs
  | 0, _ => .stuck
  | n + 1, c => (t c).st c fun b => if b then (match g c with
    | .ok .nx c' => whileL t g n c'
    | .ok .ct c' => whileL t g n c'
    | .ok .bk c' => .ok .nx c'
    | r => r) else .ok .nx c
theorem pxs_while {ec : Expr} {body : List Stmt} {t : Env → R Bool} (n : Nat) (hp : PassesOwn (model X.prog X.w) X.A X.env X.xe) (h : PXT X W ec t) (hb : PXSs X W pn body g) : PXS X W pn (.While ec body [] pos) (whileL t g n) :=
  ps_mono (ps_while hp h hb) fun Dn σ H ⟨B, G, c, fp, A, P, q⟩ => by
    refine ⟨fun m σ H => ∃ G c fp, Abs ⟨X.K, X.mg⟩ B G H c σ fp ∧ ResS ⟨X.K, X.mg⟩ W B G H (whileL t g m c) Dn, ⟨n, G, c, fp, A, q⟩, ?_⟩
    rintro m σ H ⟨G, c, fp, A, q⟩
    cases m with
    | zero => exact q.elim
    | succ m =>
      refine txt_st A q fun b e G1 H1 s1 t1 A1 q1 => ?_
      cases b with
      | false => exact q1 σ G1 H1 fp (Same.refl _) A1
      | true =>
        refine ⟨fun σ' H' => ∃ G c fp, Abs ⟨X.K, X.mg⟩ B G H' c σ' fp ∧ ResS ⟨X.K, X.mg⟩ W B G H' (whileL t g m c) Dn, fun σ' H' h' => ⟨m, Nat.lt_succ_self _, h'⟩, ?_⟩
        refine ⟨B, G1, c, fp, A1, P, ?_⟩
        have q2 : ResS ⟨X.K, X.mg⟩ W B G1 H1 (match g c with
          | .ok .nx c' => whileL t g m c'
          | .ok .ct c' => whileL t g m c'
          | .ok .bk c' => .ok .nx c'
          | r => r) Dn := q1
        cases eg : g c with
        | ok f c' =>
          rw [eg] at q2
          cases f with
          | nx => exact fun σ' G' H' fp' s A' => ⟨G', c', fp', A', ResS.grow (r := whileL t g m c') q2 s⟩
          | ct => exact fun σ' G' H' fp' s A' => ⟨G', c', fp', A', ResS.grow (r := whileL t g m c') q2 s⟩
          | bk => exact q2
          | rt d => exact q2
        | ex x c' => rw [eg] at q2; exact q2
        | stuck => rw [eg] at q2; exact q2
/-! ### for -/
def forL (i : Nat) (g : Env → Rs) : List D → Env → Rs
  | [], c => .ok .nx c
  | d :: ds, c => match g (c.set i (some (.v d))) with
    | .ok .nx c' => forL i g ds c'
    | .ok .ct c' => forL i g ds c'
    | .ok .bk c' => .ok .nx c'
    | r => r
theorem for_turn {i : Nat} {E : Wd} {B : Bs} {G H : Hp} {c : Env} {σ : L2.St} {fp : List Addr} {Dn : Ends} {d : D} {ds : List D} {v : V} {N : L2.St → Hp → Prop} (A : Abs E B G H c σ fp) (P : PinOk pn B) (hi : i ∉ pn) (rv : Rp E G v d) (q : ResS E W B G H (forL i g (d :: ds) c) Dn)
    (hN : ∀ σ' G' H' c' fp', Same G G' → Abs E B G' H' c' σ' fp' → ResS E W B G' H' (forL i g ds c') Dn → N σ' H') : TSt E W pn g { Dn with nx := N, ct := N, bk := Dn.nx } (σ.set i (some v)) H := by
  obtain ⟨fr, A2⟩ := A.setV (i := i) rv (P.ne hi)
  refine ⟨B, G, _, fr, A2, P, ?_⟩
  have q2 : ResS E W B G H (match g (c.set i (some (.v d))) with
    | .ok .nx c' => forL i g ds c'
    | .ok .ct c' => forL i g ds c'
    | .ok .bk c' => .ok .nx c'
    | r => r) Dn := q
  cases eg : g (c.set i (some (.v d))) with
  | ok f c' =>
    rw [eg] at q2
    cases f with
    | nx => exact fun σ' G' H' fp' s A' => hN σ' G' H' c' fp' s A' (ResS.grow (r := forL i g ds c') q2 s)
    | ct => exact fun σ' G' H' fp' s A' => hN σ' G' H' c' fp' s A' (ResS.grow (r := forL i g ds c') q2 s)
    | bk => exact q2
    | rt d => exact q2
  | ex x c' => rw [eg] at q2; exact q2
  | stuck => rw [eg] at q2; exact q2
def asL : D → Option (List D)
  | .lst ds => some ds
  | _ => none
def asT : D → Option (List D)
  | .tup ds => some ds
  | _ => none
def sForL (i : Nat) (ga : Env → R D) (g : Env → Rs) : Env → Rs := fun c => (ga c).st c fun d => match asL d with
  | some ds => forL i g ds c
  | none => .stuck
def sForT (i : Nat) (ga : Env → R D) (g : Env → Rs) : Env → Rs := fun c => (ga c).st c fun d => match asT d with
  | some ds => forL i g ds c
  | none => .stuck
theorem drop_cons {α : Type} {xs : List α} {i : Nat} {x : α} (h : xs[i]? = some x) : xs.drop i = x :: xs.drop (i + 1) := by
  obtain ⟨hl, e⟩ := List.getElem?_eq_some_iff.mp h
  rw [List.drop_eq_getElem_cons hl, e]
theorem pxs_forL {x : Str} {p : Pos} {body : List Stmt} (i : Nat) {ga : Env → R D} (hp : PassesOwn (model X.prog X.w) X.A X.env X.xe) (hc : X.calm = true) (ha : PX X W true e ga) (hb : PXSs X W pn body g) (nd : X.N.Nodup) (hN : X.N[i]? = some x := by rfl) (hl : Loc X.env.scope x := by first | exact Or.inl rfl | exact Or.inr rfl) (hi : i ∉ pn := by decide)
    (hf : X.fn x = true ∨ X.env.scope.names.lookup x = some .local := by first | exact .inl rfl | exact .inr rfl) (hs : ∀ y, foldedSetIterable e X.env y = pure y := by intro _; rfl) : PXS X W pn (.For (.Name x p) e body [] pos) (sForL i ga g) :=
  ps_mono (ps_for hp hc (pi_list ha) (pg_name (i := i) nd hN hl) hb hs) fun Dn σ H ⟨B, G, c, fp, A, P, q⟩ => tx_st A q fun d e v G1 H1 s1 t1 A1 r1 q1 => by
    cases d with
    | lst ds =>
      have q1 : ResS ⟨X.K, X.mg⟩ W B G1 H1 (forL i g ds c) Dn := q1
      have r1 : Rp ⟨X.K, X.mg⟩ G1 v (.lst ds) := r1
      cases r1 with
      | @lst a vs _ h1 h2 =>
        refine ⟨a, rfl, ⟨vs, Same.sqL A1.fine.le h1⟩, ?_⟩
        refine for_list (xs := vs) (fun j σ H => ∃ G' c' fp', Same G1 G' ∧ Abs ⟨X.K, X.mg⟩ B G' H c' σ fp' ∧ ResS ⟨X.K, X.mg⟩ W B G' H (forL i g (ds.drop j) c') Dn) ⟨G1, c, fp, Same.refl _, A1, q1⟩ ?_ ?_ ?_
        · rintro j σ' H' _ ⟨G', c', fp', s', A', _⟩
          exact Same.sqL (s'.trans A'.fine.le) h1
        · rintro j w σ' H' hw ⟨G', c', fp', s', A', q'⟩
          obtain ⟨d, hd, rd⟩ := h2.getV hw
          rw [drop_cons hd] at q'
          exact for_turn A' P hi (rd.mono s') q' fun σ2 G2 H2 c2 fp2 s2 A2 q2 => ⟨G2, c2, fp2, s'.trans s2, A2, q2⟩
        · rintro σ' H' ⟨G', c', fp', s', A', q'⟩
          rw [h2.length, List.drop_length] at q'
          exact q' σ' G' H' fp' (Same.refl _) A'
    | _ => exact q1.elim
theorem pxs_forT {x : Str} {p : Pos} {body : List Stmt} (i : Nat) {ga : Env → R D} (hp : PassesOwn (model X.prog X.w) X.A X.env X.xe) (hc : X.calm = true) (ha : PX X W true e ga) (hb : PXSs X W pn body g) (nd : X.N.Nodup) (hN : X.N[i]? = some x := by rfl) (hl : Loc X.env.scope x := by first | exact Or.inl rfl | exact Or.inr rfl) (hi : i ∉ pn := by decide)
    (hf : X.fn x = true ∨ X.env.scope.names.lookup x = some .local := by first | exact .inl rfl | exact .inr rfl) (hs : ∀ y, foldedSetIterable e X.env y = pure y := by intro _; rfl) : PXS X W pn (.For (.Name x p) e body [] pos) (sForT i ga g) :=
  ps_mono (ps_for hp hc (pi_tup ha) (pg_name (i := i) nd hN hl) hb hs) fun Dn σ H ⟨B, G, c, fp, A, P, q⟩ => tx_st A q fun d e v G1 H1 s1 t1 A1 r1 q1 => by
    cases d with
    | tup ds =>
      have q1 : ResS ⟨X.K, X.mg⟩ W B G1 H1 (forL i g ds c) Dn := q1
      have r1 : Rp ⟨X.K, X.mg⟩ G1 v (.tup ds) := r1
      cases r1 with
      | @tup a vs _ h1 h2 =>
        refine ⟨a, rfl, ⟨vs, Same.sqT A1.fine.le h1⟩, ?_⟩
        refine for_tup (xs := vs) (fun j σ H => ∃ G' c' fp', Same G1 G' ∧ Abs ⟨X.K, X.mg⟩ B G' H c' σ fp' ∧ ResS ⟨X.K, X.mg⟩ W B G' H (forL i g (ds.drop j) c') Dn) ⟨G1, c, fp, Same.refl _, A1, q1⟩ ?_ ?_ ?_
        · rintro j σ' H' _ ⟨G', c', fp', s', A', _⟩
          exact Same.sqT (s'.trans A'.fine.le) h1
        · rintro j w σ' H' hw ⟨G', c', fp', s', A', q'⟩
          obtain ⟨d, hd, rd⟩ := h2.getV hw
          rw [drop_cons hd] at q'
          exact for_turn A' P hi (rd.mono s') q' fun σ2 G2 H2 c2 fp2 s2 A2 q2 => ⟨G2, c2, fp2, s'.trans s2, A2, q2⟩
        · rintro σ' H' ⟨G', c', fp', s', A', q'⟩
          rw [h2.length, List.drop_length] at q'
          exact q' σ' G' H' fp' (Same.refl _) A'
    | _ => exact q1.elim
/-- lo, lo + 1, .. below hi -/
def rangeD (lo hi : Int) : List D := (List.range (hi - lo).toNat).map fun (k : Nat) => .int (lo + (k : Int))
def asI : D → Option Int
  | .int i => if -(2 ^ 62) ≤ i ∧ i < 2 ^ 62 then some i else none
  | _ => none
theorem asI_rp {E : Wd} {G : Hp} {v : V} {d : D} {i : Int} (h : Rp E G v d) (e : asI d = some i) : v = .int i ∧ -(2 ^ 62) ≤ i ∧ i < 2 ^ 62 := by
  cases d <;> simp only [asI] at e
  all_goals try cases e
  split at e
  · cases e; rename_i hb; exact ⟨h.intH, hb⟩
  · cases e
def sForR (i : Nat) (ga gb : Env → R D) (g : Env → Rs) : Env → Rs := fun c => (ga c).st c fun d => (lift (asI d)).st c fun lo => (gb c).st c fun d2 => (lift (asI d2)).st c fun hi => forL i g (rangeD lo hi) c
theorem rangeD_at {lo hi : Int} {j : Nat} (h : j < (hi - lo).toNat) : (rangeD lo hi)[j]? = some (.int (lo + (j : Int))) := by
  unfold rangeD
  rw [List.getElem?_map, List.getElem?_range h]
  rfl
theorem for_rng {E : Wd} {B : Bs} {G H : Hp} {c : Env} {σ : L2.St} {fp : List Addr} {Dn : Ends} {i : Nat} {lo hi : Int} (A : Abs E B G H c σ fp) (P : PinOk pn B) (hi' : i ∉ pn) (q : ResS E W B G H (forL i g (rangeD lo hi) c) Dn) :
    ∃ W' : Nat → Nat → L2.St → Hp → Prop, (∃ m, W' 0 m σ H) ∧ ∀ j m σ H, W' j m σ H →
      ((Itr lo (hi - lo).toNat).stop j H ∧ Dn.nx σ H) ∨ ((Itr lo (hi - lo).toNat).go j H ∧ ∃ N : L2.St → Hp → Prop, (∀ σ' H', N σ' H' → ∃ m', m' < m ∧ W' (j + 1) m' σ' H') ∧ ∀ x H', (Itr lo (hi - lo).toNat).yld j H x H' → gName i x σ H' fun σ2 H2 => TSt E W pn g { Dn with nx := N, ct := N, bk := Dn.nx } σ2 H2) := by
  refine for_range (lo := lo) (n := (hi - lo).toNat) (fun j σ H => ∃ G' c' fp', Same G G' ∧ Abs E B G' H c' σ fp' ∧ ResS E W B G' H (forL i g ((rangeD lo hi).drop j) c') Dn) ⟨G, c, fp, Same.refl _, A, q⟩ ?_ ?_
  · rintro j σ' H' hj ⟨G', c', fp', s', A', q'⟩
    rw [drop_cons (rangeD_at hj)] at q'
    exact for_turn A' P hi' (.int _) q' fun σ2 G2 H2 c2 fp2 s2 A2 q2 => ⟨G2, c2, fp2, s'.trans s2, A2, q2⟩
  · rintro σ' H' ⟨G', c', fp', s', A', q'⟩
    have : (rangeD lo hi).drop (hi - lo).toNat = [] := List.drop_eq_nil_of_le (by simp [rangeD])
    rw [this] at q'
    exact q' σ' G' H' fp' (Same.refl _) A'
theorem lift_st {E : Wd} {B : Bs} {G H : Hp} {c : Env} {Dn : Ends} {α : Type} {o : Option α} {f : α → Rs} (h : ResS E W B G H ((lift o).st c f) Dn) : ∃ a, o = some a ∧ ResS E W B G H (f a) Dn := by
  cases o with
  | some a => exact ⟨a, rfl, h⟩
  | none => exact h.elim
theorem pxs_forR1 {x : Str} {p p2 p3 : Pos} {a : Expr} {body : List Stmt} (i : Nat) {ga : Env → R D} (hp : PassesOwn (model X.prog X.w) X.A X.env X.xe) (hc : X.calm = true) (hm : X.mg "range" = none) (ha : PX X W b a ga) (hb : PXSs X W pn body g) (nd : X.N.Nodup) (hN : X.N[i]? = some x := by rfl) (hl : Loc X.env.scope x := by first | exact Or.inl rfl | exact Or.inr rfl) (hi : i ∉ pn := by decide)
    (hg : Gl X "range" := by rfl) (hf : X.fn x = true ∨ X.env.scope.names.lookup x = some .local := by first | exact .inl rfl | exact .inr rfl) (hs0 : starEach [a] X.env = [(false, eval a X.env)] := by rfl) (hs : ∀ y, foldedSetIterable (.Call (.Name "range" p2) [a] [] p3) X.env y = pure y := by intro _; rfl) :
    PXS X W pn (.For (.Name x p) (.Call (.Name "range" p2) [a] [] p3) body [] pos) (sForR i (eC (.int 0)) ga g) :=
  ps_mono (ps_for hp hc (pi_range1 hg hm (pa_cons ha pa_nil hs0) hs0) (pg_name (i := i) nd hN hl) hb hs) fun Dn σ H ⟨B, G, c, fp, A, P, q⟩ => by
    have q0 : ResS ⟨X.K, X.mg⟩ W B G H ((ga c).st c fun d2 => (lift (asI d2)).st c fun hi => forL i g (rangeD 0 hi) c) Dn := q
    refine tx_st A q0 fun d e v G1 H1 s1 t1 A1 r1 q1 => ?_
    obtain ⟨hi, e1, q2⟩ := lift_st q1
    obtain ⟨rfl, h1, h2⟩ := asI_rp r1 e1
    refine ⟨hi, rfl, h1, h2, ?_⟩
    have z := for_rng (lo := 0) (hi := hi) A1 P ‹_› q2
    simpa using z
theorem pxs_forR2 {x : Str} {p p2 p3 : Pos} {a a2 : Expr} {body : List Stmt} (i : Nat) {b2 : Bool} {ga gb : Env → R D} (hp : PassesOwn (model X.prog X.w) X.A X.env X.xe) (hc : X.calm = true) (hm : X.mg "range" = none) (ha : PX X W b a ga) (ha2 : PX X W b2 a2 gb) (hb : PXSs X W pn body g) (nd : X.N.Nodup) (hN : X.N[i]? = some x := by rfl) (hl : Loc X.env.scope x := by first | exact Or.inl rfl | exact Or.inr rfl) (hi : i ∉ pn := by decide)
    (hg : Gl X "range" := by rfl) (hf : X.fn x = true ∨ X.env.scope.names.lookup x = some .local := by first | exact .inl rfl | exact .inr rfl) (hs0 : starEach [a, a2] X.env = [(false, eval a X.env), (false, eval a2 X.env)] := by rfl) (hs1 : starEach [a2] X.env = [(false, eval a2 X.env)] := by rfl) (hs2 : starEach [a, a2] X.env = (false, eval a X.env) :: starEach [a2] X.env := by rfl)
    (hs : ∀ y, foldedSetIterable (.Call (.Name "range" p2) [a, a2] [] p3) X.env y = pure y := by intro _; rfl) :
    PXS X W pn (.For (.Name x p) (.Call (.Name "range" p2) [a, a2] [] p3) body [] pos) (sForR i ga gb g) :=
  ps_mono (ps_for hp hc (pi_range2 hg hm (pa_cons ha (pa_cons ha2 pa_nil hs1) hs2) hs0 hs1) (pg_name (i := i) nd hN hl) hb hs) fun Dn σ H ⟨B, G, c, fp, A, P, q⟩ => by
    refine tx_st A q fun d e v G1 H1 s1 t1 A1 r1 q1 => ?_
    obtain ⟨lo, e1, q2⟩ := lift_st q1
    obtain ⟨rfl, h1, h2⟩ := asI_rp r1 e1
    refine tx_st A1 q2 fun d2 e3 v2 G2 H2 s2 t2 A2 r2 q3 => ?_
    obtain ⟨hi, e4, q4⟩ := lift_st q3
    obtain ⟨rfl, h3, h4⟩ := asI_rp r2 e4
    exact ⟨lo, hi, rfl, ⟨h1, h2, h3, h4⟩, for_rng A2 P ‹_› q4⟩
end
end VS

/-! VS: what is owned: new lists and dicts, changed in place; freezing; comprehensions. -/
namespace VS
open PySem PySem.Spec PyProof.Rows L2

section
variable {E : Wd} {B : Bs} {c : Env} {σ : L2.St} {fp : List Addr} {G G' H H' : Hp}
/-- a new object that is nobody's knowledge yet -/
theorem Abs.newO {p : Addr} {u : HO} (A : Abs E B G H c σ fp) (hp : H p = none) (hu : isT u = false) : Abs E B G (upd H p u) c σ fp :=
  A.grow (same_upd hp) fun a w e k => by
    by_cases ha : a = p
    · subst ha; rw [upd_same] at e; cases e; rw [hu] at k; cases k
    · rw [upd_ne ha] at e; exact A.fine.tup a w e k
theorem ownL_v : ∀ {vs : List V} {ds : List D}, RpL E G vs ds → OwnL E G H vs (ds.map O.v) []
  | _, [], r => by cases r; exact .nil
  | _, d :: ds, r => by
    cases r with
    | cons h r => exact OwnL.cons (fp := []) (fq := []) (.v h) (ownL_v r)
theorem OwnL.append {vs ws : List V} {os ps : List O} {fp fq : List Addr} (h : OwnL E G H vs os fp) (k : OwnL E G H ws ps fq) : OwnL E G H (vs ++ ws) (os ++ ps) (fp ++ fq) := by
  induction os generalizing vs fp with
  | nil => cases h; simpa using k
  | cons o os ih => cases h with | cons h r => rw [List.append_assoc]; exact .cons h (ih r)
theorem OwnL.length : ∀ {vs : List V} {os : List O} {fp : List Addr}, OwnL E G H vs os fp → vs.length = os.length
  | _, [], _, h => by cases h; rfl
  | _, o :: os, _, h => by cases h with | cons h r => simp [r.length]
/-- an item is replaced by a value -/
theorem OwnL.setV : ∀ {vs : List V} {os : List O} {fp : List Addr} {v : V} {d : D} (i : Nat), OwnL E G H vs os fp → Rp E G v d → fp.Nodup → ∃ fq, OwnL E G H (vs.set i v) (os.set i (.v d)) fq ∧ fq.Nodup ∧ ∀ p ∈ fq, p ∈ fp
  | _, [], _, v, d, i, h, r, n => by cases h; exact ⟨[], .nil, List.nodup_nil, fun p hp => hp⟩
  | _, o :: os, _, v, d, 0, h, r, n => by
    cases h with
    | @cons _ _ _ _ f1 f2 h k => exact ⟨_, .cons (.v r) k, by simpa using (List.nodup_append.mp n).2.1, fun p hp => List.mem_append_right _ (by simpa using hp)⟩
  | _, o :: os, _, v, d, i + 1, h, r, n => by
    cases h with
    | @cons _ _ _ _ f1 f2 h k =>
      obtain ⟨n1, n2, n3⟩ := List.nodup_append.mp n
      obtain ⟨fq, k1, k2, k3⟩ := OwnL.setV i k r n2
      refine ⟨_, .cons h k1, List.nodup_append.mpr ⟨n1, k2, fun a ha b hb => n3 a ha b (k3 b hb)⟩, fun p hp => ?_⟩
      rcases List.mem_append.mp hp with z | z
      · exact List.mem_append_left _ z
      · exact List.mem_append_right _ (k3 p z)
theorem OwnL.upd {vs : List V} {os : List O} {fp : List Addr} {p : Addr} {u : HO} (h : OwnL E G H vs os fp) (hp : p ∉ fp) : OwnL E G (L2.upd H p u) vs os fp :=
  h.keep (Same.refl _) fun q hq w e => by
    have hne : q ≠ p := fun z => hp (z ▸ hq)
    rw [upd_ne hne]; exact e
/-- what one name owns is changed -/
theorem Cells.poke : ∀ {c : Env} {σ : L2.St} {fp : List Addr} {i : Nat} {o : O}, Cells E G H c σ fp → fp.Nodup → c[i]? = some (some o) → ∃ v fq, σ[i]? = some (some v) ∧ Own E G H v o fq ∧ fq.Nodup ∧ (∀ p ∈ fq, p ∈ fp) ∧
    ∀ {G' H' : Hp} {o' : O} {fr : List Addr}, Same G G' → (∀ p ∈ fp, p ∉ fq → ∀ u, H p = some u → H' p = some u) → Own E G' H' v o' fr → fr.Nodup → (∀ p ∈ fr, p ∈ fq ∨ p ∉ fp) → ∃ fp', Cells E G' H' (c.set i (some o')) σ fp' ∧ fp'.Nodup ∧ ∀ p ∈ fp', (p ∈ fp ∧ p ∉ fq) ∨ p ∈ fr
  | _, _, _, i, o, .nil, n, e => by simp at e
  | _, _, _, 0, o, .no h, n, e => by simp at e
  | _, _, _, i + 1, o, .no h, n, e => by
    obtain ⟨v, fq, h1, h2, h3, h4, h5⟩ := Cells.poke (i := i) h n (by simpa using e)
    refine ⟨v, fq, by simpa using h1, h2, h3, h4, fun s k w m d => ?_⟩
    obtain ⟨fp', k1, k2, k3⟩ := h5 s k w m d
    exact ⟨fp', .no k1, k2, k3⟩
  | _, _, _, 0, o, .yes (fp := f1) (fq := f2) h r, n, e => by
    simp at e
    subst e
    obtain ⟨n1, n2, n3⟩ := List.nodup_append.mp n
    refine ⟨_, f1, rfl, h, n1, fun p hp => List.mem_append_left _ hp, fun s k w m d => ?_⟩
    have r' := Cells.keep s r fun p hp u e => k p (List.mem_append_right _ hp) (fun z => n3 p z p hp rfl) u e
    refine ⟨_, .yes w r', List.nodup_append.mpr ⟨m, n2, fun a ha b hb e => ?_⟩, fun p hp => ?_⟩
    · subst e
      rcases d a ha with z | z
      · exact n3 a z a hb rfl
      · exact z (List.mem_append_right _ hb)
    · rcases List.mem_append.mp hp with z | z
      · exact .inr z
      · exact .inl ⟨List.mem_append_right _ z, fun y => n3 p y p z rfl⟩
  | _, _, _, i + 1, o, .yes (fp := f1) (fq := f2) h r, n, e => by
    obtain ⟨n1, n2, n3⟩ := List.nodup_append.mp n
    obtain ⟨v, fq, h1, h2, h3, h4, h5⟩ := Cells.poke (i := i) r n2 (by simpa using e)
    refine ⟨v, fq, by simpa using h1, h2, h3, fun p hp => List.mem_append_right _ (h4 p hp), fun s k w m d => ?_⟩
    obtain ⟨fp', k1, k2, k3⟩ := h5 s (fun p hp hq u e => k p (List.mem_append_right _ hp) hq u e) w m (fun p hp => (d p hp).elim .inl fun z => .inr fun z2 => z (List.mem_append_right _ z2))
    have hk := h.keep (H' := _) s fun p hp u e => k p (List.mem_append_left _ hp) (fun z => n3 p hp p (h4 p z) rfl) u e
    refine ⟨_, .yes hk k1, List.nodup_append.mpr ⟨n1, k2, fun a ha b hb e => ?_⟩, fun p hp => ?_⟩
    · subst e
      rcases k3 a hb with ⟨z, _⟩ | z
      · exact n3 a ha a z rfl
      · rcases d a z with y | y
        · exact n3 a ha a (h4 a y) rfl
        · exact y (List.mem_append_left _ ha)
    · rcases List.mem_append.mp hp with z | z
      · exact .inl ⟨List.mem_append_left _ z, fun y => n3 p z p (h4 p y) rfl⟩
      · rcases k3 p z with ⟨y, w⟩ | y
        · exact .inl ⟨List.mem_append_right _ y, w⟩
        · exact .inr y
/-- one own object is written -/
theorem Abs.poke {i : Nat} {o : O} (A : Abs E B G H c σ fp) (e : c[i]? = some (some o)) : ∃ v fq, σ[i]? = some (some v) ∧ Own E G H v o fq ∧ fq.Nodup ∧ (∀ p ∈ fq, p ∈ fp) ∧
    ∀ {p : Addr} {u : HO} {o' : O} {fr : List Addr}, p ∈ fq → isT u = false → Own E G (upd H p u) v o' fr → fr.Nodup → (∀ q ∈ fr, q ∈ fq) → ∃ fp', Abs E B G (upd H p u) (c.set i (some o')) σ fp' := by
  obtain ⟨v, fq, h1, h2, h3, h4, h5⟩ := A.cells.poke A.nd e
  refine ⟨v, fq, h1, h2, h3, h4, fun {p u o' fr} hp hu w m d => ?_⟩
  obtain ⟨fp', k1, k2, k3⟩ := h5 (Same.refl G) (fun q hq hn w e => by
    have : q ≠ p := fun z => hn (z ▸ hp)
    rw [upd_ne this]; exact e) w m fun q hq => .inl (d q hq)
  obtain ⟨gp, bp⟩ := A.fresh p (h4 p hp)
  refine ⟨fp', ⟨fun a o e n => ?_, fun a e => ?_, A.fine.x, fun a o e => ?_, fun a o e k => ?_⟩, k1, k2, fun q hq => (k3 q hq).elim (fun z => A.fresh q z.1) fun z => A.fresh q (h4 q (d q z)), A.pin⟩
  · have ha : a ≠ p := fun z => by
      subst z
      rcases bp with z | z
      · rw [z] at e; cases e
      · exact n z
    rw [upd_ne ha]; exact A.fine.base a o e n
  · by_cases ha : a = p
    · subst ha; rw [upd_same] at e; cases e
    · rw [upd_ne ha] at e; exact A.fine.there a e
  · have ha : a ≠ p := fun z => by subst z; rw [gp] at e; cases e
    rw [upd_ne ha]; exact A.fine.le a o e
  · by_cases ha : a = p
    · subst ha; rw [upd_same] at e; cases e; rw [hu] at k; cases k
    · rw [upd_ne ha] at e; exact A.fine.tup a o e k
end

/-! ### a fresh thing -/
def PostF (E : Wd) (B : Bs) (c : Env) (σ : L2.St) (fp : List Addr) (G H : Hp) (Q : VK) (o : O) : Prop :=
  ∀ v G' H' fq, Same G G' → Same H H' → Abs E B G' H' c σ fp → Own E G' H' v o fq → fq.Nodup → (∀ p ∈ fq, H p = none ∧ G' p = none) → Q v H'
def TF (E : Wd) (W : WX) (g : Env → R O) : TE := fun σ H Q => ∃ B G c fp, Abs E B G H c σ fp ∧ Res E W B c σ fp G H (g c) (PostF E B c σ fp G H Q)
/-- an expression that is worth a new thing -/
def PF (X : Cx) (W : WX) (e : Expr) (g : Env → R O) : Prop := PE X e (TF ⟨X.K, X.mg⟩ W g)
section
variable {E : Wd} {W : WX} {B : Bs} {c : Env} {σ : L2.St} {fp : List Addr} {G H : Hp} {b : Bool} {Dn : Ends}
theorem PostF.grow {Q : VK} {o : O} {G' H' : Hp} (h : PostF E B c σ fp G H Q o) (s : Same G G') (t : Same H H') : PostF E B c σ fp G' H' Q o := fun v G2 H2 fq s2 t2 A w n k =>
  h v G2 H2 fq (s.trans s2) (t.trans t2) A w n fun p hp => ⟨t.free (k p hp).1, (k p hp).2⟩
theorem tf_st {ga : Env → R O} {f : O → Rs} {Q' : VK} (A : Abs E B G H c σ fp) (h : ResS E W B G H (R.st (ga c) c f) Dn)
    (k : ∀ o, ga c = .ok o → ∀ v G1 H1 fq, Same G G1 → Same H H1 → Abs E B G1 H1 c σ fp → Own E G1 H1 v o fq → fq.Nodup → (∀ p ∈ fq, H p = none ∧ G1 p = none) → ResS E W B G1 H1 (f o) Dn → Q' v H1) : TF E W ga σ H Q' := by
  refine ⟨B, G, c, fp, A, ?_⟩
  cases e : ga c with
  | ok o =>
    rw [e] at h
    exact fun v G1 H1 fq s t A1 w n d => k o e v G1 H1 fq s t A1 w n d (ResS.grow (r := f o) h s)
  | ex x => rw [e] at h; exact fun cl dx G1 H1 s t A1 r => h cl dx σ G1 H1 fp s A1 r
  | stuck => rw [e] at h; exact h
end
section
variable {X : Cx} {W : WX} {pn : List Nat} {b b1 b2 : Bool} {e : Expr} {pos : Pos} {g : Env → Rs}
/-- a fresh thing may be taken as known -/
def eFz (g : Env → R O) : Env → R D := fun c => g c >>= fun o => .ok o.toD
def fLstO (ds : List D) : Option O := if ds.length ≤ 16777216 then some (.lst (ds.map O.v)) else none
def eFnO (f : List D → Option O) (gs : Env → R (List D)) : Env → R O := fun c => gs c >>= fun ds => lift (f ds)
theorem PostF.new {B : Bs} {c : Env} {σ : L2.St} {fp : List Addr} {G H : Hp} {Q : VK} {ds : List D} {vs : List V} (h : PostF ⟨X.K, X.mg⟩ B c σ fp G H Q (.lst (ds.map O.v))) (A : Abs ⟨X.K, X.mg⟩ B G H c σ fp) {p : Addr} (hp : H p = none) (r : RpL ⟨X.K, X.mg⟩ G vs ds) : Q (.ref p) (upd H p (.lst vs)) := by
  refine h (.ref p) G _ [p] (Same.refl _) (same_upd hp) (A.newO hp rfl) (.lst upd_same (ownL_v r)) (by simp) fun q hq => ?_
  have : q = p := by simpa using hq
  subst this
  exact ⟨hp, A.fine.fresh hp⟩
theorem pf_lst {es : List Expr} {gs : Env → R (List D)} (h : PXA X W true es gs) : PF X W (.List es pos) (eFnO fLstO gs) :=
  pe_mono (pe_lst h) fun σ H Q ⟨B, G, c, fp, A, q⟩ => txa_seq A q fun ds e vs G1 H1 s1 t1 A1 r1 q1 => by
    obtain ⟨d3, e3, p3⟩ := Res.lift q1
    unfold fLstO at e3
    split at e3
    · cases e3
      rename_i hl
      exact ⟨sz_ok (by rw [r1.length]; exact hl), fun p hp => (p3.grow s1 t1).new A1 hp r1⟩
    · cases e3
/-- list(xs), a new list -/
def fListO (b : Bool) (ds : List D) : Option O := (fList b ds).bind fun d => match d with
  | .lst es => some (.lst (es.map O.v))
  | _ => none
theorem pf_list {x : Str} {e : Expr} {gs : Env → R (List D)} {p : Pos} (hc : X.calm = true) (hm : X.mg x = none) (ha : PXA X W b [e] gs) (hx : x = "list" := by rfl) (hg : Gl X x := by rfl) (hv : bootBuiltins x = some (.type "list") := by decide +kernel)
    (hn : x ≠ "__name__" := by decide) (hdb : (x == ("__debug__" : Str)) = false := by decide) (he : starEach [e] X.env = (false, eval e X.env) :: starEach [] X.env := by rfl) (hpl : (backTo pos (starEach [] X.env)).any (·.1) = false := by rfl) :
    PF X W (.Call (.Name x p) [e] [] pos) (eFnO (fListO b) gs) :=
  pe_mono (pe_callTy (call_listA hc) hg hm hv ha hn hdb he hpl) fun σ H Q ⟨B, G, c, fp, A, q⟩ => txa_seq A q fun ds e vs G1 H1 s1 t1 A1 r1 q1 => by
    obtain ⟨o, e3, p3⟩ := Res.lift q1
    have p3 := p3.grow s1 t1
    unfold fListO at e3
    obtain ⟨d, e4, e5⟩ := Option.bind_eq_some_iff.mp e3
    unfold fList at e4
    split at e4
    · split at e4
      · rename_i hk
        cases e4
        cases e5
        obtain ⟨v, rfl, rv⟩ := r1.one
        obtain ⟨a, vs, rfl, h1, r1⟩ := rv.lstH A1.fine.le
        exact .inl ⟨_, _, rfl, .inl h1, fun q hq => p3.new A1 hq (r1.known A1.fine hk)⟩
      · cases e4
    · split at e4
      · rename_i hk
        cases e4
        cases e5
        obtain ⟨v, rfl, rv⟩ := r1.one
        obtain ⟨a, vs, rfl, h1, r1⟩ := rv.tupH A1.fine.le
        exact .inl ⟨_, _, rfl, .inr h1, fun q hq => p3.new A1 hq (r1.known A1.fine hk)⟩
      · cases e4
    · split at e4
      · rename_i ks ds hl
        cases e4
        cases e5
        obtain ⟨v, rfl, rv⟩ := r1.one
        obtain ⟨a, kvs, rfl, h1, e1, r1⟩ := rv.dicH A1.fine.le
        exact .inr ⟨_, _, rfl, h1, fun q hq => p3.new A1 hq (keys_rp e1)⟩
      · cases e4
    · cases e4
/-! ### x = a fresh thing -/
def sSetO (i : Nat) (g : Env → R O) : Env → Rs := fun c => (g c).st c fun o => .ok .nx (c.set i (some o))
theorem set_fresh {E : Wd} {B : Bs} {c : Env} {σ : L2.St} {fp : List Addr} {G1 H H1 : Hp} {v : V} {o : O} {fq : List Addr} {i : Nat} {pn : List Nat} (A : Abs E B G1 H1 c σ fp) (t : ∀ p ∈ fp, H p ≠ none) (f0 : ∀ p, H p = none → B.H0 p = none) (w : Own E G1 H1 v o fq) (n : fq.Nodup) (d : ∀ p ∈ fq, H p = none ∧ G1 p = none) (P : PinOk pn B) (hi : i ∉ pn) :
    ∃ fr, Abs E B G1 H1 (c.set i (some o)) (σ.set i (some v)) fr :=
  A.set w n (fun p hp z => t p z (d p hp).1) (fun p hp => ⟨(d p hp).2, .inl (f0 p (d p hp).1)⟩) (P.ne hi)
theorem pxs_setO {x : Str} {p : Pos} (i : Nat) {g : Env → R O} (h : PF X W e g) (nd : X.N.Nodup) (hN : X.N[i]? = some x := by rfl) (hl : Loc X.env.scope x := by first | exact Or.inl rfl | exact Or.inr rfl) (hi : i ∉ pn := by decide)
    (hs : swapsWith e (some (.Name x p)) pos.line X.env = pure false := by rfl) (hf : X.fn x = true ∨ X.env.scope.names.lookup x = some .local := by first | exact .inl rfl | exact .inr rfl) : PXS X W pn (.Assign [.Name x p] e pos) (sSetO i g) :=
  ps_mono (ps_asg h (pg_name (i := i) nd hN hl) hs) fun Dn σ H ⟨B, G, c, fp, A, P, q⟩ => tf_st A q fun o e v G1 H1 fq s1 t1 A1 w n d q1 => by
    obtain ⟨fr, A2⟩ := set_fresh A1 (A.cells.there) A.fine.there w n d P hi
    exact q1 _ G1 H1 fr (Same.refl _) A2
/-! ### x.append(e), x[i] = e -/
def atL (i : Nat) (c : Env) : Option (List O) := match c[i]? with
  | some (some (.lst os)) => some os
  | _ => none
theorem atL_eq {i : Nat} {c : Env} {os : List O} (h : atL i c = some os) : c[i]? = some (some (.lst os)) := by
  unfold atL at h
  split at h
  · cases h; assumption
  · cases h
def sApp (i : Nat) (g : Env → R D) : Env → Rs := fun c => (lift (atL i c)).st c fun os => (g c).st c fun d => if os.length < 16777216 then .ok .nx (c.set i (some (.lst (os ++ [.v d])))) else .stuck
theorem pxs_app {x : Str} {p apos cpos : Pos} (i : Nat) {g : Env → R D} (h : PX X W true e g) (hN : X.N[i]? = some x := by rfl) (hv : Vis X.env.scope x := by first | exact Or.inl rfl | exact Or.inr (Or.inl rfl) | exact Or.inr (Or.inr rfl)) (hd : (x == ("__debug__" : Str)) = false := by decide) (hcd : (x == ("__classdict__" : Str)) = false := by decide)
    (hbase : attributeBase (.Name x p) "append" X.env (eval (.Name x p) X.env) = eval (.Name x p) X.env := by rfl)
    (hfew : ((backTo cpos (starEach [e] X.env)).all (fun x => !x.1) && (backToKw cpos (keywordEach [] X.env)).all (fun x => x.1.isSome)
      && decide ([e].length + ([] : List Keyword).length + (if ([] : List Keyword).isEmpty then 0 else 1) < 30)) = true := by rfl)
    (hline : (apos.endLine == cpos.line) = true := by rfl) (hs : starEach [e] X.env = (false, eval e X.env) :: starEach [] X.env := by rfl) (hplain : (backTo cpos (starEach [] X.env)).any (·.1) = false := by rfl)
    (hsw : swapsWith (.Call (.Attribute (.Name x p) "append" apos) [e] [] cpos) none pos.line X.env = pure false := by rfl) :
    PXS X W pn (.Expr (.Call (.Attribute (.Name x p) "append" apos) [e] [] cpos) pos) (sApp i g) :=
  ps_mono (ps_expr (pe_bm PySem.F.plainAttrs_list PySem.F.slot_list_append PySem.F.type_list_append mt_append (pe_var hN hv hd hcd) (pa_cons h pa_nil hs) hbase hfew hline hs hplain) hsw) fun Dn σ H ⟨B, G, c, fp, A, P, q⟩ => by
    obtain ⟨os, e0, q⟩ := lift_st q
    have e1 := atL_eq e0
    obtain ⟨v, fq, h1, h2, _, _, _⟩ := A.poke e1
    cases h2 with
    | @lst a vs _ fq ha ho =>
      refine ⟨_, h1, .inl ⟨rfl, vs, .inl (.inl ha)⟩, tx_st A q fun d e3 w G1 H1 s1 t1 A1 r1 q1 => ?_⟩
      obtain ⟨v, fq, h1', h2, n, hin, hpk⟩ := A1.poke e1
      rw [h1] at h1'
      cases h1'
      cases h2 with
      | @lst _ vs _ fq ha ho =>
        have hlen := ho.length
        by_cases hl : os.length < 16777216
        · have q2 : ResS ⟨X.K, X.mg⟩ W B G1 H1 (if os.length < 16777216 then .ok .nx (c.set i (some (.lst (os ++ [.v d])))) else .stuck) Dn := q1
          rw [if_pos hl] at q2
          refine ⟨a, vs, w, rfl, rfl, ha, by rw [hlen, sizeLine_eq]; exact hl, ?_⟩
          have nn := List.nodup_cons.mp n
          have ho' : OwnL ⟨X.K, X.mg⟩ G1 (upd H1 a (.lst (vs ++ [w]))) (vs ++ [w]) (os ++ [.v d]) (fq ++ ([] ++ [])) :=
            (ho.upd nn.1).append (.cons (.v r1) .nil)
          obtain ⟨fp', A2⟩ := hpk List.mem_cons_self (u := .lst (vs ++ [w])) rfl (.lst upd_same ho') (by simpa using n) (fun q hq => by simpa using hq)
          exact q2 σ G1 _ fp' (Same.refl _) A2
        · have q2 : ResS ⟨X.K, X.mg⟩ W B G1 H1 (if os.length < 16777216 then .ok .nx (c.set i (some (.lst (os ++ [.v d])))) else .stuck) Dn := q1
          rw [if_neg hl] at q2
          exact q2.elim
def sIxSet (i : Nat) (gi g : Env → R D) : Env → Rs := fun c => (g c).st c fun d => (lift (atL i c)).st c fun os => (gi c).st c fun k => match k with
  | .int k => (lift (ixN os.length k)).st c fun j => .ok .nx (c.set i (some (.lst (os.set j (.v d)))))
  | _ => .stuck
theorem pxs_ixset {x : Str} {ei : Expr} {p p2 : Pos} (i : Nat) {gi g : Env → R D} (h : PX X W true e g) (hi : PX X W b ei gi) (hN : X.N[i]? = some x := by rfl) (hv : Vis X.env.scope x := by first | exact Or.inl rfl | exact Or.inr (Or.inl rfl) | exact Or.inr (Or.inr rfl)) (hd : (x == ("__debug__" : Str)) = false := by decide) (hcd : (x == ("__classdict__" : Str)) = false := by decide)
    (hs : swapsWithSole [.Subscript (.Name x p) ei p2] e pos.line X.env = pure false := by rfl) (hw : swappedStores [.Subscript (.Name x p) ei p2] e X.env = pure none := by rfl)
    (h1 : (assignEach [.Subscript (.Name x p) ei p2] X.env).map (·.2) = [assign (.Subscript (.Name x p) ei p2) X.env] := by rfl)
    (ha : ∀ v, assign (.Subscript (.Name x p) ei p2) X.env v = (do
      let ov ← holding [v] (eval (.Name x p) X.env)
      let iv ← holding [v, ov] (eval ei X.env)
      standAt p2
      holding [v, ov, iv] (setItem ov iv v)
      release [v, ov, iv] []) := by intro _; rfl) : PXS X W pn (.Assign [.Subscript (.Name x p) ei p2] e pos) (sIxSet i gi g) :=
  ps_mono (ps_asg h (pg_sub (pe_var hN hv hd hcd) hi set_list ha) hs hw h1) fun Dn σ H ⟨B, G, c, fp, A, P, q⟩ => tx_st A q fun d e w G1 H1 s1 t1 A1 r1 q1 => by
    obtain ⟨os, e0, q1⟩ := lift_st q1
    have e1 := atL_eq e0
    obtain ⟨v, fq, h1, h2, _, _, _⟩ := A1.poke e1
    cases h2 with
    | @lst a vs _ fq ha ho =>
      refine ⟨_, h1, tx_st A1 q1 fun k e3 w2 G2 H2 s2 t2 A2 r2 q2 => ?_⟩
      cases k with
      | int k =>
        obtain ⟨j, ej, q3⟩ := lift_st q2
        obtain ⟨v, fq, h1', h2, n, hin, hpk⟩ := A2.poke e1
        rw [h1] at h1'
        cases h1'
        cases h2 with
        | @lst _ vs _ fq ha ho =>
          have hlen := ho.length
          refine ⟨a, vs, k, j, rfl, r2.intH, ha, by rw [hlen]; exact ej, ?_⟩
          have nn := List.nodup_cons.mp n
          have ho2 := ho.upd (p := a) (u := .lst (vs.set j w)) nn.1
          obtain ⟨fr, k1, k2, k3⟩ := ho2.setV j (r1.mono s2) nn.2
          obtain ⟨fp', A3⟩ := hpk List.mem_cons_self (u := .lst (vs.set j w)) rfl (.lst upd_same k1) (List.nodup_cons.mpr ⟨fun z => nn.1 (k3 a z), k2⟩) (fun q hq => by
            rcases List.mem_cons.mp hq with z | z
            · rw [z]; exact List.mem_cons_self
            · exact List.mem_cons_of_mem _ (k3 q z))
          exact q3 σ G2 _ fp' (Same.refl _) A3
      | _ => exact q2.elim
/-! ### freezing -/
def fz (i : Nat) (c : Env) : Env := match c[i]? with
  | some (some o) => c.set i (some (.v o.toD))
  | _ => c
def sFz (i : Nat) (g : Env → Rs) : Env → Rs := fun c => g (fz i c)
theorem Abs.fz {E : Wd} {B : Bs} {G H : Hp} {c : Env} {σ : L2.St} {fp : List Addr} (A : Abs E B G H c σ fp) (nb : ∀ a, ¬ B.br a) (i : Nat) : ∃ G' fp', Same G G' ∧ Abs E B G' H (VS.fz i c) σ fp' := by
  unfold VS.fz
  split
  · rename_i o e
    obtain ⟨v, fq, h1, h2, h3, h4, h5⟩ := A.cells.poke A.nd e
    have fr0 : ∀ p ∈ fq, G p = none ∧ B.H0 p = none := fun p hp => by
      obtain ⟨a1, a2⟩ := A.fresh p (h4 p hp)
      exact ⟨a1, a2.elim id fun z => (nb p z).elim⟩
    let G' : Hp := fun a => if a ∈ fq then H a else G a
    have gin : ∀ a, a ∈ fq → G' a = H a := fun a ha => if_pos ha
    have gout : ∀ a, a ∉ fq → G' a = G a := fun a ha => if_neg ha
    have s : Same G G' := fun a u ha => by
      have hn : a ∉ fq := fun z => by rw [(fr0 a z).1] at ha; cases ha
      rw [gout a hn]; exact ha
    have sl : Same G' H := fun a u ha => by
      by_cases hn : a ∈ fq
      · rw [gin a hn] at ha; exact ha
      · rw [gout a hn] at ha; exact A.fine.le a u ha
    have rp : Rp E G' v o.toD := by
      refine Own.rp (H' := G') (H := H) A.fine.le h2 (fun p hp u e => by rw [gin p hp]; exact e) s
    obtain ⟨fp', k1, k2, k3⟩ := h5 (H' := H) (o' := .v o.toD) (fr := []) s (fun p hp hn u e => e) (.v rp) List.nodup_nil (fun p hp => nomatch hp)
    have k4 : ∀ p ∈ fp', p ∈ fp ∧ G' p = none := fun p hp => by
      obtain ⟨z, w⟩ : p ∈ fp ∧ p ∉ fq := (k3 p hp).elim id fun z => nomatch z
      exact ⟨z, by rw [gout p w]; exact (A.fresh p z).1⟩
    exact ⟨G', fp', s, ⟨A.fine.base, A.fine.there, fun a e1 e2 => by
      by_cases hn : a ∈ fq
      · exact (e1 (fr0 a hn).2).elim
      · rw [gout a hn]; exact A.fine.x a e1 e2, sl, fun a u e k => by
      by_cases hn : a ∈ fq
      · rw [gin a hn]; exact e
      · rw [gout a hn]; exact A.fine.tup a u e k⟩, k1, k2, fun p hp => ⟨(k4 p hp).2, (A.fresh p (k4 p hp).1).2⟩, A.pin⟩
  · exact ⟨G, fp, Same.refl _, A⟩
theorem pxs_fz {st : Stmt} (i : Nat) (h : PXS X W [] st g) : PXS X W [] st (sFz i g) := ps_mono h fun Dn σ H ⟨B, G, c, fp, A, P, q⟩ => by
  obtain ⟨G', fp', s, A'⟩ := A.fz (P.2 rfl) i
  exact ⟨B, G', _, fp', A', P, ResS.grow (r := g (fz i c)) q s⟩
end
end VS

/-! VS: what is walked; for; list comprehensions. -/
namespace VS
open PySem PySem.Spec PyProof.Rows L2

/-- the iterator J yields ds, as long as Hs stands; the items are known in G -/
structure Wk (E : Wd) (J : It) (Hs G : Hp) (ds : List D) : Prop where
  go : ∀ j H, Same Hs H → j < ds.length → J.go j H
  yl : ∀ j H x H', Same Hs H → J.yld j H x H' → H' = H ∧ ∀ d, ds[j]? = some d → Rp E G x d
  st : ∀ j H, Same Hs H → ds.length ≤ j → J.stop j H
/-- what a for (b) or a comprehension walks -/
structure PSrc (X : Cx) (W : WX) (b : Bool) (tg iter : Expr) (wi : TI) (gs : Env → R (List D)) : Prop where
  pi : PI X tg iter wi
  run : ∀ {B : Bs} {G H : Hp} {c : Env} {σ : L2.St} {fp : List Addr} {P : List D → Prop} {R : It → Hp → Prop}, Abs ⟨X.K, X.mg⟩ B G H c σ fp → Res ⟨X.K, X.mg⟩ W B c σ fp G H (gs c) P →
    (∀ ds G1 H1 J, gs c = .ok ds → Same G G1 → Same H H1 → Abs ⟨X.K, X.mg⟩ B G1 H1 c σ fp → Wk ⟨X.K, X.mg⟩ J (vw b G1 H1) G1 ds → P ds → R J H1) → wi σ H R
section
variable {X : Cx} {W : WX} {pn : List Nat} {b b' b2 : Bool} {tg e : Expr} {pos : Pos} {g : Env → Rs}
theorem wk_list {E : Wd} {Hs G : Hp} {a : Addr} {vs : List V} {ds : List D} {K : PySem.W.Frag} (h : SqL K Hs a vs) (r : RpL E G vs ds) : Wk E (Itl K a) Hs G ds := by
  refine ⟨fun j H s hj => ?_, fun j H x H' s y => ⟨y.1, fun d e => ?_⟩, fun j H s hj => ⟨vs, Same.sqL s h, by rw [r.length]; exact hj⟩⟩
  · obtain ⟨v, e1, _⟩ := r.get (List.getElem?_eq_getElem hj)
    exact ⟨vs, v, Same.sqL s h, e1⟩
  · obtain ⟨v, e1, e2⟩ := r.get e
    have := y.2 vs (Same.sqL s h)
    rw [e1] at this
    cases this
    exact e2
theorem wk_tup {E : Wd} {Hs G : Hp} {a : Addr} {vs : List V} {ds : List D} {K : PySem.W.Frag} (h : SqT K Hs a vs) (r : RpL E G vs ds) : Wk E (Itt K a) Hs G ds := by
  refine ⟨fun j H s hj => ?_, fun j H x H' s y => ⟨y.1, fun d e => ?_⟩, fun j H s hj => ⟨vs, Same.sqT s h, by rw [r.length]; exact hj⟩⟩
  · obtain ⟨v, e1, _⟩ := r.get (List.getElem?_eq_getElem hj)
    exact ⟨vs, v, Same.sqT s h, e1⟩
  · obtain ⟨v, e1, e2⟩ := r.get e
    have := y.2 vs (Same.sqT s h)
    rw [e1] at this
    cases this
    exact e2
theorem rangeD_len (lo hi : Int) : (rangeD lo hi).length = (hi - lo).toNat := by simp [rangeD]
theorem wk_rng {E : Wd} {Hs G : Hp} {lo hi : Int} : Wk E (Itr lo (hi - lo).toNat) Hs G (rangeD lo hi) := by
  refine ⟨fun j H s hj => ?_, fun j H x H' s y => ⟨y.1, fun d e => ?_⟩, fun j H s hj => ?_⟩
  · rw [rangeD_len] at hj; exact hj
  · obtain ⟨hj, _⟩ := List.getElem?_eq_some_iff.mp e
    rw [rangeD_len] at hj
    rw [rangeD_at hj] at e
    cases e
    rw [y.2]
    exact .int _
  · rw [rangeD_len] at hj; exact hj
/-- the items of a list, a tuple, a text -/
def asA (b : Bool) : D → Option (List D)
  | .lst ds => if okEl b ds then some ds else none
  | .tup ds => if okEl b ds then some ds else none
  | .str l => if l.length ≤ 16777216 then some (l.map fun x => .str [x]) else none
  | _ => none
def eIt (b : Bool) (ga : Env → R D) : Env → R (List D) := fun c => ga c >>= fun d => lift (asA b d)
def eItR (ga gb : Env → R D) : Env → R (List D) := fun c => ga c >>= fun d => lift (asI d) >>= fun lo => gb c >>= fun d2 => lift (asI d2) >>= fun hi => .ok (rangeD lo hi)
theorem wk_str {E : Wd} {Hs G : Hp} (l : List Nat) : Wk E (Its (S l)) Hs G (l.map fun x => .str [x]) := by
  refine ⟨fun j H s hj => ?_, fun j H x H' s y => ⟨y.1, fun d e => ?_⟩, fun j H s hj => ?_⟩
  · show j < l.toArray.size
    simpa using hj
  · obtain ⟨z, h1, h2⟩ := y.2
    have h1 : l.toArray[j]? = some z := h1
    rw [List.getElem?_map] at e
    have h1 : l[j]? = some z := by simpa using h1
    rw [h1] at e
    cases e
    rw [h2]
    exact .str [z]
  · show l.toArray.size ≤ j
    simpa using hj
theorem Rp.lstV {E : Wd} {G : Hp} {v : V} {ds : List D} (r : Rp E G v (.lst ds)) : ∃ a vs, v = .ref a ∧ SqL E.K G a vs ∧ RpL E G vs ds := by
  cases r with
  | lst h r => exact ⟨_, _, rfl, h, r⟩
theorem pi_mono {tg e : Expr} {t t' : TI} (h : PI X tg e t) (k : ∀ σ H R, t' σ H R → t σ H R) : PI X tg e t' := ⟨fun pins s σ H R I q => h.run pins s σ H R I (k σ H R q)⟩
def iAny (K : PySem.W.Frag) (te : TE) : TI := fun σ H R => iList K te σ H R ∨ iTup K te σ H R ∨ iStr te σ H R
theorem pi_any {te : TE} (h : PE X e te) : PI X tg e (iAny X.K te) := ⟨fun pins s σ H R I q => by
  rcases q with q | q | q
  · exact (pi_list h).run pins s σ H R I q
  · exact (pi_tup h).run pins s σ H R I q
  · exact (pi_str h).run pins s σ H R I q⟩
theorem src_any {ga : Env → R D} (h : PX X W b e ga) : PSrc X W b tg e (iAny X.K (TX ⟨X.K, X.mg⟩ W b ga)) (eIt b ga) :=
  ⟨pi_any h, fun {B G H c σ fp P R} A q k => by
    cases e0 : ga c with
    | stuck => unfold eIt at q; rw [e0] at q; exact q.elim
    | ex x => exact .inl (tx_seq A q fun d e => by rw [e0] at e; cases e)
    | ok d0 =>
      have eq : eIt b ga c = lift (asA b d0) := by unfold eIt; rw [e0]; rfl
      have step : ∀ ds, asA b d0 = some ds → eIt b ga c = .ok ds := fun ds h => by rw [eq, h]; rfl
      cases d0 with
      | lst ds =>
        refine .inl (tx_seq A q fun d e v G1 H1 s1 t1 A1 r1 q1 => ?_)
        rw [e0] at e
        cases e
        obtain ⟨es, e2, p⟩ := Res.lift q1
        have e3 := e2
        unfold asA at e2
        simp only at e2
        split at e2
        · rename_i hk
          cases e2
          obtain ⟨a, vs, rfl, h0, r2⟩ := r1.lstV
          have h1 := Same.sqL (same_vw b A1.fine.le) h0
          exact ⟨a, rfl, ⟨vs, h1⟩, k _ G1 H1 _ (step _ e3) s1 t1 A1 (wk_list h0 (r2.known A1.fine hk)) p⟩
        · cases e2
      | tup ds =>
        refine .inr (.inl (tx_seq A q fun d e v G1 H1 s1 t1 A1 r1 q1 => ?_))
        rw [e0] at e
        cases e
        obtain ⟨es, e2, p⟩ := Res.lift q1
        have e3 := e2
        unfold asA at e2
        simp only at e2
        split at e2
        · rename_i hk
          cases e2
          obtain ⟨a, vs, rfl, h1, r2⟩ := r1.tupH A1.fine.le
          have h0 : SqT X.K (vw b G1 H1) a vs := by
            cases b with
            | true => exact known_tup A1.fine h1
            | false => exact h1
          exact ⟨a, rfl, ⟨vs, h1⟩, k _ G1 H1 _ (step _ e3) s1 t1 A1 (wk_tup h0 (r2.known A1.fine hk)) p⟩
        · cases e2
      | str l =>
        refine .inr (.inr (tx_seq A q fun d e v G1 H1 s1 t1 A1 r1 q1 => ?_))
        rw [e0] at e
        cases e
        obtain ⟨es, e2, p⟩ := Res.lift q1
        have e3 := e2
        unfold asA at e2
        simp only at e2
        split at e2
        · cases e2
          exact ⟨S l, r1.strH, k _ G1 H1 _ (step _ e3) s1 t1 A1 (wk_str l) p⟩
        · cases e2
      | _ => rw [eq] at q; exact q.elim⟩
theorem src_r1 {a : Expr} {ga : Env → R D} {p2 p3 : Pos} (hm : X.mg "range" = none) (h : PX X W b a ga) (hg : Gl X "range" := by rfl) (hs0 : starEach [a] X.env = [(false, eval a X.env)] := by rfl) :
    PSrc X W b' tg (.Call (.Name "range" p2) [a] [] p3) (iRng1 (tCons (TX ⟨X.K, X.mg⟩ W b ga) tNil)) (eItR (eC (.int 0)) ga) :=
  ⟨pi_range1 hg hm (pa_cons h pa_nil hs0) hs0, fun {B G H c σ fp P R} A q k => by
    have q0 : Res ⟨X.K, X.mg⟩ W B c σ fp G H (ga c >>= fun d2 => lift (asI d2) >>= fun hi => .ok (rangeD 0 hi)) P := q
    refine tx_seq A q0 fun d e v G1 H1 s1 t1 A1 r1 q1 => ?_
    cases hd : asI d with
    | none => rw [hd] at q1; exact q1.elim
    | some hi =>
      rw [hd] at q1
      obtain ⟨rfl, h1, h2⟩ := asI_rp r1 hd
      have w : Wk ⟨X.K, X.mg⟩ (Itr 0 hi.toNat) (vw b' G1 H1) G1 (rangeD 0 hi) := by have z := wk_rng (E := ⟨X.K, X.mg⟩) (Hs := vw b' G1 H1) (G := G1) (lo := 0) (hi := hi); simpa using z
      exact ⟨hi, rfl, h1, h2, k _ G1 H1 _ (by show (ga c >>= fun d2 => lift (asI d2) >>= fun hi => VS.R.ok (rangeD 0 hi)) = _; rw [e]; show (lift (asI d) >>= _) = _; rw [hd]; rfl) s1 t1 A1 w q1⟩⟩
theorem src_r2 {a a2 : Expr} {ga gb : Env → R D} {p2 p3 : Pos} (hm : X.mg "range" = none) (h : PX X W b a ga) (h2 : PX X W b2 a2 gb) (hg : Gl X "range" := by rfl) (hs0 : starEach [a, a2] X.env = [(false, eval a X.env), (false, eval a2 X.env)] := by rfl) (hs1 : starEach [a2] X.env = [(false, eval a2 X.env)] := by rfl)
    (hs2 : starEach [a, a2] X.env = (false, eval a X.env) :: starEach [a2] X.env := by rfl) :
    PSrc X W b' tg (.Call (.Name "range" p2) [a, a2] [] p3) (iRng2 (tCons (TX ⟨X.K, X.mg⟩ W b ga) (tCons (TX ⟨X.K, X.mg⟩ W b2 gb) tNil))) (eItR ga gb) :=
  ⟨pi_range2 hg hm (pa_cons h (pa_cons h2 pa_nil hs1) hs2) hs0 hs1, fun {B G H c σ fp P R} A q k => by
    refine tx_seq A q fun d e v G1 H1 s1 t1 A1 r1 q1 => ?_
    cases hd : asI d with
    | none => rw [hd] at q1; exact q1.elim
    | some lo =>
      rw [hd] at q1
      obtain ⟨rfl, h1, h2⟩ := asI_rp r1 hd
      refine tx_seq A1 q1 fun d2 e2 v2 G2 H2 s2 t2 A2 r2 q2 => ?_
      cases hd2 : asI d2 with
      | none => rw [hd2] at q2; exact q2.elim
      | some hi =>
        rw [hd2] at q2
        obtain ⟨rfl, h3, h4⟩ := asI_rp r2 hd2
        exact ⟨lo, hi, rfl, ⟨h1, h2, h3, h4⟩, k _ G2 H2 _ (by unfold eItR; rw [e]; simp only [ok_bind, hd, lift_some, e2, hd2]) (s1.trans s2) (t1.trans t2) A2 wk_rng q2⟩⟩
theorem st_res {E : Wd} {B : Bs} {c : Env} {σ : L2.St} {fp : List Addr} {G H : Hp} {Dn : Ends} {α : Type} {r : R α} {f : α → Rs} (h : ResS E W B G H (r.st c f) Dn) : Res E W B c σ fp G H r (fun a => r = .ok a ∧ ∀ G1 H1, Same G G1 → ResS E W B G1 H1 (f a) Dn) := by
  cases r with
  | ok a => exact ⟨rfl, fun G1 H1 s => ResS.grow (r := f a) h s⟩
  | ex e => exact fun cl dx G' H' s t A x => h cl dx σ G' H' fp s A x
  | stuck => exact h
def sFor (i : Nat) (gs : Env → R (List D)) (g : Env → Rs) : Env → Rs := fun c => (gs c).st c fun ds => forL i g ds c
theorem pxs_for {x : Str} {p : Pos} {body : List Stmt} {wi : TI} {gs : Env → R (List D)} (i : Nat) (hp : PassesOwn (model X.prog X.w) X.A X.env X.xe) (hc : X.calm = true) (ha : PSrc X W true (.Name x p) e wi gs) (hb : PXSs X W pn body g) (nd : X.N.Nodup) (hN : X.N[i]? = some x := by rfl) (hl : Loc X.env.scope x := by first | exact Or.inl rfl | exact Or.inr rfl) (hi : i ∉ pn := by decide)
    (hf : X.fn x = true ∨ X.env.scope.names.lookup x = some .local := by first | exact .inl rfl | exact .inr rfl) (hs : ∀ y, foldedSetIterable e X.env y = pure y := by intro _; rfl) : PXS X W pn (.For (.Name x p) e body [] pos) (sFor i gs g) :=
  ps_mono (ps_for hp hc ha.pi (pg_name (i := i) nd hN hl) hb hs) fun Dn σ H ⟨B, G, c, fp, A, P, q⟩ => ha.run A (st_res q) fun ds G1 H1 J e s1 t1 A1 w ⟨_, q1⟩ => by
    refine ⟨fun j m σ H => m = ds.length - j ∧ j ≤ ds.length ∧ ∃ G' c' fp', Same G1 G' ∧ Abs ⟨X.K, X.mg⟩ B G' H c' σ fp' ∧ ResS ⟨X.K, X.mg⟩ W B G' H (forL i g (ds.drop j) c') Dn, ⟨ds.length, by simp, Nat.zero_le _, G1, c, fp, Same.refl _, A1, q1 G1 H1 s1⟩, ?_⟩
    rintro j m σ' H' ⟨rfl, hj, G', c', fp', s', A', q'⟩
    by_cases hlt : j < ds.length
    · refine .inr ⟨w.go j H' (s'.trans A'.fine.le) hlt, fun σ2 H2 => ∃ G2 c2 fp2, Same G1 G2 ∧ Abs ⟨X.K, X.mg⟩ B G2 H2 c2 σ2 fp2 ∧ ResS ⟨X.K, X.mg⟩ W B G2 H2 (forL i g (ds.drop (j + 1)) c2) Dn, fun σ2 H2 h2 => ⟨_, by omega, rfl, hlt, h2⟩, fun x H3 y => ?_⟩
      obtain ⟨rfl, hr⟩ := w.yl j H' x H3 (s'.trans A'.fine.le) y
      have hd := List.getElem?_eq_getElem hlt
      rw [drop_cons hd] at q'
      exact for_turn A' P hi ((hr _ hd).mono s') q' fun σ2 G2 H2 c2 fp2 s2 A2 q2 => ⟨G2, c2, fp2, s'.trans s2, A2, q2⟩
    · have e : j = ds.length := by omega
      subst e
      rw [List.drop_length] at q'
      exact .inl ⟨w.st _ H' (s'.trans A'.fine.le) (Nat.le_refl _), q' σ' G' H' fp' (Same.refl _) A'⟩

/-! ### list comprehensions -/
def noX {α : Type} : R α → R α
  | .ok a => .ok a
  | _ => .stuck
@[simp] theorem noX_ok {α : Type} (a : α) : noX (.ok a) = R.ok a := rfl
@[simp] theorem noX_stuck {α : Type} : noX (.stuck : R α) = .stuck := rfl
@[simp] theorem noX_ex {α : Type} (e : D) : noX (.ex e : R α) = .stuck := rfl
def compL (t : Env → R Bool) (g : Env → R D) (i : Nat) (c : Env) : List D → R (List D)
  | [] => .ok []
  | d :: ds => noX (t (c.set i (some (.v d)))) >>= fun b => if b then noX (g (c.set i (some (.v d)))) >>= fun x => compL t g i c ds >>= fun xs => .ok (x :: xs) else compL t g i c ds
def eLcs (gs : Env → R (List D)) (t : Env → R Bool) (g : Env → R D) (i : Nat) : Env → R (List D) := fun c => gs c >>= fun ds => compL t g i c ds >>= fun es => if es.length ≤ 16777216 then .ok es else .stuck
def eLc (gs : Env → R (List D)) (t : Env → R Bool) (g : Env → R D) (i : Nat) : Env → R D := fun c => eLcs gs t g i c >>= fun es => .ok (.lst es)
def eLcO (gs : Env → R (List D)) (t : Env → R Bool) (g : Env → R D) (i : Nat) : Env → R O := fun c => eLcs gs t g i c >>= fun es => .ok (.lst (es.map O.v))
def tYes' : Env → R Bool := fun _ => .ok true
abbrev W0 : WX := fun _ _ _ _ => False
/-- a block's tests -/
def PXTs (X : Cx) (ifs : List Expr) (t : Env → R Bool) : Prop := PTs X ifs (TXT ⟨X.K, X.mg⟩ W0 t)
theorem pts_mono {X : Cx} {ifs : List Expr} {t t' : TT} (h : PTs X ifs t) (k : ∀ σ H Q, t' σ H Q → t σ H Q) : PTs X ifs t' := ⟨fun pins s σ H Q I q => h.run pins s σ H Q I (k σ H Q q)⟩
theorem pxts_nil {X : Cx} : PXTs X [] tYes' := pts_mono pts_nil fun σ H Q ⟨B, G, c, fp, A, q⟩ => q G H (Same.refl _) (Same.refl _) A
theorem pxts_one {X : Cx} {c : Expr} {t : Env → R Bool} (h : PXT X W0 c t) : PXTs X [c] t := pts_one h
end
section
variable {E : Wd} {B : Bs} {c : Env} {σ : L2.St} {fp : List Addr} {G G' H H' : Hp}
/-- a block begins -/
theorem Abs.enter {i : Nat} {v : V} {d : D} (A : Abs E B G H c σ fp) (rv : Rp E G v d) : ∃ B' fr, Abs E B' G H (c.set i (some (.v d))) (σ.set i (some v)) fr ∧
    ∀ G' H' c2 σ2 fp2, Same G G' → Same H H' → Abs E B' G' H' c2 σ2 fp2 → Abs E B G' H' c σ fp ∧ ∀ a, H a ≠ none → G a = none → G' a = none := by
  obtain ⟨fr, h1, h2, h3⟩ := A.cells.set i (Own.v rv) A.nd List.nodup_nil fun p hp => nomatch hp
  have sub : ∀ p ∈ fr, p ∈ fp := fun p hp => (h3 p hp).elim id fun z => nomatch z
  refine ⟨⟨H, G, [], fun a => a ∈ fr⟩, fr, ⟨⟨fun a o e _ => e, fun a e => e, fun a _ e => e, A.fine.le, A.fine.tup⟩, h1, h2, fun p hp => ⟨(A.fresh p (sub p hp)).1, .inr hp⟩, fun q hq => nomatch hq⟩, fun G' H' c2 σ2 fp2 s t A2 => ?_⟩
  have gr : ∀ a, H a ≠ none → G a = none → G' a = none := A2.fine.x
  refine ⟨⟨⟨fun a o e n => t a o (A.fine.base a o e n), fun a e => A.fine.there a (t.free e), fun a h1 h2 => ?_, A2.fine.le, A2.fine.tup⟩, A.cells.keep s (fun p _ u e => t p u e), A.nd, fun p hp => ⟨gr p (A.cells.there p hp) (A.fresh p hp).1, (A.fresh p hp).2⟩, A.pin⟩, gr⟩
  exact gr a (fun z => h1 (A.fine.there a z)) (A.fine.x a h1 h2)
/-- a new list that no name owns is written -/
theorem Abs.pokeOut {p : Addr} {u : HO} (A : Abs E B G H c σ fp) (hf : p ∉ fp) (hG : G p = none) (h0 : B.H0 p = none) (hu : isT u = false) : Abs E B G (upd H p u) c σ fp := by
  refine ⟨⟨fun a o e n => ?_, fun a e => ?_, A.fine.x, fun a o e => ?_, fun a o e k => ?_⟩, A.cells.keep (Same.refl _) fun q hq w e => ?_, A.nd, A.fresh, A.pin⟩
  · have ha : a ≠ p := fun z => by subst z; rw [h0] at e; cases e
    rw [upd_ne ha]; exact A.fine.base a o e n
  · by_cases ha : a = p
    · rw [ha]; exact h0
    · rw [upd_ne ha] at e; exact A.fine.there a e
  · have ha : a ≠ p := fun z => by subst z; rw [hG] at e; cases e
    rw [upd_ne ha]; exact A.fine.le a o e
  · by_cases ha : a = p
    · subst ha; rw [upd_same] at e; cases e; rw [hu] at k; cases k
    · rw [upd_ne ha] at e; exact A.fine.tup a o e k
  · have hq' : q ≠ p := fun z => hf (z ▸ hq)
    rw [upd_ne hq']; exact e
/-- it is known from now on -/
theorem Abs.know {p : Addr} {u : HO} (A : Abs E B G H c σ fp) (hf : p ∉ fp) (hG : G p = none) (h0 : B.H0 p = none) (hH : H p = some u) : Abs E B (upd G p u) H c σ fp := by
  refine ⟨⟨A.fine.base, A.fine.there, fun a h1 h2 => ?_, fun a o e => ?_, fun a o e k => ?_⟩, A.cells.keep (same_upd hG) (fun q hq w e => e), A.nd, fun q hq => ⟨?_, (A.fresh q hq).2⟩, A.pin⟩
  · have ha : a ≠ p := fun z => h1 (by rw [z]; exact h0)
    rw [upd_ne ha]; exact A.fine.x a h1 h2
  · by_cases ha : a = p
    · subst ha; rw [upd_same] at e; cases e; exact hH
    · rw [upd_ne ha] at e; exact A.fine.le a o e
  · by_cases ha : a = p
    · subst ha; rw [hH] at e; cases e; exact upd_same
    · rw [upd_ne ha]; exact A.fine.tup a o e k
  · have ha : q ≠ p := fun z => hf (z ▸ hq)
    rw [upd_ne ha]; exact (A.fresh q hq).1
end
/-- what stands between two turns of a comprehension -/
structure LcAt (E : Wd) (B : Bs) (c : Env) (σ : L2.St) (fp : List Addr) (G1 : Hp) (p : Addr) (es : List D) (H : Hp) : Prop where
  ex : ∃ G' vs, Same G1 G' ∧ Abs E B G' H c σ fp ∧ H p = some (.lst vs) ∧ G' p = none ∧ RpL E G' vs es
theorem wipe1 (σ : L2.St) (i : Nat) : wipe σ [i] = σ.set i none := rfl
theorem noX_eq {α : Type} {r : R α} {a : α} (h : noX r = .ok a) : r = .ok a := by
  cases r with
  | ok b => exact h
  | ex e => cases h
  | stuck => cases h
theorem bind_ok_eq {α β : Type} {r : R α} {f : α → R β} {b : β} (h : (r >>= f) = .ok b) : ∃ a, r = .ok a ∧ f a = .ok b := by
  cases r with
  | ok a => exact ⟨a, rfl, h⟩
  | ex e => cases h
  | stuck => cases h
section
variable {X : Cx} {W : WX} {pn : List Nat} {e elt : Expr} {ifs : List Expr} {pos : Pos} {wi : TI} {gs : Env → R (List D)} {t : Env → R Bool} {g : Env → R D} {i : Nat}
theorem tlc_of (K : PySem.W.Frag) (mg : Str → Option Value) (hX : X.K = K) (hmg : X.mg = mg) {tg : Expr} {b : Bool} (ha : PSrc X W b tg e wi gs) {B : Bs} {G H : Hp} {c : Env} {σ : L2.St} {fp : List Addr} {Q : VK} {P : List D → Prop} (A : Abs ⟨X.K, X.mg⟩ B G H c σ fp) (q : Res ⟨X.K, X.mg⟩ W B c σ fp G H (eLcs gs t g i c) P)
    (k : ∀ es G1 H1 p, Same G G1 → Same H H1 → H p = none → p ∉ fp → B.H0 p = none → LcAt ⟨X.K, X.mg⟩ B c σ fp G1 p es H1 → P es → Q (.ref p) H1) : tLc wi (gName i) (TXT ⟨X.K, X.mg⟩ W0 t) (TX ⟨X.K, X.mg⟩ W0 true g) [i] σ H Q := by
  refine ha.run (P := fun ds => Res ⟨X.K, X.mg⟩ W B c σ fp G H (compL t g i c ds >>= fun es => if es.length ≤ 16777216 then R.ok es else .stuck) P) A ?_ fun ds G1 H1 J eds s1 t1 A1 w q1 => ?_
  · unfold eLcs at q
    cases h : gs c with
    | ok ds => rw [h] at q; exact q
    | ex x => rw [h] at q; exact q
    | stuck => rw [h] at q; exact q
  · intro p hp
    cases hes : compL t g i c ds with
    | stuck => rw [hes] at q1; exact q1.elim
    | ex x =>
      exfalso
      have : ∀ ds x, compL t g i c ds ≠ .ex x := by
        intro ds
        induction ds with
        | nil => intro x z; cases z
        | cons d ds ih =>
          intro x z
          rw [compL] at z
          cases ht : t (c.set i (some (.v d))) with
          | ok b =>
            rw [ht] at z
            simp only [noX_ok, ok_bind] at z
            split at z
            · cases hg : g (c.set i (some (.v d))) with
              | ok y =>
                rw [hg] at z
                simp only [noX_ok, ok_bind] at z
                cases hc : compL t g i c ds with
                | ok ys => rw [hc] at z; cases z
                | ex y => exact ih y hc
                | stuck => rw [hc] at z; cases z
              | ex y => rw [hg] at z; cases z
              | stuck => rw [hg] at z; cases z
            · exact ih x z
          | ex y => rw [ht] at z; cases z
          | stuck => rw [ht] at z; cases z
      exact this ds x hes
    | ok tot =>
      rw [hes] at q1
      by_cases hl : tot.length ≤ 16777216
      · have q2 : Res ⟨X.K, X.mg⟩ W B c σ fp G H (if tot.length ≤ 16777216 then R.ok tot else .stuck) P := q1
        rw [if_pos hl] at q2
        have pf : p ∉ fp := fun z => A1.cells.there p z hp
        have p0 : B.H0 p = none := A1.fine.there p hp
        refine ⟨fun j m H => m = ds.length - j ∧ j ≤ ds.length ∧ Same H1 (fun a => if a = p then H1 a else H a) ∧ ∃ es rest, LcAt ⟨X.K, X.mg⟩ B c σ fp G1 p es H ∧ compL t g i c (ds.drop j) = .ok rest ∧ es ++ rest = tot,
          ⟨ds.length, by simp, Nat.zero_le _, fun a o e => ?_, [], tot, ⟨G1, [], Same.refl _, A1.newO hp rfl, upd_same, A1.fine.fresh hp, .nil⟩, hes, rfl⟩, ?_⟩
        · have hne : a ≠ p := ne_of_none e hp
          show (if a = p then H1 a else upd H1 p (.lst []) a) = some o
          rw [if_neg hne, upd_ne hne]; exact e
        · rintro j m H2 ⟨rfl, hj, sm, es, rest, ⟨G2, vs, s2, A2, hD, gD, r2⟩, hc, htot⟩
          have ws : Same (vw b G1 H1) H2 := by
            cases b with
            | true => exact s2.trans A2.fine.le
            | false =>
              intro a o e
              have e : H1 a = some o := e
              have z := sm a o e
              have z : (if a = p then H1 a else H2 a) = some o := z
              rw [if_neg (ne_of_none e hp)] at z
              exact z
          by_cases hlt : j < ds.length
          · refine .inr ⟨w.go j H2 ws hlt, fun H' => j + 1 ≤ ds.length ∧ Same H1 (fun a => if a = p then H1 a else H' a) ∧ ∃ es rest, LcAt ⟨X.K, X.mg⟩ B c σ fp G1 p es H' ∧ compL t g i c (ds.drop (j + 1)) = .ok rest ∧ es ++ rest = tot, fun H' ⟨h1, h2, h3⟩ => ⟨_, by omega, rfl, h1, h2, h3⟩, fun x H3 y => ?_⟩
            obtain ⟨rfl, hr⟩ := w.yl j H2 x H3 ws y
            have hd := List.getElem?_eq_getElem hlt
            rw [drop_cons hd, compL] at hc
            obtain ⟨tb, ht, hc⟩ := bind_ok_eq hc
            have ht := noX_eq ht
            have hsig : (wipe σ [i]).set i (some x) = σ.set i (some x) := by rw [wipe1, List.set_set]
            show (fun σ2 H2 => wipe σ2 [i] = wipe σ [i] ∧ _) ((wipe σ [i]).set i (some x)) H3
            rw [hsig]
            refine ⟨by rw [wipe1, wipe1, List.set_set], ?_⟩
            obtain ⟨B', fr, A3, back⟩ := A2.enter (i := i) ((hr _ hd).mono s2)
            refine ⟨B', G2, _, fr, A3, ?_⟩
            rw [ht]
            intro G4 H4 s4 t4 A4
            have smn : ∀ {Hx Hy : Hp}, Same H1 (fun a => if a = p then H1 a else Hx a) → Same Hx Hy → Same H1 (fun a => if a = p then H1 a else Hy a) := fun {Hx Hy} h1 h2 a o e => by
              have z := h1 a o e
              by_cases hap : a = p
              · show (if a = p then H1 a else Hy a) = some o
                rw [if_pos hap]; exact e
              · have z : (if a = p then H1 a else Hx a) = some o := z
                rw [if_neg hap] at z
                show (if a = p then H1 a else Hy a) = some o
                rw [if_neg hap]; exact h2 a o z
            cases tb with
            | false =>
              rw [if_neg (by decide)]
              have hc : compL t g i c (ds.drop (j + 1)) = .ok rest := hc
              obtain ⟨A5, gr⟩ := back G4 H4 _ _ _ s4 t4 A4
              exact ⟨hlt, smn sm t4, es, rest, ⟨G4, vs, s2.trans s4, A5, t4 p _ hD, gr p (by rw [hD]; exact fun z => nomatch z) gD, r2.mono s4⟩, hc, htot⟩
            | true =>
              rw [if_pos rfl]
              have hc : (noX (g (c.set i (some (.v ds[j])))) >>= fun x => compL t g i c (ds.drop (j + 1)) >>= fun xs => R.ok (x :: xs)) = .ok rest := hc
              obtain ⟨x1, hg, hc⟩ := bind_ok_eq hc
              have hg := noX_eq hg
              obtain ⟨xs, hxs, hc⟩ := bind_ok_eq hc
              cases hc
              refine ⟨B', G4, _, fr, A4, ?_⟩
              rw [hg]
              intro v5 G5 H5 s5 t5 A5 r5
              obtain ⟨A6, gr⟩ := back G5 H5 _ _ _ (s4.trans s5) (t4.trans t5) A5
              have hD5 : H5 p = some (.lst vs) := t5 p _ (t4 p _ hD)
              have g5 : G5 p = none := gr p (by rw [hD]; exact fun z => nomatch z) gD
              have hvl : vs.length = es.length := r2.length
              have hle : es.length < tot.length := by rw [← htot]; simp
              refine ⟨vs, hD5, by rw [hvl, sizeLine_eq]; omega, hlt, fun a o e => ?_, es ++ [x1], xs, ⟨G5, vs ++ [v5], s2.trans (s4.trans s5), A6.pokeOut pf g5 p0 rfl, upd_same, g5, (r2.mono (s4.trans s5)).append (.cons r5 .nil)⟩, hxs, by rw [← htot]; simp⟩
              have z := smn (smn sm t4) t5 a o e
              by_cases hap : a = p
              · show (if a = p then H1 a else _) = some o
                rw [if_pos hap]; exact e
              · have z : (if a = p then H1 a else H5 a) = some o := z
                rw [if_neg hap] at z
                show (if a = p then H1 a else upd H5 p _ a) = some o
                rw [if_neg hap, upd_ne hap]; exact z
          · have ej : j = ds.length := by omega
            subst ej
            rw [List.drop_length] at hc
            cases hc
            rw [List.append_nil] at htot
            subst htot
            have smH : Same H H2 := fun a o e => by
              have e1 := t1 a o e
              have z := sm a o e1
              have z : (if a = p then H1 a else H2 a) = some o := z
              rw [if_neg (ne_of_none e1 hp)] at z
              exact z
            exact .inl ⟨w.st _ H2 ws (Nat.le_refl _), k es G1 H2 p s1 smH (t1.free hp) pf p0 ⟨G2, vs, s2, A2, hD, gD, r2⟩ q2⟩
      · have q2 : Res ⟨X.K, X.mg⟩ W B c σ fp G H (if tot.length ≤ 16777216 then R.ok tot else .stuck) P := q1
        rw [if_neg hl] at q2
        exact q2.elim

theorem lc_fin {B : Bs} {c : Env} {σ : L2.St} {fp : List Addr} {G G1 H H1 : Hp} {Q : VK} {p : Addr} {es : List D} (s : Same G G1) (t : Same H H1) (pf : p ∉ fp) (p0 : B.H0 p = none) (l : LcAt ⟨X.K, X.mg⟩ B c σ fp G1 p es H1) (q : Post ⟨X.K, X.mg⟩ B c σ fp G H true Q (.lst es)) : Q (.ref p) H1 := by
  obtain ⟨G2, vs, s2, A2, hD, gD, r2⟩ := l
  have A3 := A2.know pf gD p0 hD
  exact q _ _ _ (s.trans (s2.trans (same_upd gD))) t A3 (.lst (.inl (.inl upd_same)) (r2.mono (same_upd gD)))
theorem lc_finO {B : Bs} {c : Env} {σ : L2.St} {fp : List Addr} {G G1 H H1 : Hp} {Q : VK} {p : Addr} {es : List D} (s : Same G G1) (t : Same H H1) (hp : H p = none) (l : LcAt ⟨X.K, X.mg⟩ B c σ fp G1 p es H1) (q : PostF ⟨X.K, X.mg⟩ B c σ fp G H Q (.lst (es.map O.v))) : Q (.ref p) H1 := by
  obtain ⟨G2, vs, s2, A2, hD, gD, r2⟩ := l
  refine q _ _ _ [p] (s.trans s2) t A2 (.lst hD (ownL_v r2)) (by simp) fun a ha => ?_
  have : a = p := by simpa using ha
  subst this
  exact ⟨hp, gD⟩
theorem tlc_v {tg : Expr} {b : Bool} (ha : PSrc X W b tg e wi gs) : ∀ σ H Q, TX ⟨X.K, X.mg⟩ W true (eLc gs t g i) σ H Q → tLc wi (gName i) (TXT ⟨X.K, X.mg⟩ W0 t) (TX ⟨X.K, X.mg⟩ W0 true g) [i] σ H Q := fun σ H Q ⟨B, G, c, fp, A, q⟩ => by
  refine tlc_of X.K X.mg rfl rfl ha A (P := fun es => Post ⟨X.K, X.mg⟩ B c σ fp G H true Q (.lst es)) ?_ fun es G1 H1 p s1 t1 hp pf p0 l q1 => lc_fin s1 t1 pf p0 l q1
  unfold eLc at q
  cases h : eLcs gs t g i c with
  | ok es => rw [h] at q; exact q
  | ex x => rw [h] at q; exact q
  | stuck => rw [h] at q; exact q
theorem tlc_o {tg : Expr} {b : Bool} (ha : PSrc X W b tg e wi gs) : ∀ σ H Q, TF ⟨X.K, X.mg⟩ W (eLcO gs t g i) σ H Q → tLc wi (gName i) (TXT ⟨X.K, X.mg⟩ W0 t) (TX ⟨X.K, X.mg⟩ W0 true g) [i] σ H Q := fun σ H Q ⟨B, G, c, fp, A, q⟩ => by
  refine tlc_of X.K X.mg rfl rfl ha A (P := fun es => PostF ⟨X.K, X.mg⟩ B c σ fp G H Q (.lst (es.map O.v))) ?_ fun es G1 H1 p s1 t1 hp pf p0 l q1 => lc_finO s1 t1 hp l q1
  unfold eLcO at q
  cases h : eLcs gs t g i c with
  | ok es => rw [h] at q; exact q
  | ex x => rw [h] at q; exact q
  | stuck => rw [h] at q; exact q
section
variable {x y : Str} {p py : Pos} {scope : Scope} {spos : Pos}
theorem px_lc (i : Nat) (hc : X.calm = true) (hN : X.N.Nodup) {b : Bool} (ha : PSrc X W b (.Name x p) e wi gs) (ok : BlkOk X.N X.env.scope scope [(x, i)])
    (hg : ∀ (s : Shared) (H : Hp) (C : Addr) (cl : List (Str × Addr)) (fp : List Addr), PG (X.blk s H scope (compEnvC scope cl C X.env) fp) (.Name x p) (gName i)) (ht : ∀ (s : Shared) (H : Hp) (C : Addr) (cl : List (Str × Addr)) (fp : List Addr), PXTs (X.blk s H scope (compEnvC scope cl C X.env) fp) ifs t)
    (he : ∀ (s : Shared) (H : Hp) (C : Addr) (cl : List (Str × Addr)) (fp : List Addr), PX (X.blk s H scope (compEnvC scope cl C X.env) fp) W0 true elt g) (hs : ∀ z, foldedSetIterable e X.env z = pure z := by intro _; rfl) :
    PX X W true (.ListComp elt [⟨.Name x p, e, ifs, 0⟩] scope pos) (eLc gs t g i) := pe_mono (pe_lc (own := [(x, i)]) (tt := TXT ⟨X.K, X.mg⟩ W0 t) (te := TX ⟨X.K, X.mg⟩ W0 true g) hc hN ha.pi ok hg ht he hs) (tlc_v ha)
theorem pf_lc (i : Nat) (hc : X.calm = true) (hN : X.N.Nodup) {b : Bool} (ha : PSrc X W b (.Name x p) e wi gs) (ok : BlkOk X.N X.env.scope scope [(x, i)])
    (hg : ∀ (s : Shared) (H : Hp) (C : Addr) (cl : List (Str × Addr)) (fp : List Addr), PG (X.blk s H scope (compEnvC scope cl C X.env) fp) (.Name x p) (gName i)) (ht : ∀ (s : Shared) (H : Hp) (C : Addr) (cl : List (Str × Addr)) (fp : List Addr), PXTs (X.blk s H scope (compEnvC scope cl C X.env) fp) ifs t)
    (he : ∀ (s : Shared) (H : Hp) (C : Addr) (cl : List (Str × Addr)) (fp : List Addr), PX (X.blk s H scope (compEnvC scope cl C X.env) fp) W0 true elt g) (hs : ∀ z, foldedSetIterable e X.env z = pure z := by intro _; rfl) :
    PF X W (.ListComp elt [⟨.Name x p, e, ifs, 0⟩] scope pos) (eLcO gs t g i) := pe_mono (pe_lc (own := [(x, i)]) (tt := TXT ⟨X.K, X.mg⟩ W0 t) (te := TX ⟨X.K, X.mg⟩ W0 true g) hc hN ha.pi ok hg ht he hs) (tlc_o ha)
/-- y = [..] -/
theorem pxs_setLc (k i : Nat) (hc : X.calm = true) (hN : X.N.Nodup) (hsw : swapsWith (.ListComp elt [⟨.Name x p, e, ifs, 0⟩] scope pos) (some (.Name y py)) spos.line X.env = pure true) {b : Bool} (ha : PSrc X W b (.Name x p) e wi gs) (ok : BlkOk X.N X.env.scope scope [(x, i)])
    (hg : ∀ (s : Shared) (H : Hp) (C : Addr) (cl : List (Str × Addr)) (fp : List Addr), PG (X.blk s H scope (compEnvC scope cl C X.env) fp) (.Name x p) (gName i)) (ht : ∀ (s : Shared) (H : Hp) (C : Addr) (cl : List (Str × Addr)) (fp : List Addr), PXTs (X.blk s H scope (compEnvC scope cl C X.env) fp) ifs t)
    (he : ∀ (s : Shared) (H : Hp) (C : Addr) (cl : List (Str × Addr)) (fp : List Addr), PX (X.blk s H scope (compEnvC scope cl C X.env) fp) W0 true elt g) (hy : X.N[k]? = some y := by rfl) (hyl : X.env.scope.names.lookup y = some .local := by rfl) (hi : k ∉ pn := by decide) (hs : ∀ z, foldedSetIterable e X.env z = pure z := by intro _; rfl) :
    PXS X W pn (.Assign [.Name y py] (.ListComp elt [⟨.Name x p, e, ifs, 0⟩] scope pos) spos) (sSet k (eLc gs t g i)) :=
  ps_mono (ps_setLc (own := [(x, i)]) (tt := TXT ⟨X.K, X.mg⟩ W0 t) (te := TX ⟨X.K, X.mg⟩ W0 true g) hc hN hy hyl hsw ha.pi ok hg ht he hs) fun Dn σ H ⟨B, G, c, fp, A, P, q⟩ => tlc_v ha σ H _ (tx_st A q fun d e v G1 H1 s1 t1 A1 r1 q1 => by
    obtain ⟨fr, A2⟩ := A1.setV (i := k) r1 (P.ne hi)
    exact q1 _ G1 H1 fr (Same.refl _) A2)
theorem pxs_setLcO (k i : Nat) (hc : X.calm = true) (hN : X.N.Nodup) (hsw : swapsWith (.ListComp elt [⟨.Name x p, e, ifs, 0⟩] scope pos) (some (.Name y py)) spos.line X.env = pure true) {b : Bool} (ha : PSrc X W b (.Name x p) e wi gs) (ok : BlkOk X.N X.env.scope scope [(x, i)])
    (hg : ∀ (s : Shared) (H : Hp) (C : Addr) (cl : List (Str × Addr)) (fp : List Addr), PG (X.blk s H scope (compEnvC scope cl C X.env) fp) (.Name x p) (gName i)) (ht : ∀ (s : Shared) (H : Hp) (C : Addr) (cl : List (Str × Addr)) (fp : List Addr), PXTs (X.blk s H scope (compEnvC scope cl C X.env) fp) ifs t)
    (he : ∀ (s : Shared) (H : Hp) (C : Addr) (cl : List (Str × Addr)) (fp : List Addr), PX (X.blk s H scope (compEnvC scope cl C X.env) fp) W0 true elt g) (hy : X.N[k]? = some y := by rfl) (hyl : X.env.scope.names.lookup y = some .local := by rfl) (hi : k ∉ pn := by decide) (hs : ∀ z, foldedSetIterable e X.env z = pure z := by intro _; rfl) :
    PXS X W pn (.Assign [.Name y py] (.ListComp elt [⟨.Name x p, e, ifs, 0⟩] scope pos) spos) (sSetO k (eLcO gs t g i)) :=
  ps_mono (ps_setLc (own := [(x, i)]) (tt := TXT ⟨X.K, X.mg⟩ W0 t) (te := TX ⟨X.K, X.mg⟩ W0 true g) hc hN hy hyl hsw ha.pi ok hg ht he hs) fun Dn σ H ⟨B, G, c, fp, A, P, q⟩ => tlc_o ha σ H _ (tf_st A q fun o e v G1 H1 fq s1 t1 A1 w n d q1 => by
    obtain ⟨fr, A2⟩ := set_fresh A1 (A.cells.there) A.fine.there w n d P hi
    exact q1 _ G1 H1 fr (Same.refl _) A2)
end
end
end VS

/-! VS: defs, calls, the law's end. -/
namespace VS
open PySem PySem.Spec PyProof.Rows L2

/-- a def's run: n names -/
def runF (n : Nat) (body : Env → Rs) (ds : List D) : R D :=
  match body (ds.map (fun d => some (O.v d)) ++ List.replicate (n - ds.length) none) with
  | .ok (.rt d) _ => .ok d
  | .ok .nx _ => .ok .non
  | .ex e _ => .ex e
  | _ => .stuck
def spM (E : Wd) (n : Nat) (m : List D → R D) : Sp := fun vs H Q Ex => ∃ G ds, vs.length = n ∧ Same G H ∧ (∀ a u, H a = some u → isT u = true → G a = some u) ∧ RpL E G vs ds ∧
  match m ds with
  | .ok d => ∀ v G' H', Same G G' → Same G' H' → Same H H' → (∀ a, H a ≠ none → G a = none → G' a = none) → (∀ a u, H' a = some u → isT u = true → G' a = some u) → Rp E G' v d → Q v H'
  | _ => False
abbrev FnM (P : Program) (w : World) (K : PySem.W.Frag) (mg : Str → Option Value) (base : Heap) (k : Nat) (f : Addr) (fd : FuncData) (ps : List Str) (m : List D → R D) : Prop := FnOk P w K mg base CX0 k f fd ps (spM ⟨K, mg⟩ ps.length m)
section
variable {E : Wd} {B : Bs} {G G' H H' : Hp} {c : Env} {σ : L2.St} {fp : List Addr}
theorem cells_none : ∀ (k : Nat), Cells E G H (List.replicate k none) (List.replicate k none) []
  | 0 => .nil
  | k + 1 => by
    rw [List.replicate_succ, List.replicate_succ]
    exact .no (cells_none k)
theorem cells_start (k : Nat) : ∀ {vs : List V} {ds : List D}, RpL E G vs ds → Cells E G H (ds.map (fun d => some (O.v d)) ++ List.replicate k none) (vs.map some ++ List.replicate k none) []
  | _, [], r => by cases r; exact cells_none k
  | _, d :: ds, r => by
    cases r with
    | cons h r => exact Cells.yes (fp := []) (fq := []) (.v h) (cells_start k r)
/-- behind a call: all that was known or owned stays -/
theorem Abs.call (A : Abs E B G H c σ fp) (s : Same G G') (t : Same H H') (l : Same G' H') (gr : ∀ a, H a ≠ none → G a = none → G' a = none) (tp : ∀ a u, H' a = some u → isT u = true → G' a = some u) : Abs E B G' H' c σ fp :=
  ⟨⟨fun a o e n => t a o (A.fine.base a o e n), fun a e => A.fine.there a (t.free e), fun a h1 h2 => gr a (fun z => h1 (A.fine.there a z)) (A.fine.x a h1 h2), l, tp⟩, A.cells.keep s (fun p _ u e => t p u e), A.nd,
    fun p hp => ⟨gr p (A.cells.there p hp) (A.fresh p hp).1, (A.fresh p hp).2⟩, A.pin⟩
end
section
variable {P : Program} {w : World} {K : PySem.W.Frag} {mg : Str → Option Value} {base : Heap}
/-- a def whose body is worth body -/
theorem fnm_of {x qual : Str} {st : Stmt} {f : Addr} {fd : FuncData} {N ps : List Str} {k : Nat} {body : Env → Rs} (F : Fun K x qual st f fd) (S : FnScope N ps (defScope st))
    (hbody : ∀ (cdv : Value) (A : Around) (outer : List PySem.Env) (s : Shared) (H : Hp) (E : XK), Room k (A.deeper (envOfC qual (defScope st) s.heap.objs.size f cdv)) → PXSs (cxOf CX0 P w K mg base N qual (defScope st) f cdv A outer s H E).nox W0 [] (defBody st) body) :
    FnM P w K mg base (k + 1) f fd ps (runF N.length body) := by
  refine F.ok S (fun vs H Q E h => ?_) (fun cdv A outer s H vs Q E hr h => ?_)
  · obtain ⟨_, _, h, _⟩ := h
    exact h
  · obtain ⟨G, ds, hl, sG, tp, r, q⟩ := h
    refine ⟨_, hbody cdv A outer s H E hr, ?_⟩
    have hvl : vs.length = ds.length := r.length
    refine ⟨⟨H, G, [], fun _ => False⟩, G, ds.map (fun d => some (O.v d)) ++ List.replicate (N.length - ds.length) none, [], ⟨⟨fun a o e _ => e, fun a e => e, fun a _ e => e, sG, tp⟩, ?_, List.nodup_nil, (fun p hp => nomatch hp), (fun q hq => nomatch hq)⟩, ⟨(fun q hq => nomatch hq), fun _ a z => z⟩, ?_⟩
    · unfold L2.start
      rw [hvl]
      exact cells_start _ r
    · unfold runF at q
      cases e : body (ds.map (fun d => some (O.v d)) ++ List.replicate (N.length - ds.length) none) with
      | ok fl c' =>
        rw [e] at q
        cases fl with
        | nx => exact fun σ' G' H' fp' s' A' => q .non G' H' s' A'.fine.le (fun a o e => A'.fine.base a o e fun z => z) A'.fine.x A'.fine.tup .non
        | bk => exact q.elim
        | ct => exact q.elim
        | rt d => exact fun v σ' G' H' fp' s' A' r' => q v G' H' s' A'.fine.le (fun a o e => A'.fine.base a o e fun z => z) A'.fine.x A'.fine.tup r'
      | ex x c' => rw [e] at q; exact q.elim
      | stuck => rw [e] at q; exact q.elim
/-- no word -/
theorem fnm_stuck {x qual : Str} {st : Stmt} {f : Addr} {fd : FuncData} {ps : List Str} {k : Nat} : FnM P w K mg base k f fd ps (fun _ => .stuck) :=
  ⟨fun vs H Q E h => h.choose_spec.choose_spec.1, fun A outer s H args us vs Q E hr e0 hb r h => by
    obtain ⟨G, ds, _, _, _, _, q⟩ := h
    exact q.elim⟩
theorem FnM.eq {f : Addr} {fd : FuncData} {ps : List Str} {k : Nat} {m m' : List D → R D} (F : FnM P w K mg base k f fd ps m) (h : m = m') : FnM P w K mg base k f fd ps m' := h ▸ F
end
section
variable {X : Cx} {W : WX} {k : Nat} {f : Addr} {fd : FuncData} {ps : List Str} {x : Str} {p pos : Pos} {e : Expr} {es : List Expr} {gs : Env → R (List D)} {m : List D → R D}
def eCall (m : List D → R D) (gs : Env → R (List D)) : Env → R D := fun c => gs c >>= fun ds => noX (m ds)
theorem call_true {B : Bs} {G H : Hp} {c : Env} {σ : L2.St} {fp : List Addr} {vs : List V} {ds : List D} {Q : VK} {Ex : XK} (F : FnM X.prog X.w X.K X.mg X.base k f fd ps m) (A : Abs ⟨X.K, X.mg⟩ B G H c σ fp) (r : RpL ⟨X.K, X.mg⟩ G vs ds) (hl : ds.length = ps.length)
    (q : Res ⟨X.K, X.mg⟩ W B c σ fp G H (noX (m ds)) (Post ⟨X.K, X.mg⟩ B c σ fp G H true Q)) : spM ⟨X.K, X.mg⟩ ps.length m vs H Q Ex := by
  refine ⟨G, ds, by rw [r.length]; exact hl, A.fine.le, A.fine.tup, r, ?_⟩
  cases e : m ds with
  | ok d =>
    rw [e] at q
    exact fun v G' H' s l t gr tp rv => q v G' H' s t (A.call s t l gr tp) rv
  | ex y => rw [e] at q; exact q
  | stuck => rw [e] at q; exact q
theorem call_false {B : Bs} {G H : Hp} {c : Env} {σ : L2.St} {fp : List Addr} {vs : List V} {ds : List D} {Q : VK} {Ex : XK} (F : FnM X.prog X.w X.K X.mg X.base k f fd ps m) (A : Abs ⟨X.K, X.mg⟩ B G H c σ fp) (r : RpL ⟨X.K, X.mg⟩ H vs ds) (hl : ds.length = ps.length)
    (q : Res ⟨X.K, X.mg⟩ W B c σ fp G H (noX (m ds)) (Post ⟨X.K, X.mg⟩ B c σ fp G H false Q)) : spM ⟨X.K, X.mg⟩ ps.length m vs H Q Ex := by
  refine ⟨H, ds, by rw [r.length]; exact hl, Same.refl _, fun _ _ e _ => e, r, ?_⟩
  cases e : m ds with
  | ok d =>
    rw [e] at q
    intro v G' H' s l t gr tp rv
    let G2 : Hp := fun a => if H a = none then G' a else G a
    have g1 : ∀ a, H a = none → G2 a = G' a := fun a h => if_pos h
    have g2 : ∀ a, H a ≠ none → G2 a = G a := fun a h => if_neg h
    have ne : ∀ a o, H a = some o → H a ≠ none := fun a o h z => by rw [h] at z; cases z
    refine q v G2 H' (fun a o ha => ?_) t (A.call (fun a o ha => ?_) t (fun a o ha => ?_) (fun a h1 h2 => ?_) fun a u h1 h2 => ?_) (rv.mono l)
    · rw [g2 a (ne a o (A.fine.le a o ha))]; exact ha
    · rw [g2 a (ne a o (A.fine.le a o ha))]; exact ha
    · by_cases h : H a = none
      · rw [g1 a h] at ha; exact l a o ha
      · rw [g2 a h] at ha; exact t a o (A.fine.le a o ha)
    · rw [g2 a h1]; exact h2
    · by_cases h : H a = none
      · rw [g1 a h]; exact tp a u h1 h2
      · rw [g2 a h]
        cases hh : H a with
        | none => exact absurd hh h
        | some o =>
          have := t a o hh
          rw [h1] at this
          cases this
          exact A.fine.tup a u hh h2
  | ex y => rw [e] at q; exact q
  | stuck => rw [e] at q; exact q
/-- how many arguments -/
def eArgs (n : Nat) (gs : Env → R (List D)) : Env → R (List D) := fun c => gs c >>= fun ds => if ds.length = n then .ok ds else .stuck
theorem px_call (F : FnM X.prog X.w X.K X.mg X.base k f fd ps m) (hr : Room k X.A) (hm : X.mg x = some (.ref f)) (hk : PySem.W.keepIn X.K (.ref f) = true) (hb : Binds X.K fd ps []) (ha : PXA X W true (e :: es) gs) (hn : ∀ c ds, gs c = .ok ds → ds.length = ps.length) (hg : Gl X x := by rfl)
    (hdb : (x == ("__debug__" : Str)) = false := by decide) (he : starEach (e :: es) X.env = (false, eval e X.env) :: starEach es X.env := by rfl) (hpl : (backTo pos (starEach es X.env)).any (·.1) = false := by rfl) :
    PX X W true (.Call (.Name x p) (e :: es) [] pos) (eCall m gs) :=
  pe_mono (pe_call F hr hg hm hk hb .nil pass0 ha hdb he hpl) fun σ H Q ⟨B, G, c, fp, A, q⟩ => txa_seq A q fun ds e vs G1 H1 s1 t1 A1 r1 q1 => by
    rw [List.append_nil]
    exact call_true F A1 r1 (hn c ds e) (Res.grow (r := noX (m ds)) q1 (Same.refl _) (Same.refl _) fun d _ z => z.grow s1 t1)
theorem px_callL (F : FnM X.prog X.w X.K X.mg X.base k f fd ps m) (hr : Room k X.A) (hm : X.mg x = some (.ref f)) (hk : PySem.W.keepIn X.K (.ref f) = true) (hb : Binds X.K fd ps []) (ha : PXA X W false (e :: es) gs) (hn : ∀ c ds, gs c = .ok ds → ds.length = ps.length) (hg : Gl X x := by rfl)
    (hdb : (x == ("__debug__" : Str)) = false := by decide) (he : starEach (e :: es) X.env = (false, eval e X.env) :: starEach es X.env := by rfl) (hpl : (backTo pos (starEach es X.env)).any (·.1) = false := by rfl) :
    PX X W false (.Call (.Name x p) (e :: es) [] pos) (eCall m gs) :=
  pe_mono (pe_call F hr hg hm hk hb .nil pass0 ha hdb he hpl) fun σ H Q ⟨B, G, c, fp, A, q⟩ => txa_seq A q fun ds e vs G1 H1 s1 t1 A1 r1 q1 => by
    rw [List.append_nil]
    exact call_false F A1 r1 (hn c ds e) (Res.grow (r := noX (m ds)) q1 (Same.refl _) (Same.refl _) fun d _ z => z.grow s1 t1)
theorem px_call0 (F : FnM X.prog X.w X.K X.mg X.base k f fd [] m) (hr : Room k X.A) (hm : X.mg x = some (.ref f)) (hk : PySem.W.keepIn X.K (.ref f) = true) (hb : Binds X.K fd [] []) (hg : Gl X x := by rfl)
    (hdb : (x == ("__debug__" : Str)) = false := by decide) :
    PX X W true (.Call (.Name x p) [] [] pos) (eCall m eNil) :=
  pe_mono (pe_call0 F hr hg hm hk hb .nil pass0 hdb) fun σ H Q ⟨B, G, c, fp, A, q⟩ => call_true (Ex := E0) F A .nil rfl q
end
theorem len_nil {c : Env} {ds : List D} (h : eNil c = .ok ds) : ds.length = 0 := by cases h; rfl
theorem len_cons {c : Env} {g : Env → R D} {gs : Env → R (List D)} {n : Nat} (k : ∀ ds, gs c = .ok ds → ds.length = n) {ds : List D} (h : eCons g gs c = .ok ds) : ds.length = n + 1 := by
  unfold eCons at h
  obtain ⟨d, _, h⟩ := bind_ok_eq h
  obtain ⟨es, h1, h⟩ := bind_ok_eq h
  cases h
  simp [k es h1]
/-- the law's own promise, of its run -/
theorem law_sp {K : PySem.W.Frag} {mg : Str → Option Value} {m : List D → R D} (hm : ∀ ns : List Int, ns.length ≤ 63 → m [.lst (ns.map D.int)] = .ok (.bl true)) {H : Hp} {a : Addr} {ns : List Int} (hl : ns.length ≤ 63) (hO : Only H) (hS : SqL K H a (ns.map V.int)) :
    spM ⟨K, mg⟩ 1 m [.ref a] H (fun v _ => v = .bl true) fun _ _ _ => False := by
  refine ⟨H, [.lst (ns.map D.int)], rfl, Same.refl _, fun _ _ e _ => e, .cons (.lst hS (RpL.ofInt ns)) .nil, ?_⟩
  rw [hm ns hl]
  intro v G' H' _ _ _ _ _ r
  exact r.blH
end VS

/-! VS: more rules. -/
namespace VS
open PySem PySem.Spec PyProof.Rows L2
section
variable {X : Cx} {W : WX} {pn : List Nat} {b b' b1 b2 b3 : Bool} {a e : Expr} {pos : Pos}
def eNeg (g : Env → R D) : Env → R D := fun c => g c >>= fun d => match d with
  | .int i => .ok (.int (-i))
  | _ => .stuck
theorem px_neg {g : Env → R D} (h : PX X W b a g) : PX X W true (.UnaryOp .USub a pos) (eNeg g) := pe_mono (pe_un un_neg h) fun σ H Q ⟨B, G, c, fp, A, q⟩ => tx_seq A q fun d e v G1 H1 s1 t1 A1 r1 q1 => by
  cases d with
  | int i => exact ⟨i, r1.intH, q1 _ G1 H1 s1 t1 A1 (.int _)⟩
  | _ => exact q1.elim
/-- a < b < c -/
def eChain (f k : D → D → Option D) (ga gb gc : Env → R D) : Env → R D := fun c => ga c >>= fun x => gb c >>= fun y => lift (f x y) >>= fun z => lift (asB z) >>= fun t => if t then gc c >>= fun u => lift (k y u) else .ok (.bl false)
theorem tx_chain {r r' : R2} {f k : D → D → Option D} (hr : Op2Ok ⟨X.K, X.mg⟩ r b1 b2 true f) (hr' : Op2Ok ⟨X.K, X.mg⟩ r' b2 b3 true k) {ga gb gc : Env → R D} : ∀ σ H Q, TX ⟨X.K, X.mg⟩ W true (eChain f k ga gb gc) σ H Q → tChain r r' (TX ⟨X.K, X.mg⟩ W b1 ga) (TX ⟨X.K, X.mg⟩ W b2 gb) (TX ⟨X.K, X.mg⟩ W b3 gc) σ H Q :=
  fun σ H Q ⟨B, G, c, fp, A, q⟩ => tx_seq A q fun d e v G1 H1 s1 t1 A1 r1 q1 => tx_seq A1 q1 fun d2 e2 v2 G2 H2 s2 t2 A2 r2 q2 => by
    cases hf : f d d2 with
    | none => rw [hf] at q2; exact q2.elim
    | some z =>
      rw [hf] at q2
      have q2 : Res ⟨X.K, X.mg⟩ W B c σ fp G2 H2 (lift (asB z) >>= fun t => if t then gc c >>= fun u => lift (k d2 u) else .ok (.bl false)) _ := q2
      cases hz : asB z with
      | none => rw [hz] at q2; exact q2.elim
      | some t =>
        rw [hz] at q2
        have q2 : Res ⟨X.K, X.mg⟩ W B c σ fp G2 H2 (if t = true then gc c >>= fun u => lift (k d2 u) else .ok (.bl false)) _ := q2
        refine hr A2 (vw_mono s2 t2 r1) r2 hf fun v3 G3 H3 s3 t3 A3 r3 => ?_
        refine ⟨t, asB_rp r3 hz, ?_⟩
        cases t with
        | true =>
          rw [if_pos rfl] at q2 ⊢
          refine tx_seq A3 (Res.grow (r := gc c >>= fun u => lift (k d2 u)) q2 s3 t3 fun _ _ z => z) fun d4 e4 v4 G4 H4 s4 t4 A4 r4 q4 => ?_
          obtain ⟨d5, e5, p5⟩ := Res.lift q4
          exact hr' A4 (vw_mono (s3.trans s4) (t3.trans t4) r2) r4 e5 (p5.grow (s1.trans (s2.trans (s3.trans s4))) (t1.trans (t2.trans (t3.trans t4))))
        | false =>
          rw [if_neg (by decide)] at q2 ⊢
          exact (show Post _ _ _ _ _ _ _ _ _ _ from q2) _ G3 H3 (s1.trans (s2.trans s3)) (t1.trans (t2.trans t3)) A3 (.bl _)
theorem px_chain {op op' : CmpOp} {r r' : R2} {f k : D → D → Option D} {eb ec : Expr} (ho : OpR X (compareOp op) r) (ho' : OpR X (compareOp op') r') (hr : Op2Ok ⟨X.K, X.mg⟩ r b1 b2 true f) (hr' : Op2Ok ⟨X.K, X.mg⟩ r' b2 b3 true k) {ga gb gc : Env → R D} (ha : PX X W b1 a ga) (hb : PX X W b2 eb gb) (hc : PX X W b3 ec gc) (hm : lastMarks [op, op'] [eb, ec] = false := by with_unfolding_all rfl) :
    PX X W true (.Compare a [op, op'] [eb, ec] pos) (eChain f k ga gb gc) := pe_mono (pe_chain ho ho' ha hb hc hm) (tx_chain hr hr')
theorem pxt_chain {op op' : CmpOp} {r r' : R2} {f k : D → D → Option D} {eb ec : Expr} (ho : OpR X (compareOp op) r) (ho' : OpR X (compareOp op') r') (hr : Op2Ok ⟨X.K, X.mg⟩ r b1 b2 true f) (hr' : Op2Ok ⟨X.K, X.mg⟩ r' b2 b3 true k) {ga gb gc : Env → R D} (ha : PX X W b1 a ga) (hb : PX X W b2 eb gb) (hc : PX X W b3 ec gc) (hm : lastMarks [op, op'] [eb, ec] = false := by with_unfolding_all rfl) :
    PXT X W (.Compare a [op, op'] [eb, ec] pos) (eB (eChain f k ga gb gc)) := pt_mono (pt_chain ho ho' ha hb hc hm) fun σ H Q q => tx_chain hr hr' σ H _ (tx_test (b := true) σ H Q q)

/-! ### an item of what a name owns -/
def ixO (o : O) (k : D) : Option D :=
  match o, k with
  | .lst os, .int k => (atI os k).bind fun o => match o with
    | .v d => some d
    | _ => none
  | .v d, k => opIx true d k
  | _, _ => none
def eIxo (i : Nat) (gb : Env → R D) : Env → R D := fun c => match c[i]? with
  | some (some o) => gb c >>= fun k => lift (ixO o k)
  | _ => .stuck
theorem OwnL.get : ∀ {E : Wd} {G H : Hp} {vs : List V} {os : List O} {fp : List Addr} {j : Nat} {o : O}, OwnL E G H vs os fp → os[j]? = some o → ∃ v fq, vs[j]? = some v ∧ Own E G H v o fq
  | _, _, _, _, [], _, j, o, h, e => by simp at e
  | _, _, _, _, o' :: os, _, 0, o, h, e => by
    cases h with
    | cons h r => simp at e; subst e; exact ⟨_, _, rfl, h⟩
  | _, _, _, _, o' :: os, _, j + 1, o, h, e => by
    cases h with
    | cons h r =>
      obtain ⟨v, fq, e1, e2⟩ := OwnL.get (j := j) r (by simpa using e)
      exact ⟨v, fq, by simpa using e1, e2⟩
theorem px_ixo {x : Str} {p : Pos} (i : Nat) {eb : Expr} {gb : Env → R D} (hb : PX X W b eb gb) (hN : X.N[i]? = some x := by rfl) (hv : Vis X.env.scope x := by first | exact Or.inl rfl | exact Or.inr (Or.inl rfl) | exact Or.inr (Or.inr rfl)) (hd : (x == ("__debug__" : Str)) = false := by decide)
    (hcd : (x == ("__classdict__" : Str)) = false := by decide) (hs : PlainIx eb := by exact fun _ _ => rfl) : PX X W true (.Subscript (.Name x p) eb pos) (eIxo i gb) :=
  pe_mono (pe_ix ix_seq (pe_var hN hv hd hcd) hb hs) fun σ H Q ⟨B, G, c, fp, A, q⟩ => by
    unfold eIxo at q
    split at q
    · rename_i o e1
      obtain ⟨v, fq, h1, h2, _⟩ := A.cells.get e1
      refine ⟨v, h1, tx_seq A q fun k e3 w G1 H1 s1 t1 A1 r1 q1 => ?_⟩
      obtain ⟨d, e4, p4⟩ := Res.lift q1
      obtain ⟨v', fq', h1', h2', _⟩ := A1.cells.get e1
      rw [h1] at h1'
      cases h1'
      unfold ixO at e4
      split at e4
      · rename_i os k
        obtain ⟨o', e5, e6⟩ := Option.bind_eq_some_iff.mp e4
        cases h2' with
        | @lst a vs _ fq ha ho =>
          unfold atI at e5
          obtain ⟨j, e7, e8⟩ := Option.bind_eq_some_iff.mp e5
          obtain ⟨v8, f8, e9, e10⟩ := ho.get e8
          split at e6
          · cases e6
            cases e10 with
            | v rv =>
              refine .inl ⟨a, vs, k, v8, rfl, r1.intH, .inl (.inl ha), ?_, p4 _ G1 H1 s1 t1 A1 rv⟩
              unfold atI
              rw [ho.length, e7]
              exact e9
          · cases e6
      · rename_i dk
        cases h2' with
        | v rv => exact ok_ix (b := true) A1 rv r1 e4 (p4.grow s1 t1)
      · cases e4
    · exact q.elim
/-- an item at the loan's level -/
theorem ok_ixL : Op2Ok ⟨X.K, X.mg⟩ (rIx X.K) false b2 false (opIx true) := by
  intro B G H c σ fp x y dx dy d Q A rx ry e p
  unfold opIx at e
  split at e
  · rename_i ds i
    obtain ⟨d', hk, e⟩ := Option.bind_eq_some_iff.mp e
    simp at e
    subst e
    obtain ⟨a, vs, rfl, h1, r1⟩ := rx.lstH A.fine.le
    obtain ⟨v, hv, rv⟩ := r1.at hk
    exact .inl ⟨_, _, _, _, rfl, ry.intH, h1, hv, p.here A rv⟩
  · rename_i ds i
    obtain ⟨d', hk, e⟩ := Option.bind_eq_some_iff.mp e
    simp at e
    subst e
    obtain ⟨a, vs, rfl, h1, r1⟩ := rx.tupH A.fine.le
    obtain ⟨v, hv, rv⟩ := r1.at hk
    exact .inr (.inl ⟨_, _, _, _, rfl, ry.intH, h1, hv, p.here A rv⟩)
  · rename_i l i
    split at e
    · rename_i hl
      obtain ⟨z, hk, rfl⟩ := Option.map_eq_some_iff.mp e
      exact .inr (.inr ⟨_, _, z, rx.strH, ry.intH, by rw [S_len, sizeLine_eq]; exact hl, hk, p.here A (.str [z])⟩)
    · cases e
  · cases e
theorem px_ixL {eb : Expr} {ga gb : Env → R D} (ha : PX X W false a ga) (hb : PX X W b2 eb gb) (hs : PlainIx eb := by exact fun _ _ => rfl) : PX X W false (.Subscript a eb pos) (eOp2 (opIx true) ga gb) :=
  pe_mono (pe_ix ix_seq ha hb hs) (tx_op2 ok_ixL)
end
/-! ### a def by its name -/
structure Cal (P : Program) (w : World) (K : PySem.W.Frag) (mg : Str → Option Value) (base : Heap) (k : Nat) (x : Str) (ps : List Str) (m : List D → R D) : Prop where
  ex : ∃ f fd, FnM P w K mg base k f fd ps m ∧ mg x = some (.ref f) ∧ PySem.W.keepIn K (.ref f) = true ∧ L2.Binds K fd ps []
/-- where a def of the text stands -/
structure Def (K : PySem.W.Frag) (mg : Str → Option Value) (x : Str) (st : Stmt) : Prop where
  ex : ∃ f fd, Fun K x x st f fd ∧ mg x = some (.ref f)
section
variable {X : Cx} {W : WX} {k j : Nat} {ps : List Str} {x : Str} {p pos : Pos} {e : Expr} {es : List Expr} {gs : Env → R (List D)} {m : List D → R D}
theorem px_callC (C : Cal X.prog X.w X.K X.mg X.base k x ps m) (hr : Room j X.A) (hkj : k ≤ j) (ha : PXA X W true (e :: es) gs) (hn : ∀ c ds, gs c = .ok ds → ds.length = ps.length) (hg : Gl X x := by rfl)
    (hdb : (x == ("__debug__" : Str)) = false := by decide) (he : starEach (e :: es) X.env = (false, eval e X.env) :: starEach es X.env := by rfl) (hpl : (backTo pos (starEach es X.env)).any (·.1) = false := by rfl) :
    PX X W true (.Call (.Name x p) (e :: es) [] pos) (eCall m gs) := by
  obtain ⟨f, fd, F, hm, hk, hb⟩ := C.ex
  exact px_call F (hr.mono hkj) hm hk hb ha hn hg hdb he hpl
theorem px_callCL (C : Cal X.prog X.w X.K X.mg X.base k x ps m) (hr : Room j X.A) (hkj : k ≤ j) (ha : PXA X W false (e :: es) gs) (hn : ∀ c ds, gs c = .ok ds → ds.length = ps.length) (hg : Gl X x := by rfl)
    (hdb : (x == ("__debug__" : Str)) = false := by decide) (he : starEach (e :: es) X.env = (false, eval e X.env) :: starEach es X.env := by rfl) (hpl : (backTo pos (starEach es X.env)).any (·.1) = false := by rfl) :
    PX X W false (.Call (.Name x p) (e :: es) [] pos) (eCall m gs) := by
  obtain ⟨f, fd, F, hm, hk, hb⟩ := C.ex
  exact px_callL F (hr.mono hkj) hm hk hb ha hn hg hdb he hpl
theorem px_callC0 (C : Cal X.prog X.w X.K X.mg X.base k x [] m) (hr : Room j X.A) (hkj : k ≤ j) (hg : Gl X x := by rfl)
    (hdb : (x == ("__debug__" : Str)) = false := by decide) :
    PX X W true (.Call (.Name x p) [] [] pos) (eCall m eNil) := by
  obtain ⟨f, fd, F, hm, hk, hb⟩ := C.ex
  exact px_call0 F (hr.mono hkj) hm hk hb hg hdb
end
section
variable {P : Program} {w : World} {K : PySem.W.Frag} {mg : Str → Option Value} {base : Heap}
theorem cal_of {x : Str} {st : Stmt} {N ps : List Str} {k : Nat} {body : Env → Rs} (T : Def K mg x st) (S : FnScope N ps (defScope st))
    (hb : ∀ (kV doc pm : Value) (an : Option Addr) (cdv ct : Value) (us : List Value), us.length = ps.length → bindArgs (PySem.W.fnOf x x (defArgs st) (defBody st) (defScope st) .none kV doc pm an cdv ct) ⟨us, []⟩ = pure (ps.zip us))
    (hbody : ∀ (f : Addr) (cdv : Value) (A : Around) (outer : List PySem.Env) (s : Shared) (H : Hp) (E : XK), Room k (A.deeper (envOfC x (defScope st) s.heap.objs.size f cdv)) → PXSs (cxOf CX0 P w K mg base N x (defScope st) f cdv A outer s H E).nox W0 [] (defBody st) body) :
    Cal P w K mg base (k + 1) x ps (runF N.length body) := by
  obtain ⟨f, fd, F, g⟩ := T.ex
  exact ⟨f, fd, fnm_of F S (hbody f), g, F.kp, F.binds hb⟩
theorem Cal.mono {x : Str} {ps : List Str} {k j : Nat} {m : List D → R D} (C : Cal P w K mg base k x ps m) (h : k ≤ j) : Cal P w K mg base j x ps m := by
  obtain ⟨f, fd, F, g, kp, b⟩ := C.ex
  exact ⟨f, fd, F.mono h, g, kp, b⟩
/-- a def that is never called so deep -/
theorem cal_stuck {x : Str} {st : Stmt} {ps : List Str} {k : Nat} (T : Def K mg x st)
    (hb : ∀ (kV doc pm : Value) (an : Option Addr) (cdv ct : Value) (us : List Value), us.length = ps.length → bindArgs (PySem.W.fnOf x x (defArgs st) (defBody st) (defScope st) .none kV doc pm an cdv ct) ⟨us, []⟩ = pure (ps.zip us)) : Cal P w K mg base k x ps (fun _ => .stuck) := by
  obtain ⟨f, fd, F, g⟩ := T.ex
  exact ⟨f, fd, ⟨fun vs H Q E h => h.choose_spec.choose_spec.1, fun A outer s H args us vs Q E hr e0 hb r h => by
    obtain ⟨G, ds, _, _, _, _, q⟩ := h
    exact q.elim⟩, g, F.kp, F.binds hb⟩
end
end VS

/-! VS: reckoning with the worth of programs, in plain Lean. -/
namespace VS
open PySem PySem.Spec PyProof.Rows L2

/-! ### what the words are worth -/
@[simp] theorem eV_def (i : Nat) (c : Env) : eV i c = match c[i]? with | some (some (.v d)) => .ok d | _ => .stuck := (rfl)
@[simp] theorem eL_def (i : Nat) (c : Env) : eL i c = match c[i]? with | some (some o) => .ok o.toD | _ => .stuck := (rfl)
@[simp] theorem eC_def (d : D) (c : Env) : eC d c = .ok d := (rfl)
@[simp] theorem eNil_def (c : Env) : eNil c = .ok [] := (rfl)
@[simp] theorem eCons_def (g : Env → R D) (gs : Env → R (List D)) (c : Env) : eCons g gs c = g c >>= fun d => gs c >>= fun ds => .ok (d :: ds) := (rfl)
@[simp] theorem eFn_def (f : List D → Option D) (gs : Env → R (List D)) (c : Env) : eFn f gs c = gs c >>= fun ds => lift (f ds) := (rfl)
@[simp] theorem eFnO_def (f : List D → Option O) (gs : Env → R (List D)) (c : Env) : eFnO f gs c = gs c >>= fun ds => lift (f ds) := (rfl)
@[simp] theorem eOp2_def (f : D → D → Option D) (ga gb : Env → R D) (c : Env) : eOp2 f ga gb c = ga c >>= fun x => gb c >>= fun y => lift (f x y) := (rfl)
@[simp] theorem eB_def (g : Env → R D) (c : Env) : eB g c = g c >>= fun d => lift (asB d) := (rfl)
@[simp] theorem asB_bl (t : Bool) : asB (.bl t) = some t := (rfl)
@[simp] theorem eTru_def (g : Env → R D) (c : Env) : eTru g c = g c >>= fun d => lift (truD d) := (rfl)
@[simp] theorem truD_bl (t : Bool) : truD (.bl t) = some t := (rfl)
@[simp] theorem truD_non : truD .non = some false := (rfl)
@[simp] theorem truD_int (i : Int) : truD (.int i) = some (i != 0) := (rfl)
@[simp] theorem tAnd_def (g k : Env → R Bool) (c : Env) : tAnd' g k c = g c >>= fun t => if t then k c else .ok false := (rfl)
@[simp] theorem tOr_def (g k : Env → R Bool) (c : Env) : tOr' g k c = g c >>= fun t => if t then .ok true else k c := (rfl)
@[simp] theorem tNot_def (g : Env → R Bool) (c : Env) : tNot' g c = g c >>= fun t => .ok (!t) := (rfl)
@[simp] theorem tYes_def (c : Env) : tYes' c = .ok true := (rfl)
@[simp] theorem eAnd_def (ga gb : Env → R D) (c : Env) : eAnd ga gb c = ga c >>= fun d => lift (asB d) >>= fun t => if t then gb c else .ok (.bl false) := (rfl)
@[simp] theorem eOr_def (ga gb : Env → R D) (c : Env) : eOr ga gb c = ga c >>= fun d => lift (asB d) >>= fun t => if t then .ok (.bl true) else gb c := (rfl)
@[simp] theorem eNot_def (ga : Env → R D) (c : Env) : eNot ga c = ga c >>= fun d => lift (asB d) >>= fun t => .ok (.bl !t) := (rfl)
@[simp] theorem eIf_def (g : Env → R Bool) (ga gb : Env → R D) (c : Env) : eIf g ga gb c = g c >>= fun t => if t then ga c else gb c := (rfl)
@[simp] theorem eIs_def (T : Ty) (g : Env → R D) (c : Env) : eIs T g c = g c >>= fun d => lift ((isI T d).map D.bl) := (rfl)
@[simp] theorem eFlat_def (g : Env → R D) (c : Env) : eFlat g c = g c >>= fun d => if d.flat then .ok d else .stuck := (rfl)
@[simp] theorem eNeg_def (g : Env → R D) (c : Env) : eNeg g c = g c >>= fun d => match d with | .int i => .ok (.int (-i)) | _ => .stuck := (rfl)
@[simp] theorem eO_def (g : Env → R D) (c : Env) : eO g c = g c >>= fun d => match d with | .int i => .ok (some i) | _ => .stuck := (rfl)
@[simp] theorem eNoO_def (c : Env) : eNoO c = .ok none := (rfl)
@[simp] theorem eSl_def (b : Bool) (g : Env → R D) (gl gh : Env → R (Option Int)) (c : Env) : eSl b g gl gh c = g c >>= fun d => gl c >>= fun lo => gh c >>= fun hi => lift (opSl b d lo hi) := (rfl)
@[simp] theorem eMS_def (f : List Nat → List D → Option D) (g : Env → R D) (gs : Env → R (List D)) (c : Env) : eMS f g gs c = g c >>= fun d => lift (asS d) >>= fun l => gs c >>= fun ds => lift (f l ds) := (rfl)
@[simp] theorem asS_str (l : List Nat) : asS (.str l) = some l := (rfl)
@[simp] theorem eCall_def (m : List D → R D) (gs : Env → R (List D)) (c : Env) : eCall m gs c = gs c >>= fun ds => noX (m ds) := (rfl)
@[simp] theorem eIxo_def (i : Nat) (gb : Env → R D) (c : Env) : eIxo i gb c = match c[i]? with | some (some o) => gb c >>= fun k => lift (ixO o k) | _ => .stuck := (rfl)
@[simp] theorem eChain_def (f k : D → D → Option D) (ga gb gc : Env → R D) (c : Env) : eChain f k ga gb gc c = ga c >>= fun x => gb c >>= fun y => lift (f x y) >>= fun z => lift (asB z) >>= fun t => if t then gc c >>= fun u => lift (k y u) else .ok (.bl false) := (rfl)
@[simp] theorem eIt_def (b : Bool) (ga : Env → R D) (c : Env) : eIt b ga c = ga c >>= fun d => lift (asA b d) := (rfl)
@[simp] theorem eItR_def (ga gb : Env → R D) (c : Env) : eItR ga gb c = ga c >>= fun d => lift (asI d) >>= fun lo => gb c >>= fun d2 => lift (asI d2) >>= fun hi => .ok (rangeD lo hi) := (rfl)
@[simp] theorem eLc_def (gs : Env → R (List D)) (t : Env → R Bool) (g : Env → R D) (i : Nat) (c : Env) : eLc gs t g i c = eLcs gs t g i c >>= fun es => .ok (.lst es) := (rfl)
@[simp] theorem eLcO_def (gs : Env → R (List D)) (t : Env → R Bool) (g : Env → R D) (i : Nat) (c : Env) : eLcO gs t g i c = eLcs gs t g i c >>= fun es => .ok (.lst (es.map O.v)) := (rfl)
@[simp] theorem eLcs_def (gs : Env → R (List D)) (t : Env → R Bool) (g : Env → R D) (i : Nat) (c : Env) : eLcs gs t g i c = gs c >>= fun ds => compL t g i c ds >>= fun es => if es.length ≤ 16777216 then .ok es else .stuck := (rfl)
@[simp] theorem sNil_def (c : Env) : sNil c = .ok .nx c := (rfl)
@[simp] theorem sSeq_def (g k : Env → Rs) (c : Env) : sSeq g k c = match g c with | .ok .nx c' => k c' | r => r := (rfl)
@[simp] theorem sSet_def (i : Nat) (g : Env → R D) (c : Env) : sSet i g c = (g c).st c fun d => .ok .nx (c.set i (some (.v d))) := (rfl)
@[simp] theorem sSetO_def (i : Nat) (g : Env → R O) (c : Env) : sSetO i g c = (g c).st c fun o => .ok .nx (c.set i (some o)) := (rfl)
@[simp] theorem sRet_def (g : Env → R D) (c : Env) : sRet g c = (g c).st c fun d => .ok (.rt d) c := (rfl)
@[simp] theorem sRetN_def (c : Env) : sRetN c = .ok (.rt .non) c := (rfl)
@[simp] theorem sExpr_def (g : Env → R D) (c : Env) : sExpr g c = (g c).st c fun _ => .ok .nx c := (rfl)
@[simp] theorem sIf_def (t : Env → R Bool) (g k : Env → Rs) (c : Env) : sIf t g k c = (t c).st c fun b => if b then g c else k c := (rfl)
@[simp] theorem sBreak_def (c : Env) : sBreak c = .ok .bk c := (rfl)
@[simp] theorem sCont_def (c : Env) : sCont c = .ok .ct c := (rfl)
@[simp] theorem sApp_def (i : Nat) (g : Env → R D) (c : Env) : sApp i g c = (lift (atL i c)).st c fun os => (g c).st c fun d => if os.length < 16777216 then .ok .nx (c.set i (some (.lst (os ++ [.v d])))) else .stuck := (rfl)
@[simp] theorem sIxSet_def (i : Nat) (gi g : Env → R D) (c : Env) : sIxSet i gi g c = (g c).st c fun d => (lift (atL i c)).st c fun os => (gi c).st c fun k => match k with
  | .int k => (lift (ixN os.length k)).st c fun j => .ok .nx (c.set i (some (.lst (os.set j (.v d)))))
  | _ => .stuck := (rfl)
@[simp] theorem atL_def (i : Nat) (c : Env) : atL i c = match c[i]? with | some (some (.lst os)) => some os | _ => none := (rfl)
@[simp] theorem sFz_def (i : Nat) (g : Env → Rs) (c : Env) : sFz i g c = g (fz i c) := (rfl)
@[simp] theorem fz_def (i : Nat) (c : Env) : fz i c = match c[i]? with | some (some o) => c.set i (some (.v o.toD)) | _ => c := (rfl)
@[simp] theorem sFor_def (i : Nat) (gs : Env → R (List D)) (g : Env → Rs) (c : Env) : sFor i gs g c = (gs c).st c fun ds => forL i g ds c := (rfl)
@[simp] theorem toD_v (d : D) : (O.v d).toD = d := by rw [O.toD]
@[simp] theorem toD_lst (os : List O) : (O.lst os).toD = .lst (os.map O.toD) := by rw [O.toD, O.toDs_map]
@[simp] theorem map_toD_v (ds : List D) : (ds.map O.v).map O.toD = ds := by
  rw [List.map_map]
  have h : (O.toD ∘ O.v : D → D) = id := by funext x; rw [Function.comp_apply, O.toD, id]
  rw [h, List.map_id]
@[simp] theorem compToD {α : Type} (f : α → D) : O.toD ∘ (fun x => O.v (f x)) = f := by funext x; simp
@[simp] theorem compToD' : O.toD ∘ O.v = id := by funext x; simp
@[simp] theorem opAdd_int (b1 b2 : Bool) (i j : Int) : opAdd b1 b2 (.int i) (.int j) = some (.int (i + j)) := (rfl)
@[simp] theorem opAdd_str (b1 b2 : Bool) (x y : List Nat) : opAdd b1 b2 (.str x) (.str y) = if x.length + y.length ≤ 16777216 then some (.str (x ++ y)) else none := (rfl)
@[simp] theorem opAdd_lst (b1 b2 : Bool) (x y : List D) : opAdd b1 b2 (.lst x) (.lst y) = if x.length + y.length ≤ 16777216 ∧ okEl b1 x = true ∧ okEl b2 y = true then some (.lst (x ++ y)) else none := (rfl)
@[simp] theorem opSub_int (i j : Int) : opSub (.int i) (.int j) = some (.int (i - j)) := (rfl)
@[simp] theorem opMul_int (i j : Int) : opMul (.int i) (.int j) = if (-(2 ^ 64) < i ∧ i < 2 ^ 64) ∨ (-(2 ^ 64) < j ∧ j < 2 ^ 64) then some (.int (i * j)) else none := (rfl)
@[simp] theorem opMod_int (i j : Int) : opMod (.int i) (.int j) = if 0 < j then some (.int (i % j)) else none := (rfl)
@[simp] theorem opDiv_int (i j : Int) : opDiv (.int i) (.int j) = if 0 < j ∧ j < 1073741824 then some (.int (i / j)) else none := (rfl)
@[simp] theorem opRel_int (f : Int → Int → Bool) (i j : Int) : opRel f (.int i) (.int j) = some (.bl (f i j)) := (rfl)
@[simp] theorem opIs_non (d : D) : opIs d .non = some (.bl d.isNon) := (rfl)
@[simp] theorem opIsnt_non (d : D) : opIsnt d .non = some (.bl (!d.isNon)) := (rfl)
@[simp] theorem isNon_non : D.isNon .non = true := (rfl)
@[simp] theorem isNon_str (l : List Nat) : D.isNon (.str l) = false := (rfl)
@[simp] theorem isNon_int (i : Int) : D.isNon (.int i) = false := (rfl)
@[simp] theorem isNon_bl (i : Bool) : D.isNon (.bl i) = false := (rfl)
@[simp] theorem isNon_tup (i : List D) : D.isNon (.tup i) = false := (rfl)
@[simp] theorem isNon_lst (i : List D) : D.isNon (.lst i) = false := (rfl)
@[simp] theorem fLen_lst (ds : List D) : fLen [.lst ds] = some (.int ds.length) := (rfl)
@[simp] theorem fLen_tup (ds : List D) : fLen [.tup ds] = some (.int ds.length) := (rfl)
@[simp] theorem fLen_str (l : List Nat) : fLen [.str l] = if l.length ≤ 16777216 then some (.int l.length) else none := (rfl)
@[simp] theorem fAbs_int (i : Int) : fAbs [.int i] = some (.int (if i < 0 then -i else i)) := (rfl)
@[simp] theorem fInt_bl (t : Bool) : fInt [.bl t] = some (.int (if t then 1 else 0)) := (rfl)
@[simp] theorem fMin2_int (i j : Int) : fMin2 [.int i, .int j] = some (.int (if j < i then j else i)) := (rfl)
@[simp] theorem fMax2_int (i j : Int) : fMax2 [.int i, .int j] = some (.int (if j > i then j else i)) := (rfl)
@[simp] theorem fTuple_lst (b : Bool) (ds : List D) : fTuple b [.lst ds] = if okEl b ds then some (.tup ds) else none := (rfl)
@[simp] theorem fTuple_tup (b : Bool) (ds : List D) : fTuple b [.tup ds] = if okEl b ds then some (.tup ds) else none := (rfl)
@[simp] theorem fList_lst (b : Bool) (ds : List D) : fList b [.lst ds] = if okEl b ds then some (.lst ds) else none := (rfl)
@[simp] theorem fList_tup (b : Bool) (ds : List D) : fList b [.tup ds] = if okEl b ds then some (.lst ds) else none := (rfl)
@[simp] theorem fSum_lst (ds : List D) : fSum [.lst ds] = (asInts ds).map fun ns => .int ns.sum := (rfl)
@[simp] theorem opIx_lst (b : Bool) (ds : List D) (i : Int) : opIx b (.lst ds) (.int i) = (L2.atI ds i).bind fun d => if okE b d then some d else none := (rfl)
@[simp] theorem opIx_tup (b : Bool) (ds : List D) (i : Int) : opIx b (.tup ds) (.int i) = (L2.atI ds i).bind fun d => if okE b d then some d else none := (rfl)
@[simp] theorem opIx_str (b : Bool) (l : List Nat) (i : Int) : opIx b (.str l) (.int i) = if l.length ≤ 16777216 then (L2.atI l i).map fun x => .str [x] else none := (rfl)
@[simp] theorem opSl_lst (b : Bool) (ds : List D) (lo hi : Option Int) : opSl b (.lst ds) lo hi = if okEl b (cutD ds lo hi) then some (.lst (cutD ds lo hi)) else none := (rfl)
@[simp] theorem opSl_tup (b : Bool) (ds : List D) (lo hi : Option Int) : opSl b (.tup ds) lo hi = if okEl b (cutD ds lo hi) then some (.tup (cutD ds lo hi)) else none := (rfl)
@[simp] theorem opSl_str (b : Bool) (l : List Nat) (lo hi : Option Int) : opSl b (.str l) lo hi = if l.length ≤ 16777216 then some (.str (cutD l lo hi)) else none := (rfl)
@[simp] theorem ixO_lst (os : List O) (k : Int) : ixO (.lst os) (.int k) = (L2.atI os k).bind fun o => match o with | .v d => some d | _ => none := (rfl)
@[simp] theorem ixO_v (d k : D) : ixO (.v d) k = opIx true d k := by cases k <;> rfl
@[simp] theorem fLstO_def (ds : List D) : fLstO ds = if ds.length ≤ 16777216 then some (.lst (ds.map O.v)) else none := (rfl)
@[simp] theorem fLst_def (ds : List D) : fLst ds = if ds.length ≤ 16777216 then some (.lst ds) else none := (rfl)
@[simp] theorem fTup_def (ds : List D) : fTup ds = if ds.length ≤ 16777216 then some (.tup ds) else none := (rfl)
@[simp] theorem asA_lst (b : Bool) (ds : List D) : asA b (.lst ds) = if okEl b ds then some ds else none := (rfl)
@[simp] theorem asA_tup (b : Bool) (ds : List D) : asA b (.tup ds) = if okEl b ds then some ds else none := (rfl)
@[simp] theorem asA_str (b : Bool) (l : List Nat) : asA b (.str l) = if l.length ≤ 16777216 then some (l.map fun x => .str [x]) else none := (rfl)
@[simp] theorem asI_int (i : Int) : asI (.int i) = if -(2 ^ 62) ≤ i ∧ i < 2 ^ 62 then some i else none := (rfl)
@[simp] theorem fJoin_lst (l : List Nat) (ds : List D) : fJoin l [.lst ds] = (asSs ds).bind fun xs => if (xs.map List.length).sum + xs.length * l.length ≤ 16777216 then some (.str (TL.joinL l xs)) else none := (rfl)
@[simp] theorem compL_nil (t : Env → R Bool) (g : Env → R D) (i : Nat) (c : Env) : compL t g i c [] = .ok [] := (rfl)
theorem compL_cons (t : Env → R Bool) (g : Env → R D) (i : Nat) (c : Env) (d : D) (ds : List D) : compL t g i c (d :: ds) = (noX (t (c.set i (some (.v d)))) >>= fun b => if b then noX (g (c.set i (some (.v d)))) >>= fun x => compL t g i c ds >>= fun xs => .ok (x :: xs) else compL t g i c ds) := (rfl)
@[simp] theorem forL_nil (i : Nat) (g : Env → Rs) (c : Env) : forL i g [] c = .ok .nx c := (rfl)
theorem forL_cons (i : Nat) (g : Env → Rs) (d : D) (ds : List D) (c : Env) : forL i g (d :: ds) c = match g (c.set i (some (.v d))) with
    | .ok .nx c' => forL i g ds c'
    | .ok .ct c' => forL i g ds c'
    | .ok .bk c' => .ok .nx c'
    | r => r := (rfl)
theorem runF_def (n : Nat) (body : Env → Rs) (ds : List D) : runF n body ds = match body (ds.map (fun d => some (O.v d)) ++ List.replicate (n - ds.length) none) with
  | .ok (.rt d) _ => .ok d
  | .ok .nx _ => .ok .non
  | .ex e _ => .ex e
  | _ => .stuck := (rfl)

/-! ### places -/
theorem atI_ofNat {α : Type} (xs : List α) (k : Nat) : L2.atI xs (k : Int) = xs[k]? := by
  unfold L2.atI L2.ixN
  rw [if_pos (Int.natCast_nonneg k)]
  by_cases h : (k : Int) < xs.length
  · rw [if_pos h]; rfl
  · rw [if_neg h]
    have : xs.length ≤ k := by omega
    rw [List.getElem?_eq_none this]; rfl
theorem atI_pos {α : Type} (xs : List α) {i : Int} (h : 0 ≤ i) : L2.atI xs i = xs[i.toNat]? := by
  have := atI_ofNat xs i.toNat
  rwa [Int.toNat_of_nonneg h] at this
theorem ixN_pos {n : Nat} {i : Int} (h : 0 ≤ i) (k : i < n) : L2.ixN n i = some i.toNat := by
  unfold L2.ixN
  rw [if_pos h, if_pos k]
theorem sIx_nat' (n d k : Nat) : HT.sIx n d (some (k : Int)) = min k n := HT.sIx_nat n d k
theorem cut_nat {α : Type} (xs : List α) (i j : Nat) : cutD xs (some (i : Int)) (some (j : Int)) = (xs.drop (min i xs.length)).take (min j xs.length - min i xs.length) := by
  unfold cutD
  rw [HT.sIx_nat, HT.sIx_nat]
theorem cut_to {α : Type} (xs : List α) (j : Nat) : cutD xs none (some (j : Int)) = xs.take j := by
  unfold cutD
  rw [HT.sIx_nat, HT.sIx_none]
  simp
theorem cut_from {α : Type} (xs : List α) (i : Nat) : cutD xs (some (i : Int)) none = xs.drop i := by
  unfold cutD
  rw [HT.sIx_nat, HT.sIx_none]
  by_cases h : i ≤ xs.length
  · rw [Nat.min_eq_left h]
    exact List.take_of_length_le (by simp)
  · rw [Nat.min_eq_right (by omega)]
    simp
    omega
theorem rangeD_nat (n : Nat) : rangeD 0 (n : Int) = (List.range n).map fun (k : Nat) => D.int k := by
  unfold rangeD
  simp
/-! ### loops -/
/-- a loop whose turns all go on; slot i apart -/
theorem forL_inv (i : Nat) (g : Env → Rs) (ds : List D) (I : Nat → Env) (h : ∀ j d, ds[j]? = some d → ∃ c', g ((I j).set i (some (.v d))) = .ok .nx c' ∧ ∀ x, c'.set i x = (I (j + 1)).set i x) :
    ∃ x, forL i g ds (I 0) = .ok .nx ((I ds.length).set i x) := by
  have self : ∀ c : Env, ∃ x, c = c.set i x := fun c => by
    by_cases hi : i < c.length
    · exact ⟨c[i], (List.set_getElem_self hi).symm⟩
    · exact ⟨none, (List.set_eq_of_length_le (by omega)).symm⟩
  have main : ∀ (n j : Nat) (c : Env), j + n = ds.length → (∃ x, c = (I j).set i x) → ∃ x, forL i g (ds.drop j) c = .ok .nx ((I ds.length).set i x) := by
    intro n
    induction n with
    | zero =>
      intro j c hj ⟨x, hc⟩
      have : j = ds.length := by omega
      subst this
      rw [List.drop_length, hc]
      exact ⟨x, rfl⟩
    | succ n ih =>
      intro j c hj ⟨x, hc⟩
      have hlt : j < ds.length := by omega
      have hd := List.getElem?_eq_getElem hlt
      rw [drop_cons hd, forL_cons]
      obtain ⟨c', h1, h2⟩ := h j _ hd
      rw [hc, List.set_set, h1]
      obtain ⟨y, hy⟩ := self c'
      exact ih (j + 1) c' (by omega) ⟨y, by rw [← h2 y]; exact hy⟩
  obtain ⟨x, hx⟩ := self (I 0)
  have := main ds.length 0 (I 0) (by omega) ⟨x, hx⟩
  simpa using this
/-- a comprehension without a test -/
theorem compL_map (g : Env → R D) (i : Nat) (c : Env) (f : D → D) : ∀ (ds : List D), (∀ d ∈ ds, g (c.set i (some (.v d))) = .ok (f d)) → compL tYes' g i c ds = .ok (ds.map f)
  | [], _ => rfl
  | d :: ds, h => by
    rw [compL_cons, tYes_def]
    simp only [noX_ok, ok_bind, if_true]
    rw [h d List.mem_cons_self, compL_map g i c f ds fun d hd => h d (List.mem_cons_of_mem _ hd)]
    rfl
/-- .. with one -/
theorem compL_filter (t : Env → R Bool) (g : Env → R D) (i : Nat) (c : Env) (p : D → Bool) (f : D → D) : ∀ (ds : List D), (∀ d ∈ ds, t (c.set i (some (.v d))) = .ok (p d)) → (∀ d ∈ ds, p d = true → g (c.set i (some (.v d))) = .ok (f d)) → compL t g i c ds = .ok ((ds.filter p).map f)
  | [], _, _ => rfl
  | d :: ds, h, k => by
    have ih := compL_filter t g i c p f ds (fun d hd => h d (List.mem_cons_of_mem _ hd)) fun d hd => k d (List.mem_cons_of_mem _ hd)
    rw [compL_cons, h d List.mem_cons_self]
    simp only [noX_ok, ok_bind]
    cases hp : p d with
    | true =>
      rw [if_pos rfl, k d List.mem_cons_self hp, ih, List.filter_cons_of_pos hp]
      rfl
    | false =>
      rw [if_neg (by decide), ih, List.filter_cons_of_neg (by simp [hp])]
end VS

/-! VS: more reckoning. -/
namespace VS
open PySem PySem.Spec PyProof.Rows L2
@[simp] theorem pln_int (n : Nat) (i : Int) : D.pln n (.int i) = true := by cases n <;> simp [D.pln]
@[simp] theorem pln_bl (n : Nat) (i : Bool) : D.pln n (.bl i) = true := by cases n <;> simp [D.pln]
@[simp] theorem pln_non (n : Nat) : D.pln n .non = true := by cases n <;> simp [D.pln]
@[simp] theorem pln_str (n : Nat) (l : List Nat) : D.pln n (.str l) = l.all (· < 0x110000) := by cases n <;> simp [D.pln]
@[simp] theorem pln_lst (n : Nat) (l : List D) : D.pln (n + 1) (.lst l) = D.plns n l := by simp [D.pln]
@[simp] theorem pln_tup (n : Nat) (l : List D) : D.pln (n + 1) (.tup l) = D.plns n l := by simp [D.pln]
@[simp] theorem eqv_int (i j : Int) : D.eqv (.int i) (.int j) = (i == j) := by simp [D.eqv]
@[simp] theorem eqv_str (i j : List Nat) : D.eqv (.str i) (.str j) = (i == j) := by simp [D.eqv]
mutual
theorem eqv_self : ∀ (n : Nat) (d : D), D.pln n d = true → D.eqv d d = true
  | n, .non, _ => by simp [D.eqv]
  | n, .bl _, _ => by simp [D.eqv]
  | n, .int _, _ => by simp [D.eqv]
  | n, .str _, _ => by simp [D.eqv]
  | 0, .tup _, h => by simp [D.pln] at h
  | 0, .lst _, h => by simp [D.pln] at h
  | n + 1, .tup ds, h => by rw [pln_tup] at h; rw [D.eqv]; exact eqvs_self n ds h
  | n + 1, .lst ds, h => by rw [pln_lst] at h; rw [D.eqv]; exact eqvs_self n ds h
  | n, .dic _ _, h => by simp [D.pln] at h
  | n, .dlk _ _, h => by simp [D.pln] at h
  | n, .obj _ _ _, h => by simp [D.pln] at h
theorem eqvs_self : ∀ (n : Nat) (ds : List D), D.plns n ds = true → D.eqvs ds ds = true
  | n, [], _ => by simp [D.eqvs]
  | n, d :: ds, h => by
    rw [D.plns, Bool.and_eq_true] at h
    rw [D.eqvs, eqv_self n d h.1, eqvs_self n ds h.2]; rfl
end
@[simp] theorem opEq_int (i j : Int) : opEq (.int i) (.int j) = some (.bl (i == j)) := by simp [opEq]
@[simp] theorem opNe_int (i j : Int) : opNe (.int i) (.int j) = some (.bl (!(i == j))) := by simp [opNe]
@[simp] theorem opNe_bl (i j : Bool) : opNe (.bl i) (.bl j) = some (.bl (!(i == j))) := by simp [opNe, D.eqv]
@[simp] theorem opEq_bl (i j : Bool) : opEq (.bl i) (.bl j) = some (.bl (i == j)) := by simp [opEq, D.eqv]
theorem opEq_self {d : D} (h : D.pln 64 d = true) : opEq d d = some (.bl true) := by simp [opEq, h, eqv_self 64 d h]
/-- a loop all of whose turns go on -/
theorem forL_ex (i : Nat) (g : Env → Rs) (P : Nat → Env → Prop) : ∀ (ds : List D) (c : Env), (∀ j d c, ds[j]? = some d → P j c → ∃ c', g (c.set i (some (.v d))) = .ok .nx c' ∧ P (j + 1) c') → P 0 c → ∃ c', forL i g ds c = .ok .nx c' ∧ P ds.length c' := by
  intro ds c h p
  have main : ∀ (n j : Nat) (c : Env), j + n = ds.length → P j c → ∃ c', forL i g (ds.drop j) c = .ok .nx c' ∧ P ds.length c' := by
    intro n
    induction n with
    | zero =>
      intro j c hj pc
      have : j = ds.length := by omega
      subst this
      rw [List.drop_length]
      exact ⟨c, rfl, pc⟩
    | succ n ih =>
      intro j c hj pc
      have hlt : j < ds.length := by omega
      have hd := List.getElem?_eq_getElem hlt
      rw [drop_cons hd, forL_cons]
      obtain ⟨c', h1, h2⟩ := h j _ c hd pc
      rw [h1]
      exact ih (j + 1) c' (by omega) h2
  simpa using main ds.length 0 c (by omega) p
/-- .. over a range from 0 -/
theorem forL_rg (i : Nat) (g : Env → Rs) (n : Int) (P : Nat → Env → Prop) (c : Env) (h : ∀ (j : Nat) (c : Env), (j : Int) < n → P j c → ∃ c', g (c.set i (some (.v (.int (j : Int))))) = .ok .nx c' ∧ P (j + 1) c') (p : P 0 c) : ∃ c', forL i g (rangeD 0 n) c = .ok .nx c' ∧ P n.toNat c' := by
  have := forL_ex i g P (rangeD 0 n) c (fun j d c hd pc => by
    unfold rangeD at hd
    rw [List.getElem?_map] at hd
    rcases Option.map_eq_some_iff.mp hd with ⟨k, hk, rfl⟩
    rcases List.getElem?_eq_some_iff.mp hk with ⟨hl, rfl⟩
    simp at hl
    simp
    exact h j c (by omega) pc) p
  simpa [rangeD] using this
/-- a while loop all of whose turns go on; m bounds the turns left -/
theorem whileL_ex (t : Env → R Bool) (g : Env → Rs) (P : Nat → Env → Prop) (Q : Env → Prop) (h : ∀ m c, P m c → (t c = .ok false ∧ Q c) ∨ (t c = .ok true ∧ ∃ m' c', m' < m ∧ g c = .ok .nx c' ∧ P m' c')) : ∀ (f m : Nat) (c : Env), m < f → P m c → ∃ c', whileL t g f c = .ok .nx c' ∧ Q c' := by
  intro f
  induction f with
  | zero => intro m c hm; omega
  | succ f ih =>
    intro m c hm p
    rw [whileL]
    rcases h m c p with ⟨ht, q⟩ | ⟨ht, m', c', hlt, hg, p'⟩
    · rw [ht]; exact ⟨c, rfl, q⟩
    · rw [ht, st_ok, if_pos rfl, hg]
      exact ih m' c' (by omega) p'
@[simp] theorem atI_map_int (ns : List Int) (k : Nat) : atI (ns.map D.int) (k : Int) = (ns[k]?).map D.int := by
  rw [atI_ofNat, List.getElem?_map]
theorem rangeD_get {lo hi : Int} {j : Nat} (h : lo + j < hi) : (rangeD lo hi)[j]? = some (.int (lo + j)) := by
  unfold rangeD
  rw [List.getElem?_map, List.getElem?_range (by omega)]
  rfl
end VS
namespace VS
/-- what two equal plain things are, to the laws' own sameness -/
inductive Sm : Nat → D → Prop
  | non {n} : Sm n .non
  | bl {n} (t : Bool) : Sm n (.bl t)
  | int {n} (i : Int) : Sm n (.int i)
  | str {n} (l : List Nat) (h : l.all (· < 0x110000) = true) : Sm n (.str l)
  | lst {n} (ds : List D) (h : (ds.length : Int) < 4611686018427387904) (k : ∀ d ∈ ds, Sm n d) : Sm (n + 1) (.lst ds)
  | tup {n} (ds : List D) (h : (ds.length : Int) < 4611686018427387904) (k : ∀ d ∈ ds, Sm n d) : Sm (n + 1) (.tup ds)
theorem asI_small {i : Int} (h : 0 ≤ i) (k : i < 4611686018427387904) : asI (.int i) = some i := by
  rw [asI_int, if_pos ⟨by omega, by omega⟩]
theorem asI_zero : asI (.int 0) = some 0 := (rfl)
@[simp] theorem runF_def' (n : Nat) (body : Env → Rs) (ds : List D) : runF n body ds = match body (ds.map (fun d => some (O.v d)) ++ List.replicate (n - ds.length) none) with
  | .ok (.rt d) _ => .ok d
  | .ok .nx _ => .ok .non
  | .ex e _ => .ex e
  | _ => .stuck := (rfl)
@[simp] theorem asInts_ints (ns : List Int) : asInts (ns.map D.int) = some ns := by
  induction ns with
  | nil => rfl
  | cons n ns ih => rw [List.map_cons, asInts_cons, ih]; rfl
@[simp] theorem asSs_strs (ns : List (List Nat)) : asSs (ns.map D.str) = some ns := by
  induction ns with
  | nil => rfl
  | cons n ns ih => rw [List.map_cons, asSs_cons, ih]; rfl
end VS

/-! VS: a body told step by step. -/
namespace VS
open PySem PySem.Spec PyProof.Rows L2
/-- from c the text comes to its end with d -/
def Ret (g : Env → Rs) (c : Env) (d : D) : Prop := ∃ c', g c = .ok (.rt d) c'
/-- from c the text goes on at c' -/
def Nx (g : Env → Rs) (c c' : Env) : Prop := g c = .ok .nx c'
theorem ret_of {n : Nat} {body : Env → Rs} {ds : List D} {d : D} (h : Ret body (ds.map (fun d => some (O.v d)) ++ List.replicate (n - ds.length) none) d) : runF n body ds = .ok d := by
  obtain ⟨c', h⟩ := h
  rw [runF_def, h]
theorem Ret.seq {g k : Env → Rs} {c c' : Env} {d : D} (h : Nx g c c') (r : Ret k c' d) : Ret (sSeq g k) c d := by
  obtain ⟨c2, r⟩ := r
  exact ⟨c2, by rw [sSeq_def, h]; exact r⟩
theorem Ret.fst {g k : Env → Rs} {c : Env} {d : D} (r : Ret g c d) : Ret (sSeq g k) c d := by
  obtain ⟨c2, r⟩ := r
  exact ⟨c2, by rw [sSeq_def, r]⟩
theorem Ret.ret {g : Env → R D} {c : Env} {d : D} (h : g c = .ok d) : Ret (sRet g) c d := ⟨c, by rw [sRet_def, h]; rfl⟩
theorem Ret.fz {g : Env → Rs} {c : Env} {d : D} {i : Nat} (h : Ret g (fz i c) d) : Ret (sFz i g) c d := h
theorem Ret.yes {t : Env → R Bool} {g k : Env → Rs} {c : Env} {d : D} (h : t c = .ok true) (r : Ret g c d) : Ret (sIf t g k) c d := by
  obtain ⟨c2, r⟩ := r
  exact ⟨c2, by rw [sIf_def, h]; exact r⟩
theorem Ret.no {t : Env → R Bool} {g k : Env → Rs} {c : Env} {d : D} (h : t c = .ok false) (r : Ret k c d) : Ret (sIf t g k) c d := by
  obtain ⟨c2, r⟩ := r
  exact ⟨c2, by rw [sIf_def, h]; exact r⟩
theorem Nx.seq {g k : Env → Rs} {c c' c2 : Env} (h : Nx g c c') (r : Nx k c' c2) : Nx (sSeq g k) c c2 := by
  unfold Nx at *
  rw [sSeq_def, h]; exact r
theorem Nx.yes {t : Env → R Bool} {g k : Env → Rs} {c c' : Env} (h : t c = .ok true) (r : Nx g c c') : Nx (sIf t g k) c c' := by
  unfold Nx at *
  rw [sIf_def, h]; exact r
theorem Nx.no {t : Env → R Bool} {g k : Env → Rs} {c c' : Env} (h : t c = .ok false) (r : Nx k c c') : Nx (sIf t g k) c c' := by
  unfold Nx at *
  rw [sIf_def, h]; exact r
theorem Nx.nil {c : Env} : Nx sNil c c := rfl
theorem Nx.set {g : Env → R D} {c : Env} {d : D} {i : Nat} (h : g c = .ok d) : Nx (sSet i g) c (c.set i (some (.v d))) := by
  unfold Nx
  rw [sSet_def, h]; rfl
theorem Nx.setO {g : Env → R O} {c : Env} {d : O} {i : Nat} (h : g c = .ok d) : Nx (sSetO i g) c (c.set i (some d)) := by
  unfold Nx
  rw [sSetO_def, h]; rfl
theorem Nx.fz {g : Env → Rs} {c c' : Env} {i : Nat} (h : Nx g (fz i c) c') : Nx (sFz i g) c c' := h
theorem Nx.to {g : Env → Rs} {c c' c2 : Env} (h : Nx g c c') (e : c' = c2) : Nx g c c2 := e ▸ h
theorem Nx.for {i : Nat} {gs : Env → R (List D)} {g : Env → Rs} {c c' : Env} {ds : List D} (h : gs c = .ok ds) (k : forL i g ds c = .ok .nx c') : Nx (sFor i gs g) c c' := by
  unfold Nx
  rw [sFor_def, h]; exact k
theorem Nx.expr {g : Env → R D} {c : Env} {d : D} (h : g c = .ok d) : Nx (sExpr g) c c := by
  unfold Nx
  rw [sExpr_def, h]; rfl
end VS

/-! VS: several names at once; sorted texts. -/
namespace VS
open PySem PySem.Spec PyProof.Rows L2
/-! ### a, b = e -/
def setAll : List Nat → List D → Env → Env
  | i :: is, d :: ds, c => setAll is ds (c.set i (some (.v d)))
  | _, _, c => c
def sTup (is : List Nat) (g : Env → R D) : Env → Rs := fun c => (g c).st c fun d => match d with
  | .tup ds => if ds.length = is.length then .ok .nx (setAll is ds c) else .stuck
  | _ => .stuck
def gNs : List Nat → TGs
  | [] => gNil
  | i :: is => gCons (gName i) (gNs is)
theorem gNs_run {E : Wd} {B : Bs} {G H : Hp} {pn : List Nat} (P : PinOk pn B) : ∀ (is : List Nat) (ds : List D) (vs : List V) (c : Env) (σ : L2.St) (fp : List Addr) (Q : L2.St → Hp → Prop), (∀ i ∈ is, i ∉ pn) → RpL E G vs ds → ds.length = is.length → Abs E B G H c σ fp →
    (∀ σ' fp', Abs E B G H (setAll is ds c) σ' fp' → Q σ' H) → gNs is vs σ H Q
  | [], [], _, c, σ, fp, Q, _, r, _, A, q => by
    cases r
    exact ⟨rfl, q σ fp A⟩
  | [], _ :: _, _, _, _, _, _, _, _, e, _, _ => by simp at e
  | _ :: _, [], _, _, _, _, _, _, _, e, _, _ => by simp at e
  | i :: is, d :: ds, _, c, σ, fp, Q, hi, r, e, A, q => by
    cases r with
    | cons r rs =>
      obtain ⟨fr, A2⟩ := A.setV (i := i) r (P.ne (hi i List.mem_cons_self))
      exact ⟨_, _, rfl, gNs_run P is ds _ _ _ fr Q (fun j hj => hi j (List.mem_cons_of_mem _ hj)) rs (by simpa using e) A2 q⟩
section
variable {X : Cx} {W : WX} {pn : List Nat} {e : Expr} {pos : Pos}
theorem pxs_tup {es : List Expr} {k : Nat} {p : Pos} (is : List Nat) {g : Env → R D} (h : PX X W true e g) (hc : X.calm = true) (ht : PGs X es (gNs is)) (hi : ∀ i ∈ is, i ∉ pn := by decide)
    (hn : (assignEach es X.env).length = is.length := by rfl) (hst : (assignEach es X.env).findIdx? (·.1) = none := by rfl)
    (hs : swapsWithSole [.Tuple es k p] e pos.line X.env = pure false := by rfl) (hw : swappedStores [.Tuple es k p] e X.env = pure none := by rfl)
    (h1 : (assignEach [.Tuple es k p] X.env).map (·.2) = [assign (.Tuple es k p) X.env] := by rfl) : PXS X W pn (.Assign [.Tuple es k p] e pos) (sTup is g) :=
  ps_mono (ps_asg h (pg_tup hc ht hn hst) hs hw h1) fun Dn σ H ⟨B, G, c, fp, A, P, q⟩ => tx_st A q fun d e v G1 H1 s1 t1 A1 r1 q1 => by
    cases d with
    | tup ds =>
      simp only at q1
      split at q1
      · rename_i hl
        obtain ⟨a, vs, rfl, h2, r2⟩ := r1.tupH (b := true) A1.fine.le
        exact ⟨a, vs, rfl, h2, by rw [r2.length, hl], gNs_run P is ds vs c σ fp Dn.nx hi r2 hl A1 fun σ' fp' A2 => q1 σ' G1 H1 fp' (Same.refl _) A2⟩
      · exact q1.elim
    | _ => exact False.elim q1
end
@[simp] theorem sTup_def (is : List Nat) (g : Env → R D) (c : Env) : sTup is g c = (g c).st c fun d => match d with
  | .tup ds => if ds.length = is.length then .ok .nx (setAll is ds c) else .stuck
  | _ => .stuck := (rfl)
@[simp] theorem setAll_cons (i : Nat) (is : List Nat) (d : D) (ds : List D) (c : Env) : setAll (i :: is) (d :: ds) c = setAll is ds (c.set i (some (.v d))) := (rfl)
@[simp] theorem setAll_nil (c : Env) : setAll [] [] c = c := (rfl)
/-! ### sorted texts -/
theorem lt_self : ∀ x : List Nat, ltCps x x = false
  | [] => rfl
  | a :: x => by simp [ltCps, lt_self x]
theorem lt_anti : ∀ x y : List Nat, ltCps x y = false → ltCps y x = false → x = y
  | [], [], _, _ => rfl
  | [], _ :: _, h, _ => by simp [ltCps] at h
  | _ :: _, [], _, h => by simp [ltCps] at h
  | a :: x, b :: y, h, k => by
    simp [ltCps] at h k
    have e : a = b := by omega
    subst e
    rw [lt_anti x y (by simpa using h.2) (by simpa using k.2)]
theorem le_trans' : ∀ x y z : List Nat, ltCps y x = false → ltCps z y = false → ltCps z x = false
  | [], [], [], _, _ => rfl
  | [], [], _ :: _, _, _ => rfl
  | [], _ :: _, [], _, h => by simp [ltCps] at h
  | [], _ :: _, _ :: _, _, _ => rfl
  | _ :: _, [], _, h, _ => by simp [ltCps] at h
  | _ :: _, _ :: _, [], _, h => by simp [ltCps] at h
  | a :: x, b :: y, c :: z, h, k => by
    simp [ltCps] at h k ⊢
    refine ⟨by omega, fun e => ?_⟩
    subst e
    have e : b = c := by omega
    subst e
    exact le_trans' x y z (by simpa using h.2) (by simpa using k.2)
def rL : List Nat → List (List Nat) → Bool
  | _, [] => true
  | p, x :: r => !ltCps x p && rL x r
def sL : List (List Nat) → Bool
  | [] => true
  | x :: r => rL x r
theorem rL_all : ∀ (p : List Nat) (r : List (List Nat)), rL p r = true → (∀ x ∈ r, ltCps x p = false) ∧ sL r = true
  | _, [], _ => ⟨fun x h => (nomatch h), rfl⟩
  | p, x :: r, h => by
    rw [rL, Bool.and_eq_true] at h
    have ih := rL_all x r h.2
    have hx : ltCps x p = false := by simpa using h.1
    refine ⟨fun y hy => ?_, h.2⟩
    rcases List.mem_cons.mp hy with rfl | hy
    · exact hx
    · exact le_trans' p x y hx (ih.1 y hy)
theorem sL_uniq : ∀ (xs ys : List (List Nat)), xs.Perm ys → sL xs = true → sL ys = true → xs = ys
  | [], ys, h, _, _ => h.nil_eq
  | x :: xs, [], h, _, _ => h.eq_nil
  | x :: xs, y :: ys, h, hx, hy => by
    obtain ⟨a1, a2⟩ := rL_all x xs hx
    obtain ⟨b1, b2⟩ := rL_all y ys hy
    have e : x = y := by
      have m1 : y ∈ x :: xs := h.mem_iff.mpr List.mem_cons_self
      have m2 : x ∈ y :: ys := h.mem_iff.mp List.mem_cons_self
      rcases List.mem_cons.mp m1 with e | m1
      · exact e.symm
      · rcases List.mem_cons.mp m2 with e | m2
        · exact e
        · exact lt_anti x y (b1 x m2) (a1 y m1)
    subst e
    rw [sL_uniq xs ys h.cons_inv a2 b2]
open Classical in
noncomputable def sortS (xs : List (List Nat)) : List (List Nat) := if h : ∃ ys, ys.Perm xs ∧ sL ys = true then h.choose else []
theorem sortS_eq {xs ys : List (List Nat)} (h : ys.Perm xs) (k : sL ys = true) : sortS xs = ys := by
  have e : ∃ ys, ys.Perm xs ∧ sL ys = true := ⟨ys, h, k⟩
  unfold sortS
  rw [dif_pos e]
  exact sL_uniq _ _ (e.choose_spec.1.trans h.symm) e.choose_spec.2 k
theorem sortS_perm {xs ys : List (List Nat)} (h : xs.Perm ys) : sortS xs = sortS ys := by
  by_cases e : ∃ zs, zs.Perm xs ∧ sL zs = true
  · obtain ⟨zs, h1, h2⟩ := e
    rw [sortS_eq h1 h2, sortS_eq (h1.trans h) h2]
  · have e' : ¬ ∃ zs, zs.Perm ys ∧ sL zs = true := fun ⟨zs, h1, h2⟩ => e ⟨zs, h1.trans h.symm, h2⟩
    unfold sortS
    rw [dif_neg e, dif_neg e']
noncomputable def fSortS : List D → Option D
  | [.lst ds] => (asSs ds).bind fun xs => if xs.length < 64 then some (.lst ((sortS xs).map D.str)) else none
  | _ => none
theorem rS_S : ∀ (p : List Nat) (xs : List (List Nat)), risingS (S p) (xs.map S) = rL p xs
  | _, [] => rfl
  | p, x :: xs => by rw [List.map_cons, risingS, rL, rS_S x xs, S_list, S_list]
theorem sS_S (xs : List (List Nat)) : sortedS (xs.map S) = sL xs := by
  cases xs with
  | nil => rfl
  | cons x xs => exact rS_S x xs
theorem RpL.ofStr {E : Wd} {G : Hp} : ∀ xs : List (List Nat), RpL E G ((xs.map S).map V.str) (xs.map D.str)
  | [] => .nil
  | x :: xs => .cons (.str x) (RpL.ofStr xs)
variable {X : Cx} {b : Bool} in
theorem ok_sortS : CallOk ⟨X.K, X.mg⟩ (rSortedS X.K) b true fSortS := by
  intro B G H c σ fp vs ds d Q A r e p
  unfold fSortS at e
  split at e
  · obtain ⟨xs, e1, e2⟩ := Option.bind_eq_some_iff.mp e
    split at e2
    · rename_i hl
      cases e2
      obtain ⟨v, rfl, rv⟩ := r.one
      obtain ⟨a, vs, rfl, h1, r1⟩ := rv.lstH A.fine.le
      rw [asSs_rp r1 e1] at h1
      refine ⟨a, xs.map S, rfl, h1, by simpa using hl, fun ys q hp hs hq => ?_⟩
      obtain ⟨zs, rfl⟩ : ∃ zs : List (List Nat), ys = zs.map S := by
        refine ⟨ys.map fun s => s.cps.toList, ?_⟩
        rw [List.map_map]
        conv => lhs; rw [← List.map_id ys]
        refine List.map_congr_left fun y hy => ?_
        obtain ⟨x, _, rfl⟩ := List.mem_map.mp (hp.mem_iff.mp hy)
        rfl
      have hpl : zs.Perm xs := by
        have := hp.map fun s : Str => s.cps.toList
        rw [List.map_map, List.map_map] at this
        have e : ((fun s : Str => s.cps.toList) ∘ S) = id := by funext x; rfl
        rwa [e, List.map_id, List.map_id] at this
      rw [sS_S] at hs
      rw [sortS_eq hpl hs] at p
      exact p.new A hq fun s => .lst (.inl (.inl upd_same)) (RpL.ofStr _)
    · cases e2
  · cases e
@[simp] theorem fSortS_lst (ds : List D) : fSortS [.lst ds] = (asSs ds).bind fun xs => if xs.length < 64 then some (.lst ((sortS xs).map D.str)) else none := (rfl)
end VS

/-! VS: the place of a text in a list of texts. -/
namespace VS
open PySem PySem.Spec PyProof.Rows L2
def fLIx (ds : List D) : List D → Option D
  | [.str k] => (asSs ds).bind fun xs => if xs.idxOf k < xs.length then some (.int (xs.idxOf k : Nat)) else none
  | _ => none
def eLIx (g : Env → R D) (gs : Env → R (List D)) : Env → R D := fun c => g c >>= fun d => match d with
  | .lst ds => gs c >>= fun es => lift (fLIx ds es)
  | _ => .stuck
@[simp] theorem eLIx_def (g : Env → R D) (gs : Env → R (List D)) (c : Env) : eLIx g gs c = g c >>= fun d => match d with
  | .lst ds => gs c >>= fun es => lift (fLIx ds es)
  | _ => .stuck := (rfl)
theorem eqS (a b : List Nat) : eqV (.str (S a)) (.str (S b)) = (a == b) := by
  show (S a == S b) = (a == b)
  rw [Bool.eq_iff_iff, beq_iff_eq, beq_iff_eq]
  constructor
  · intro h
    have := congrArg (fun s : Str => s.cps.toList) h
    simpa using this
  · intro h; rw [h]
section
variable {X : Cx} {W : WX} {b b1 b' : Bool}
theorem px_li {o e : Expr} {es : List Expr} {g : Env → R D} {gs : Env → R (List D)} {apos cpos : Pos}
    (ho : PX X W b1 o g) (ha : PXA X W b (e :: es) gs)
    (hbase : attributeBase o "index" X.env (eval o X.env) = eval o X.env := by rfl)
    (hfew : ((backTo cpos (starEach (e :: es) X.env)).all (fun x => !x.1) && (backToKw cpos (keywordEach [] X.env)).all (fun x => x.1.isSome)
      && decide ((e :: es).length + ([] : List Keyword).length + (if ([] : List Keyword).isEmpty then 0 else 1) < 30)) = true := by rfl)
    (hline : (apos.endLine == cpos.line) = true := by rfl) (hs : starEach (e :: es) X.env = (false, eval e X.env) :: starEach es X.env := by rfl) (hplain : (backTo cpos (starEach es X.env)).any (·.1) = false := by rfl) :
    PX X W b' (.Call (.Attribute o "index" apos) (e :: es) [] cpos) (eLIx g gs) :=
  pe_mono (pe_bm PySem.F.plainAttrs_list PySem.F.slot_list_index PySem.F.type_list_index mt_index ho ha hbase hfew hline hs hplain) fun σ H Q ⟨B, G, c, fp, A, q⟩ => tx_seq A q fun d e v G1 H1 s1 t1 A1 r1 q1 => by
    cases d with
    | lst ds =>
      obtain ⟨a, vs, rfl, h2, r2⟩ := r1.lstH A1.fine.le
      refine ⟨.inl ⟨rfl, _, h2⟩, txa_seq A1 q1 fun es e2 ws G2 H2 s2 t2 A2 r3 q2 => ?_⟩
      obtain ⟨d3, e3, p3⟩ := Res.lift q2
      unfold fLIx at e3
      split at e3
      · rename_i k
        obtain ⟨xs, e4, e5⟩ := Option.bind_eq_some_iff.mp e3
        split at e5
        · rename_i hlt
          cases e5
          obtain ⟨v, rfl, rv⟩ := r3.one
          cases rv.strH
          have hv := asSs_rp r2 e4
          subst hv
          refine ⟨a, _, _, xs.idxOf k, .str (S k), rfl, rfl, Same.sqL t2 h2, rfl, by simp [flatV], ?_, by rw [eqS]; simp, ?_, ?_⟩
          · rw [List.map_map, List.getElem?_map, List.getElem?_eq_getElem hlt, List.getElem_idxOf hlt]; rfl
          · intro m z hm hz
            rw [List.map_map, List.getElem?_map] at hz
            obtain ⟨y, hy, rfl⟩ := Option.map_eq_some_iff.mp hz
            show eqV (.str (S y)) (.str (S k)) = false
            rw [eqS]
            obtain ⟨hml, rfl⟩ := List.getElem?_eq_some_iff.mp hy
            have := List.not_of_lt_findIdx (p := (· == k)) (xs := xs) (i := m) hm
            simpa using this
          · exact (p3.grow (s1.trans s2) (t1.trans t2)).here A2 (.int _)
        · cases e5
      · cases e3
    | _ => exact False.elim q1
end
end VS

/-! VS: owned dicts. -/
namespace VS
open PySem PySem.Spec PyProof.Rows L2
/-- the items, those of the key anew -/
def rep : List D → List O → Key → D → List O
  | x :: ks, o :: os, kk, d => (if D.key x = some kk then .v d else o) :: rep ks os kk d
  | _, _, _, _ => []
theorem OwnL.rep {E : Wd} {G H : Hp} {v : V} {d : D} {kk : Key} (r : Rp E G v d) : ∀ {kvs : List (Key × V)} {ks : List D} {os : List O} {fp : List Addr}, ks.map D.key = kvs.map (fun p => some p.1) → OwnL E G H (kvs.map (·.2)) os fp → fp.Nodup →
    ∃ fq, OwnL E G H ((kvs.map fun kv => if kv.1 = kk then (kv.1, v) else kv).map (·.2)) (VS.rep ks os kk d) fq ∧ fq.Nodup ∧ ∀ p ∈ fq, p ∈ fp
  | [], ks, os, fp, e, h, n => by
    cases h
    cases ks with
    | nil => exact ⟨[], .nil, List.nodup_nil, fun p hp => hp⟩
    | cons x ks => simp at e
  | (k, w) :: kvs, ks, os, fp, e, h, n => by
    cases ks with
    | nil => simp at e
    | cons x ks =>
      have e1 : D.key x = some k := by simpa using (List.cons.inj e).1
      have e2 : ks.map D.key = kvs.map (fun p => some p.1) := (List.cons.inj e).2
      cases h with
      | @cons _ _ o os f1 f2 h hs =>
        obtain ⟨n1, n2, n3⟩ := List.nodup_append.mp n
        obtain ⟨fq, k1, k2, k3⟩ := OwnL.rep r e2 hs n2
        by_cases g : k = kk
        · refine ⟨[] ++ fq, ?_, by simpa using k2, fun p hp => List.mem_append_right _ (k3 p (by simpa using hp))⟩
          rw [VS.rep, if_pos (by rw [e1, g])]
          simp only [List.map_cons, if_pos g]
          exact .cons (.v r) k1
        · refine ⟨f1 ++ fq, ?_, List.nodup_append.mpr ⟨n1, k2, fun a ha b hb => n3 a ha b (k3 b hb)⟩, fun p hp => ?_⟩
          · rw [VS.rep, if_neg (by rw [e1]; exact fun z => g (Option.some.inj z))]
            simp only [List.map_cons, if_neg g]
            exact .cons h k1
          · rcases List.mem_append.mp hp with hp | hp
            · exact List.mem_append_left _ hp
            · exact List.mem_append_right _ (k3 p hp)
def atD (i : Nat) (c : Env) : Option (List D × List O) := match c[i]? with
  | some (some (.dic ks os)) => some (ks, os)
  | _ => none
theorem atD_eq {i : Nat} {c : Env} {q : List D × List O} (h : atD i c = some q) : c[i]? = some (some (.dic q.1 q.2)) := by
  unfold atD at h
  split at h
  · cases h; assumption
  · cases h
def hasK (ks : List D) (kk : Key) : Bool := ks.any fun x => decide (D.key x = some kk)
/-- d[k] = e -/
def dPut (ks : List D) (os : List O) (k : D) (kk : Key) (d : D) : Option O :=
  if ks.length < 16777216 then some (if hasK ks kk then .dic ks (rep ks os kk d) else .dic (ks ++ [k]) (os ++ [.v d])) else none
def sDSet (i : Nat) (gi g : Env → R D) : Env → Rs := fun c => (g c).st c fun d => (lift (atD i c)).st c fun q => (gi c).st c fun k => (lift (D.key k)).st c fun kk => (lift (dPut q.1 q.2 k kk d)).st c fun o => .ok .nx (c.set i (some o))
theorem hasK_kvs {ks : List D} {kvs : List (Key × V)} (e : ks.map D.key = kvs.map (fun p => some p.1)) (kk : Key) : hasK ks kk = kvs.any fun kv => decide (kv.1 = kk) := by
  have : hasK ks kk = (ks.map D.key).any fun x => decide (x = some kk) := by unfold hasK; rw [List.any_map]; rfl
  rw [this, e, List.any_map]
  congr 1
  funext p
  simp
theorem rp_key {E : Wd} {G : Hp} {v : V} {k : D} {kk : Key} (r : Rp E G v k) (e : D.key k = some kk) : v = kV kk := by
  cases k <;> simp [D.key] at e
  · subst e; exact r.intH
  · subst e; exact r.strH
section
variable {X : Cx} {W : WX} {b : Bool} {pn : List Nat} {e : Expr} {pos : Pos}
theorem pxs_dset {x : Str} {ei : Expr} {p p2 : Pos} (i : Nat) {gi g : Env → R D} (hu : X.A.units + 1 < cLine) (h : PX X W true e g) (hi : PX X W b ei gi) (hN : X.N[i]? = some x := by rfl) (hv : Vis X.env.scope x := by first | exact Or.inl rfl | exact Or.inr (Or.inl rfl) | exact Or.inr (Or.inr rfl)) (hd : (x == ("__debug__" : Str)) = false := by decide) (hcd : (x == ("__classdict__" : Str)) = false := by decide)
    (hs : swapsWithSole [.Subscript (.Name x p) ei p2] e pos.line X.env = pure false := by rfl) (hw : swappedStores [.Subscript (.Name x p) ei p2] e X.env = pure none := by rfl)
    (h1 : (assignEach [.Subscript (.Name x p) ei p2] X.env).map (·.2) = [assign (.Subscript (.Name x p) ei p2) X.env] := by rfl)
    (ha : ∀ v, assign (.Subscript (.Name x p) ei p2) X.env v = (do
      let ov ← holding [v] (eval (.Name x p) X.env)
      let iv ← holding [v, ov] (eval ei X.env)
      standAt p2
      holding [v, ov, iv] (setItem ov iv v)
      release [v, ov, iv] []) := by intro _; rfl) : PXS X W pn (.Assign [.Subscript (.Name x p) ei p2] e pos) (sDSet i gi g) :=
  ps_mono (ps_asg h (pg_sub (pe_var hN hv hd hcd) hi (set_dict hu) ha) hs hw h1) fun Dn σ H ⟨B, G, c, fp, A, P, q⟩ => tx_st A q fun d e w G1 H1 s1 t1 A1 r1 q1 => by
    obtain ⟨⟨ks, os⟩, e0, q1⟩ := lift_st q1
    have e1 := atD_eq e0
    obtain ⟨v, fq, h1, h2, _, _, _⟩ := A1.poke e1
    cases h2 with
    | @dic a kvs _ _ fq ha hk ho =>
      refine ⟨_, h1, tx_st A1 q1 fun k e3 w2 G2 H2 s2 t2 A2 r2 q2 => ?_⟩
      obtain ⟨kk, ek, q3⟩ := lift_st q2
      obtain ⟨o, eo, q4⟩ := lift_st q3
      obtain ⟨v, fq, h1', h2, n, hin, hpk⟩ := A2.poke e1
      rw [h1] at h1'
      cases h1'
      cases h2 with
      | @dic _ kvs _ _ fq ha hk ho =>
        have hw2 := rp_key r2 ek
        have hh := hasK_kvs hk kk
        have hkl : ks.length = kvs.length := by simpa using congrArg List.length hk
        have nn := List.nodup_cons.mp n
        have ho2 := ho.upd (p := a) (u := .dK (putK kvs kk w)) nn.1
        unfold dPut at eo
        split at eo
        · rename_i hl
          cases eo
          refine ⟨a, _, rfl, .inl ⟨kvs, kk, ha, hw2, by rw [← hkl, sizeLine_eq]; exact hl, rfl⟩, ?_⟩
          cases hb : hasK ks kk with
          | true =>
            rw [hb] at q4
            have hb2 : (kvs.any fun kv => decide (kv.1 = kk)) = true := by rw [← hh]; exact hb
            have hput : putK kvs kk w = kvs.map (fun kv => if kv.1 = kk then (kv.1, w) else kv) := by unfold putK; rw [if_pos hb2]
            obtain ⟨fr, k1, k2, k3⟩ := ho2.rep (kk := kk) (r1.mono s2) hk nn.2
            have hk' : ks.map D.key = (putK kvs kk w).map (fun p => some p.1) := by
              rw [hk, hput, List.map_map]
              apply List.map_congr_left
              intro p _
              simp only [Function.comp_def]
              split <;> rfl
            rw [← hput] at k1
            obtain ⟨fp', A3⟩ := hpk List.mem_cons_self (u := .dK (putK kvs kk w)) rfl (.dic upd_same hk' k1) (List.nodup_cons.mpr ⟨fun z => nn.1 (k3 a z), k2⟩) (fun q hq => by
              rcases List.mem_cons.mp hq with z | z
              · rw [z]; exact List.mem_cons_self
              · exact List.mem_cons_of_mem _ (k3 q z))
            exact q4 σ G2 _ fp' (Same.refl _) A3
          | false =>
            rw [hb] at q4
            have hb2 : ¬ (kvs.any fun kv => decide (kv.1 = kk)) = true := by rw [← hh, hb]; exact Bool.false_ne_true
            have hput : putK kvs kk w = kvs ++ [(kk, w)] := by unfold putK; rw [if_neg hb2]
            have hk' : (ks ++ [k]).map D.key = (putK kvs kk w).map (fun p => some p.1) := by
              rw [hput, List.map_append, List.map_append, hk]
              simp [ek]
            have ho' : OwnL ⟨X.K, X.mg⟩ G2 (upd H2 a (.dK (putK kvs kk w))) ((putK kvs kk w).map (·.2)) (os ++ [.v d]) (fq ++ ([] ++ [])) := by
              rw [hput, List.map_append]
              rw [hput] at ho2
              exact ho2.append (.cons (.v (r1.mono s2)) .nil)
            obtain ⟨fp', A3⟩ := hpk List.mem_cons_self (u := .dK (putK kvs kk w)) rfl (.dic upd_same hk' ho') (by simpa using n) (fun q hq => by simpa using hq)
            exact q4 σ G2 _ fp' (Same.refl _) A3
        · cases eo
/-! ### reading -/
def dGet : List D → List O → Key → Option O
  | x :: ks, o :: os, kk => if D.key x = some kk then some o else dGet ks os kk
  | _, _, _ => none
theorem dGet_own {E : Wd} {G H : Hp} {kk : Key} : ∀ {kvs : List (Key × V)} {ks : List D} {os : List O} {fp : List Addr}, ks.map D.key = kvs.map (fun p => some p.1) → OwnL E G H (kvs.map (·.2)) os fp →
    (∀ o, dGet ks os kk = some o → ∃ v fq, valV kvs kk = some v ∧ Own E G H v o fq) ∧ (dGet ks os kk = none → valV kvs kk = none)
  | [], ks, os, fp, e, h => by
    cases h
    cases ks with
    | nil => exact ⟨fun o z => by simp [dGet] at z, fun _ => rfl⟩
    | cons x ks => simp at e
  | (k, w) :: kvs, ks, os, fp, e, h => by
    cases ks with
    | nil => simp at e
    | cons x ks =>
      have e1 : D.key x = some k := by simpa using (List.cons.inj e).1
      have e2 : ks.map D.key = kvs.map (fun p => some p.1) := (List.cons.inj e).2
      cases h with
      | @cons _ _ o os f1 f2 h hs =>
        have ih := dGet_own (kk := kk) e2 hs
        by_cases g : k = kk
        · rw [dGet, if_pos (by rw [e1, g])]
          refine ⟨fun o' z => ?_, fun z => nomatch z⟩
          cases z
          exact ⟨w, f1, valV_pos g, h⟩
        · rw [dGet, if_neg (by rw [e1]; exact fun z => g (Option.some.inj z)), valV_neg g]
          exact ih
/-- a dict at a name, owned or known -/
def atDk (i : Nat) (c : Env) : Option (List D × List O) := match c[i]? with
  | some (some (.dic ks os)) => some (ks, os)
  | some (some (.v (.dic ks ds))) => some (ks, ds.map .v)
  | some (some (.v (.dlk ks ds))) => some (ks, ds.map .v)
  | _ => none
theorem Abs.dict {E : Wd} {B : Bs} {G H : Hp} {c : Env} {σ : L2.St} {fp : List Addr} {i : Nat} {q : List D × List O} (A : Abs E B G H c σ fp) (h : atDk i c = some q) :
    ∃ a kvs fq, σ[i]? = some (some (.ref a)) ∧ Rd H a (.dK kvs) ∧ q.1.map D.key = kvs.map (fun p => some p.1) ∧ OwnL E G H (kvs.map (·.2)) q.2 fq := by
  unfold atDk at h
  split at h
  · rename_i ks os e1
    cases h
    obtain ⟨v, fq, h1, h2, _⟩ := A.cells.get e1
    cases h2 with
    | @dic a kvs _ _ fq ha hk ho => exact ⟨a, kvs, fq, h1, .inl ha, hk, ho⟩
  · rename_i ks ds e1
    cases h
    obtain ⟨v, fq, h1, h2, _⟩ := A.cells.get e1
    cases h2 with
    | v r =>
      cases r with
      | @dic a kvs _ _ hr hk ho => exact ⟨a, kvs, [], h1, Same.rd A.fine.le hr, hk, ownL_v ho⟩
  · rename_i ks ds e1
    cases h
    obtain ⟨v, fq, h1, h2, _⟩ := A.cells.get e1
    cases h2 with
    | v r =>
      cases r with
      | @dlk a o kvs _ _ hr hk ho => exact ⟨a, kvs, [], h1, .inr ⟨o, A.fine.le _ _ hr⟩, hk, ownL_v ho⟩
  · cases h
theorem dget_rd {H : Hp} {a : Addr} {kvs : List (Key × V)} {k : Key} (h : Rd H a (.dK kvs)) : DGet H a (kV k) (valV kvs k) := .inl ⟨kvs, k, h, rfl, rfl⟩
/-- d[k] of an owned dict whose items are values -/
def eDIx (i : Nat) (gk : Env → R D) : Env → R D := fun c => match atDk i c with
  | some q => gk c >>= fun k => lift (D.key k) >>= fun kk => lift ((dGet q.1 q.2 kk).bind fun o => match o with | .v d => some d | _ => none)
  | none => .stuck
theorem px_dix {x : Str} {p : Pos} (i : Nat) {eb : Expr} {gb : Env → R D} (hu : X.A.units + 1 < cLine) (hb : PX X W b eb gb) (hN : X.N[i]? = some x := by rfl) (hv : Vis X.env.scope x := by first | exact Or.inl rfl | exact Or.inr (Or.inl rfl) | exact Or.inr (Or.inr rfl)) (hd : (x == ("__debug__" : Str)) = false := by decide)
    (hcd : (x == ("__classdict__" : Str)) = false := by decide) (hs : NoSl eb := by exact fun _ _ => rfl) : PX X W true (.Subscript (.Name x p) eb pos) (eDIx i gb) :=
  pe_mono (pe_dget hu (pe_var hN hv hd hcd) hb hs) fun σ H Q ⟨B, G, c, fp, A, q⟩ => by
    unfold eDIx at q
    split at q
    · rename_i ko e0
      obtain ⟨a0, kvs0, fq0, h1, _, _, _⟩ := A.dict e0
      refine ⟨_, h1, tx_seq A q fun k e3 w G1 H1 s1 t1 A1 r1 q1 => ?_⟩
      cases hk : D.key k with
      | none => rw [hk] at q1; exact q1.elim
      | some kk =>
        rw [hk] at q1
        obtain ⟨d, e4, p4⟩ := Res.lift q1
        obtain ⟨a, kvs, fq, h1', ha, hk', ho⟩ := A1.dict e0
        rw [h1] at h1'
        cases h1'
        obtain ⟨o, e5, e6⟩ := Option.bind_eq_some_iff.mp e4
        obtain ⟨v8, f8, e9, e10⟩ := (dGet_own (kk := kk) hk' ho).1 o e5
        cases o with
        | v d' =>
          cases e6
          cases e10 with
          | v rv =>
            have hw := rp_key r1 hk
            subst hw
            exact ⟨_, v8, rfl, by rw [← e9]; exact dget_rd ha, p4 _ G1 H1 s1 t1 A1 rv⟩
        | _ => cases e6
    · exact q.elim
/-- k in d, of an owned dict -/
def eDIn (neg : Bool) (i : Nat) (gk : Env → R D) : Env → R D := fun c => match atDk i c with
  | some q => gk c >>= fun k => lift (D.key k) >>= fun kk => .ok (.bl (cond neg (!hasK q.1 kk) (hasK q.1 kk)))
  | none => .stuck
theorem TXin {i : Nat} {gb : Env → R D} {neg : Bool} {td : TE} {σ : L2.St} {H : Hp} {Q : VK} (hv : ∀ (σ : L2.St) (H : Hp) (Q : VK) (v : V), σ[i]? = some (some v) → Q v H → td σ H Q)
    (q : TX ⟨X.K, X.mg⟩ W true (eDIn neg i gb) σ H Q) : TX ⟨X.K, X.mg⟩ W b gb σ H fun y H1 => td σ H1 fun x H2 => ∃ a o, x = .ref a ∧ DGet H2 a y o ∧ Q (.bl (cond neg (!o.isSome) o.isSome)) H2 := by
  obtain ⟨B, G, c, fp, A, q⟩ := q
  unfold eDIn at q
  split at q
  · rename_i ko e0
    obtain ⟨a0, kvs0, fq0, h1, _, _, _⟩ := A.dict e0
    refine tx_seq A q fun k e3 w G1 H1 s1 t1 A1 r1 q1 => hv σ H1 _ _ h1 ?_
    cases hk : D.key k with
    | none => rw [hk] at q1; exact q1.elim
    | some kk =>
      rw [hk] at q1
      obtain ⟨a, kvs, fq, h1', ha, hk', ho⟩ := A1.dict e0
      rw [h1] at h1'
      cases h1'
      have hw := rp_key r1 hk
      subst hw
      refine ⟨_, _, rfl, dget_rd ha, ?_⟩
      rw [← valV_any, ← hasK_kvs hk' kk]
      exact q1 _ G1 H1 s1 t1 A1 (.bl _)
  · exact q.elim
theorem px_din {x : Str} {p : Pos} (i : Nat) {eb : Expr} {gb : Env → R D} (hu : X.A.units + 1 < cLine) (hb : PX X W b eb gb) (hN : X.N[i]? = some x := by rfl) (hv : Vis X.env.scope x := by first | exact Or.inl rfl | exact Or.inr (Or.inl rfl) | exact Or.inr (Or.inr rfl)) (hd : (x == ("__debug__" : Str)) = false := by decide)
    (hcd : (x == ("__classdict__" : Str)) = false := by decide) : PX X W true (.Compare eb [.In] [.Name x p] pos) (eDIn false i gb) :=
  pe_mono (pe_cmp (pc_din hu hb (pe_var hN hv hd hcd)) rfl) fun σ H Q q => TXin (neg := false) (fun σ H Q v e q => ⟨v, e, q⟩) q
theorem px_dnotin {x : Str} {p : Pos} (i : Nat) {eb : Expr} {gb : Env → R D} (hu : X.A.units + 1 < cLine) (hb : PX X W b eb gb) (hN : X.N[i]? = some x := by rfl) (hv : Vis X.env.scope x := by first | exact Or.inl rfl | exact Or.inr (Or.inl rfl) | exact Or.inr (Or.inr rfl)) (hd : (x == ("__debug__" : Str)) = false := by decide)
    (hcd : (x == ("__classdict__" : Str)) = false := by decide) : PX X W true (.Compare eb [.NotIn] [.Name x p] pos) (eDIn true i gb) :=
  pe_mono (pe_cmp (pc_dnotin hu hb (pe_var hN hv hd hcd)) rfl) fun σ H Q q => TXin (neg := true) (fun σ H Q v e q => ⟨v, e, q⟩) q
theorem pxt_din {x : Str} {p : Pos} (i : Nat) {eb : Expr} {gb : Env → R D} (hu : X.A.units + 1 < cLine) (hb : PX X W b eb gb) (hN : X.N[i]? = some x := by rfl) (hv : Vis X.env.scope x := by first | exact Or.inl rfl | exact Or.inr (Or.inl rfl) | exact Or.inr (Or.inr rfl)) (hd : (x == ("__debug__" : Str)) = false := by decide)
    (hcd : (x == ("__classdict__" : Str)) = false := by decide) : PXT X W (.Compare eb [.In] [.Name x p] pos) (eB (eDIn false i gb)) :=
  pt_mono (pt_cmp (pc_din hu hb (pe_var hN hv hd hcd)) rfl) fun σ H Q q => TXin (neg := false) (fun σ H Q v e q => ⟨v, e, q⟩) (tx_test (b := true) σ H Q q)
theorem pxt_dnotin {x : Str} {p : Pos} (i : Nat) {eb : Expr} {gb : Env → R D} (hu : X.A.units + 1 < cLine) (hb : PX X W b eb gb) (hN : X.N[i]? = some x := by rfl) (hv : Vis X.env.scope x := by first | exact Or.inl rfl | exact Or.inr (Or.inl rfl) | exact Or.inr (Or.inr rfl)) (hd : (x == ("__debug__" : Str)) = false := by decide)
    (hcd : (x == ("__classdict__" : Str)) = false := by decide) : PXT X W (.Compare eb [.NotIn] [.Name x p] pos) (eB (eDIn true i gb)) :=
  pt_mono (pt_cmp (pc_dnotin hu hb (pe_var hN hv hd hcd)) rfl) fun σ H Q q => TXin (neg := true) (fun σ H Q v e q => ⟨v, e, q⟩) (tx_test (b := true) σ H Q q)
/-! ### a new dict -/
def eDNew : Env → R O := fun _ => .ok (.dic [] [])
theorem pf_dnew : PF X W (.Dict [] [] pos) eDNew :=
  pe_mono pe_dnewK fun σ H Q ⟨B, G, c, fp, A, q⟩ => fun p hp => by
    have q' : PostF ⟨X.K, X.mg⟩ B c σ fp G H Q (.dic [] []) := q
    refine q' (.ref p) G _ [p] (Same.refl _) (same_upd hp) (A.newO hp rfl) (.dic (kvs := []) upd_same rfl .nil) (by simp) fun q hq => ?_
    have : q = p := by simpa using hq
    subst this
    exact ⟨hp, A.fine.fresh hp⟩
/-- {k: v} of constants -/
def eD1 (k d : D) : Env → R O := fun _ => .ok (.dic [k] [.v d])
theorem pf_d1 {ke ve : Expr} {k d : D} {kk : Key} {w : V} (hk : PE X ke fun _ H Q => Q (kV kk) H) (hv : PE X ve fun _ H Q => Q w H) (ek : D.key k = some kk) (hd : ∀ G : Hp, Rp ⟨X.K, X.mg⟩ G w d) : PF X W (.Dict [some ke] [ve] pos) (eD1 k d) :=
  pe_mono (pe_disp (pps_cons hk hv pps_nil) rfl rfl (by simp) (by simp)) fun σ H Q ⟨B, G, c, fp, A, q⟩ => fun p hp => by
    have q' : PostF ⟨X.K, X.mg⟩ B c σ fp G H Q (.dic [k] [.v d]) := q
    refine ⟨upd_same, [(kk, w)], rfl, by simp, ?_⟩
    have e : upd (upd H p (.dK [])) p (.dK (mergeK [] [(kk, w)])) = upd H p (.dK [(kk, w)]) := by
      funext a
      by_cases ha : a = p
      · subst ha; rw [upd_same, upd_same]; rfl
      · rw [upd_ne ha, upd_ne ha, upd_ne ha]
    rw [e]
    refine q' (.ref p) G _ [p] (Same.refl _) (same_upd hp) (A.newO hp rfl) (.dic (kvs := [(kk, w)]) upd_same (by simp [ek]) (.cons (.v (hd G)) .nil)) (by simp) fun q hq => ?_
    have : q = p := by simpa using hq
    subst this
    exact ⟨hp, A.fine.fresh hp⟩
theorem kc_int {i : Int} {j : Nat} : PE X (.Constant (.int i) j pos) fun _ H Q => Q (kV (.inl i)) H := pe_mono pe_int fun _ _ _ q => q
theorem kc_str {x : Str} {j : Nat} (l : List Nat) (h : x = S l := by decide +kernel) : PE X (.Constant (.str x) j pos) fun _ H Q => Q (kV (.inr (S l))) H := by
  subst h
  exact pe_mono pe_str fun _ _ _ q => q
theorem vc_int {i : Int} {j : Nat} : PE X (.Constant (.int i) j pos) fun _ H Q => Q (.int i) H := pe_mono pe_int fun _ _ _ q => q
theorem vc_bl {t : Bool} {j : Nat} : PE X (.Constant (.bool t) j pos) fun _ H Q => Q (.bl t) H := pe_mono pe_bl fun _ _ _ q => q
theorem vc_str {x : Str} {j : Nat} (l : List Nat) (h : x = S l := by decide +kernel) : PE X (.Constant (.str x) j pos) fun _ H Q => Q (.str (S l)) H := by
  subst h
  exact pe_mono pe_str fun _ _ _ q => q
/-! ### list(d), the keys -/
def fListD : List D → Option D
  | [.dic ks _] => some (.lst ks)
  | _ => none
theorem ok_listD : CallOk ⟨X.K, X.mg⟩ (fun xs H Q => ∃ (a : Addr) (kvs : List (Key × V)), xs = [.ref a] ∧ Rd H a (.dK kvs) ∧ ∀ p, H p = none → Q (.ref p) (upd H p (.lst (kvs.map fun kv => kV kv.1)))) b true fListD := by
  intro B G H c σ fp vs ds d Q A r e p
  unfold fListD at e
  split at e
  · cases e
    obtain ⟨v, rfl, rv⟩ := r.one
    cases rv with
    | dic h hk hr => exact ⟨_, _, rfl, Same.rd (same_vw b A.fine.le) h, fun q hq => p.new A hq fun s => .lst (.inl (.inl upd_same)) (keys_rp hk)⟩
  · cases e
/-! ### d.get(k, e) of an owned dict whose items are values -/
def eDGt (i : Nat) (gk ge : Env → R D) : Env → R D := fun c => match atDk i c with
  | some q => gk c >>= fun k => lift (D.key k) >>= fun kk => ge c >>= fun d => lift (match dGet q.1 q.2 kk with | some (.v e) => some e | some _ => none | none => some d)
  | none => .stuck
theorem px_dgt {x : Str} {p apos cpos : Pos} (i : Nat) {eb ef : Expr} {gb ge : Env → R D} (hu : X.A.units + 1 < cLine) (hb : PX X W b eb gb) (he : PX X W true ef ge) (m : M2 X (.Name x p) "get" apos eb ef cpos) (hN : X.N[i]? = some x := by rfl) (hv : Vis X.env.scope x := by first | exact Or.inl rfl | exact Or.inr (Or.inl rfl) | exact Or.inr (Or.inr rfl)) (hd : (x == ("__debug__" : Str)) = false := by decide)
    (hcd : (x == ("__classdict__" : Str)) = false := by decide) : PX X W true (.Call (.Attribute (.Name x p) "get" apos) [eb, ef] [] cpos) (eDGt i gb ge) :=
  pe_mono (pe_dget2 hu (pe_var hN hv hd hcd) hb he m) fun σ H Q ⟨B, G, c, fp, A, q⟩ => by
    unfold eDGt at q
    split at q
    · rename_i ko e0
      obtain ⟨a, kvs, fq, h1, ha, hk', ho⟩ := A.dict e0
      · refine ⟨_, h1, a, rfl, .inl ⟨kvs, ha⟩, tx_seq A q fun k e3 w G1 H1 s1 t1 A1 r1 q1 => ?_⟩
        cases hk : D.key k with
        | none => rw [hk] at q1; exact q1.elim
        | some kk =>
          rw [hk] at q1
          refine tx_seq A1 q1 fun d e4 w2 G2 H2 s2 t2 A2 r2 q2 => ?_
          obtain ⟨d3, e5, p4⟩ := Res.lift q2
          obtain ⟨a', kvs, fq, h1', ha, hk', ho⟩ := A2.dict e0
          rw [h1] at h1'
          cases h1'
          · have g := dGet_own (kk := kk) hk' ho
            have hw := rp_key r1 hk
            subst hw
            refine ⟨valV kvs kk, dget_rd ha, ?_⟩
            split at e5
            · rename_i e6
              cases e5
              obtain ⟨v8, f8, e9, e10⟩ := g.1 _ e6
              rw [e9]
              cases e10 with
              | v rv => exact p4 _ G2 H2 (s1.trans s2) (t1.trans t2) A2 rv
            · cases e5
            · rename_i e6
              cases e5
              rw [g.2 e6]
              exact p4 _ G2 H2 (s1.trans s2) (t1.trans t2) A2 r2
    · exact q.elim
end
end VS

/-! VS: a range downward. -/
namespace VS
open PySem PySem.Spec PyProof.Rows L2
def rangeN (i j : Int) : List D := (List.range (i - j).toNat).map fun (k : Nat) => .int (i + (k : Int) * (-1))
def eItN (ga gb gc : Env → R D) : Env → R (List D) := fun c => ga c >>= fun d => lift (asI d) >>= fun lo => gb c >>= fun d2 => lift (asI d2) >>= fun hi => gc c >>= fun d3 => match d3 with
  | .int s => if s = -1 then .ok (rangeN lo hi) else .stuck
  | _ => .stuck
theorem wk_rngN {E : Wd} {Hs G : Hp} {i j : Int} : Wk E (Itc i (-1) (i - j).toNat) Hs G (rangeN i j) := by
  have hl : (rangeN i j).length = (i - j).toNat := by simp [rangeN]
  refine ⟨fun k H s hk => ?_, fun k H x H' s y => ⟨y.1, fun d e => ?_⟩, fun k H s hk => ?_⟩
  · rw [hl] at hk; exact hk
  · unfold rangeN at e
    rw [List.getElem?_map] at e
    obtain ⟨m, hm, rfl⟩ := Option.map_eq_some_iff.mp e
    obtain ⟨hk, rfl⟩ := List.getElem?_eq_some_iff.mp hm
    rw [List.getElem_range, y.2]
    exact .int _
  · rw [hl] at hk; exact hk
section
variable {X : Cx} {W : WX} {b b2 b3 b' : Bool} {tg : Expr}
theorem src_rn {a a2 a3 : Expr} {ga gb gc : Env → R D} {p2 p3 : Pos} (hm : X.mg "range" = none) (h : PX X W b a ga) (h2 : PX X W b2 a2 gb) (h3 : PX X W b3 a3 gc) (hg : Gl X "range" := by rfl)
    (hs1 : starEach [a3] X.env = (false, eval a3 X.env) :: starEach [] X.env := by rfl) (hs2 : starEach [a2, a3] X.env = (false, eval a2 X.env) :: starEach [a3] X.env := by rfl)
    (hs3 : starEach [a, a2, a3] X.env = (false, eval a X.env) :: starEach [a2, a3] X.env := by rfl) (hpl : (backTo p3 (starEach [a2, a3] X.env)).any (·.1) = false := by rfl) :
    PSrc X W b' tg (.Call (.Name "range" p2) [a, a2, a3] [] p3) (iRng3 (tCons (TX ⟨X.K, X.mg⟩ W b ga) (tCons (TX ⟨X.K, X.mg⟩ W b2 gb) (tCons (TX ⟨X.K, X.mg⟩ W b3 gc) tNil)))) (eItN ga gb gc) :=
  ⟨pi_range3 hg hm (pa_cons h (pa_cons h2 (pa_cons h3 pa_nil hs1) hs2) hs3) hs3 hpl, fun {B G H c σ fp P R} A q k => by
    refine tx_seq A q fun d e v G1 H1 s1 t1 A1 r1 q1 => ?_
    cases hd : asI d with
    | none => rw [hd] at q1; exact q1.elim
    | some lo =>
      rw [hd] at q1
      obtain ⟨rfl, h1, h2⟩ := asI_rp r1 hd
      refine tx_seq A1 q1 fun d2 e2 v2 G2 H2 s2 t2 A2 r2 q2 => ?_
      cases hd2 : asI d2 with
      | none => rw [hd2] at q2; exact q2.elim
      | some hi =>
        rw [hd2] at q2
        obtain ⟨rfl, h3, h4⟩ := asI_rp r2 hd2
        refine tx_seq A2 q2 fun d3 e3 v3 G3 H3 s3 t3 A3 r3 q3 => ?_
        cases d3 with
        | int s =>
          by_cases hs : s = -1
          · subst hs
            have q4 : Res ⟨X.K, X.mg⟩ W B c σ fp G3 H3 (if (-1 : Int) = -1 then VS.R.ok (rangeN lo hi) else .stuck) P := q3
            rw [if_pos rfl] at q4
            refine ⟨lo, hi, -1, _, by rw [r3.intH], RgC.neg h1 h2 h3 h4, k _ G3 H3 _ ?_ ((s1.trans s2).trans s3) ((t1.trans t2).trans t3) A3 wk_rngN q4⟩
            unfold eItN
            rw [e]
            simp only [ok_bind, hd, lift_some, e2, hd2, e3]
            rfl
          · have q4 : Res ⟨X.K, X.mg⟩ W B c σ fp G3 H3 (if s = -1 then VS.R.ok (rangeN lo hi) else .stuck) P := q3
            rw [if_neg hs] at q4
            exact q4.elim
        | _ => exact q3.elim⟩
end
end VS

/-! VS: lists of owned lists. -/
namespace VS
open PySem PySem.Spec PyProof.Rows L2

def compLO (t : Env → R Bool) (g : Env → R O) (i : Nat) (c : Env) : List D → R (List O)
  | [] => .ok []
  | d :: ds => noX (t (c.set i (some (.v d)))) >>= fun b => if b then noX (g (c.set i (some (.v d)))) >>= fun x => compLO t g i c ds >>= fun xs => .ok (x :: xs) else compLO t g i c ds
def eLcsO (gs : Env → R (List D)) (t : Env → R Bool) (g : Env → R O) (i : Nat) : Env → R (List O) := fun c => gs c >>= fun ds => compLO t g i c ds >>= fun es => if es.length ≤ 16777216 then .ok es else .stuck
def eLcOO (gs : Env → R (List D)) (t : Env → R Bool) (g : Env → R O) (i : Nat) : Env → R O := fun c => eLcsO gs t g i c >>= fun es => .ok (.lst es)
/-- what stands between two turns of a comprehension of new things -/
structure LcAtO (E : Wd) (B : Bs) (c : Env) (σ : L2.St) (fp : List Addr) (H1 G1 : Hp) (p : Addr) (os : List O) (H : Hp) : Prop where
  ex : ∃ G' vs fq, Same G1 G' ∧ Abs E B G' H c σ fp ∧ H p = some (.lst vs) ∧ G' p = none ∧ OwnL E G' H vs os fq ∧ fq.Nodup ∧ p ∉ fq ∧ ∀ q ∈ fq, H1 q = none ∧ G' q = none
theorem OwnL.there {E : Wd} {G H : Hp} : ∀ {vs : List V} {os : List O} {fp : List Addr}, OwnL E G H vs os fp → ∀ p ∈ fp, H p ≠ none
  | _, [], _, h, p, hp => by cases h; cases hp
  | _, o :: os, _, h, p, hp => by
    cases h with
    | cons h r => exact (List.mem_append.mp hp).elim (fun z => h.there p z) fun z => r.there p z
section
variable {X : Cx} {W : WX} {pn : List Nat} {e elt : Expr} {ifs : List Expr} {pos : Pos} {wi : TI} {gs : Env → R (List D)} {t : Env → R Bool} {g : Env → R O} {i : Nat}
theorem compLO_ex : ∀ ds x (c : Env), compLO t g i c ds ≠ .ex x := by
  intro ds
  induction ds with
  | nil => intro x c z; cases z
  | cons d ds ih =>
    intro x c z
    rw [compLO] at z
    cases ht : t (c.set i (some (.v d))) with
    | ok b =>
      rw [ht] at z
      simp only [noX_ok, ok_bind] at z
      split at z
      · cases hg : g (c.set i (some (.v d))) with
        | ok y =>
          rw [hg] at z
          simp only [noX_ok, ok_bind] at z
          cases hc : compLO t g i c ds with
          | ok ys => rw [hc] at z; cases z
          | ex y => exact ih y _ hc
          | stuck => rw [hc] at z; cases z
        | ex y => rw [hg] at z; cases z
        | stuck => rw [hg] at z; cases z
      · exact ih x _ z
    | ex y => rw [ht] at z; cases z
    | stuck => rw [ht] at z; cases z
theorem tlc_ofO (K : PySem.W.Frag) (mg : Str → Option Value) (hX : X.K = K) (hmg : X.mg = mg) {tg : Expr} {b : Bool} (ha : PSrc X W b tg e wi gs) {B : Bs} {G H : Hp} {c : Env} {σ : L2.St} {fp : List Addr} {Q : VK} {P : List O → Prop} (A : Abs ⟨X.K, X.mg⟩ B G H c σ fp) (q : Res ⟨X.K, X.mg⟩ W B c σ fp G H (eLcsO gs t g i c) P)
    (k : ∀ es G1 H1 H2 p, Same G G1 → Same H H1 → Same H H2 → H p = none → p ∉ fp → B.H0 p = none → LcAtO ⟨X.K, X.mg⟩ B c σ fp H1 G1 p es H2 → P es → Q (.ref p) H2) : tLc wi (gName i) (TXT ⟨X.K, X.mg⟩ W0 t) (TF ⟨X.K, X.mg⟩ W0 g) [i] σ H Q := by
  refine ha.run (P := fun ds => Res ⟨X.K, X.mg⟩ W B c σ fp G H (compLO t g i c ds >>= fun es => if es.length ≤ 16777216 then R.ok es else .stuck) P) A ?_ fun ds G1 H1 J eds s1 t1 A1 w q1 => ?_
  · unfold eLcsO at q
    cases h : gs c with
    | ok ds => rw [h] at q; exact q
    | ex x => rw [h] at q; exact q
    | stuck => rw [h] at q; exact q
  · intro p hp
    cases hes : compLO t g i c ds with
    | stuck => rw [hes] at q1; exact q1.elim
    | ex x => exact (compLO_ex ds x c hes).elim
    | ok tot =>
      rw [hes] at q1
      by_cases hl : tot.length ≤ 16777216
      · have q2 : Res ⟨X.K, X.mg⟩ W B c σ fp G H (if tot.length ≤ 16777216 then R.ok tot else .stuck) P := q1
        rw [if_pos hl] at q2
        have pf : p ∉ fp := fun z => A1.cells.there p z hp
        have p0 : B.H0 p = none := A1.fine.there p hp
        refine ⟨fun j m H => m = ds.length - j ∧ j ≤ ds.length ∧ Same H1 (fun a => if a = p then H1 a else H a) ∧ ∃ es rest, LcAtO ⟨X.K, X.mg⟩ B c σ fp H1 G1 p es H ∧ compLO t g i c (ds.drop j) = .ok rest ∧ es ++ rest = tot,
          ⟨ds.length, by simp, Nat.zero_le _, fun a o e => ?_, [], tot, ⟨G1, [], [], Same.refl _, A1.newO hp rfl, upd_same, A1.fine.fresh hp, .nil, List.nodup_nil, (fun z => nomatch z), (fun q hq => nomatch hq)⟩, hes, rfl⟩, ?_⟩
        · have hne : a ≠ p := ne_of_none e hp
          show (if a = p then H1 a else upd H1 p (.lst []) a) = some o
          rw [if_neg hne, upd_ne hne]; exact e
        · rintro j m H2 ⟨rfl, hj, sm, es, rest, ⟨G2, vs, fq, s2, A2, hD, gD, r2, n2, d2, f2⟩, hc, htot⟩
          have ws : Same (vw b G1 H1) H2 := by
            cases b with
            | true => exact s2.trans A2.fine.le
            | false =>
              intro a o e
              have e : H1 a = some o := e
              have z := sm a o e
              have z : (if a = p then H1 a else H2 a) = some o := z
              rw [if_neg (ne_of_none e hp)] at z
              exact z
          by_cases hlt : j < ds.length
          · refine .inr ⟨w.go j H2 ws hlt, fun H' => j + 1 ≤ ds.length ∧ Same H1 (fun a => if a = p then H1 a else H' a) ∧ ∃ es rest, LcAtO ⟨X.K, X.mg⟩ B c σ fp H1 G1 p es H' ∧ compLO t g i c (ds.drop (j + 1)) = .ok rest ∧ es ++ rest = tot, fun H' ⟨h1, h2, h3⟩ => ⟨_, by omega, rfl, h1, h2, h3⟩, fun x H3 y => ?_⟩
            obtain ⟨rfl, hr⟩ := w.yl j H2 x H3 ws y
            have hd := List.getElem?_eq_getElem hlt
            rw [drop_cons hd, compLO] at hc
            obtain ⟨tb, ht, hc⟩ := bind_ok_eq hc
            have ht := noX_eq ht
            have hsig : (wipe σ [i]).set i (some x) = σ.set i (some x) := by rw [wipe1, List.set_set]
            show (fun σ2 H2 => wipe σ2 [i] = wipe σ [i] ∧ _) ((wipe σ [i]).set i (some x)) H3
            rw [hsig]
            refine ⟨by rw [wipe1, wipe1, List.set_set], ?_⟩
            obtain ⟨B', fr, A3, back⟩ := A2.enter (i := i) ((hr _ hd).mono s2)
            refine ⟨B', G2, _, fr, A3, ?_⟩
            rw [ht]
            intro G4 H4 s4 t4 A4
            have smn : ∀ {Hx Hy : Hp}, Same H1 (fun a => if a = p then H1 a else Hx a) → Same Hx Hy → Same H1 (fun a => if a = p then H1 a else Hy a) := fun {Hx Hy} h1 h2 a o e => by
              have z := h1 a o e
              by_cases hap : a = p
              · show (if a = p then H1 a else Hy a) = some o
                rw [if_pos hap]; exact e
              · have z : (if a = p then H1 a else Hx a) = some o := z
                rw [if_neg hap] at z
                show (if a = p then H1 a else Hy a) = some o
                rw [if_neg hap]; exact h2 a o z
            cases tb with
            | false =>
              rw [if_neg (by decide)]
              have hc : compLO t g i c (ds.drop (j + 1)) = .ok rest := hc
              obtain ⟨A5, gr⟩ := back G4 H4 _ _ _ s4 t4 A4
              exact ⟨hlt, smn sm t4, es, rest, ⟨G4, vs, fq, s2.trans s4, A5, t4 p _ hD, gr p (by rw [hD]; exact fun z => nomatch z) gD, r2.keep s4 (fun q hq u e => t4 q u e), n2, d2, fun q hq => ⟨(f2 q hq).1, gr q (r2.there q hq) (f2 q hq).2⟩⟩, hc, htot⟩
            | true =>
              rw [if_pos rfl]
              have hc : (noX (g (c.set i (some (.v ds[j])))) >>= fun x => compLO t g i c (ds.drop (j + 1)) >>= fun xs => R.ok (x :: xs)) = .ok rest := hc
              obtain ⟨x1, hg, hc⟩ := bind_ok_eq hc
              have hg := noX_eq hg
              obtain ⟨xs, hxs, hc⟩ := bind_ok_eq hc
              cases hc
              refine ⟨B', G4, _, fr, A4, ?_⟩
              rw [hg]
              intro v5 G5 H5 fn s5 t5 A5 w5 n5 d5
              obtain ⟨A6, gr⟩ := back G5 H5 _ _ _ (s4.trans s5) (t4.trans t5) A5
              have hD5 : H5 p = some (.lst vs) := t5 p _ (t4 p _ hD)
              have g5 : G5 p = none := gr p (by rw [hD]; exact fun z => nomatch z) gD
              have hvl : vs.length = es.length := r2.length
              have hle : es.length < tot.length := by rw [← htot]; simp
              have pn5 : p ∉ fn := fun z => by
                have := (d5 p z).1
                rw [t4 p _ hD] at this; cases this
              have h1n : ∀ q, H4 q = none → H1 q = none := fun q e => by
                cases h : H1 q with
                | none => rfl
                | some o =>
                  have z := smn sm t4 q o h
                  have z : (if q = p then H1 q else H4 q) = some o := z
                  rw [if_neg (ne_of_none h hp), e] at z
                  cases z
              have upk : ∀ {q : Addr} {u : HO}, q ≠ p → H5 q = some u → upd H5 p (.lst (vs ++ [v5])) q = some u := fun hq e => by rw [upd_ne hq]; exact e
              refine ⟨vs, hD5, by rw [hvl, sizeLine_eq]; omega, hlt, fun a o e => ?_, es ++ [x1], xs, ⟨G5, vs ++ [v5], fq ++ (fn ++ []), s2.trans (s4.trans s5), A6.pokeOut pf g5 p0 rfl, upd_same, g5, ?_, ?_, ?_, ?_⟩, hxs, by rw [← htot]; simp⟩
              · have z := smn (smn sm t4) t5 a o e
                by_cases hap : a = p
                · show (if a = p then H1 a else _) = some o
                  rw [if_pos hap]; exact e
                · have z : (if a = p then H1 a else H5 a) = some o := z
                  rw [if_neg hap] at z
                  show (if a = p then H1 a else upd H5 p _ a) = some o
                  rw [if_neg hap, upd_ne hap]; exact z
              · refine (r2.keep (s4.trans s5) fun q hq u e => upk (fun z => d2 (z ▸ hq)) (t5 q u (t4 q u e))).append (.cons ?_ .nil)
                exact w5.keep (Same.refl _) fun q hq u e => upk (fun z => pn5 (z ▸ hq)) e
              · rw [List.append_nil]
                refine List.nodup_append.mpr ⟨n2, n5, fun a ha b hb e => ?_⟩
                subst e
                have z1 := r2.there a ha
                cases hh : H3 a with
                | none => exact z1 hh
                | some o =>
                  have := (d5 a hb).1
                  rw [t4 a o hh] at this
                  cases this
              · rw [List.append_nil]
                exact fun z => (List.mem_append.mp z).elim d2 pn5
              · rw [List.append_nil]
                intro q hq
                rcases List.mem_append.mp hq with z | z
                · exact ⟨(f2 q z).1, gr q (r2.there q z) (f2 q z).2⟩
                · exact ⟨h1n q (d5 q z).1, (d5 q z).2⟩
          · have ej : j = ds.length := by omega
            subst ej
            rw [List.drop_length] at hc
            cases hc
            rw [List.append_nil] at htot
            subst htot
            have smH : Same H H2 := fun a o e => by
              have e1 := t1 a o e
              have z := sm a o e1
              have z : (if a = p then H1 a else H2 a) = some o := z
              rw [if_neg (ne_of_none e1 hp)] at z
              exact z
            exact .inl ⟨w.st _ H2 ws (Nat.le_refl _), k es G1 H1 H2 p s1 t1 smH (t1.free hp) pf p0 ⟨G2, vs, fq, s2, A2, hD, gD, r2, n2, d2, f2⟩ q2⟩
      · have q2 : Res ⟨X.K, X.mg⟩ W B c σ fp G H (if tot.length ≤ 16777216 then R.ok tot else .stuck) P := q1
        rw [if_neg hl] at q2
        exact q2.elim
theorem tlc_oo {tg : Expr} {b : Bool} (ha : PSrc X W b tg e wi gs) : ∀ σ H Q, TF ⟨X.K, X.mg⟩ W (eLcOO gs t g i) σ H Q → tLc wi (gName i) (TXT ⟨X.K, X.mg⟩ W0 t) (TF ⟨X.K, X.mg⟩ W0 g) [i] σ H Q := fun σ H Q ⟨B, G, c, fp, A, q⟩ => by
  refine tlc_ofO X.K X.mg rfl rfl ha A (P := fun es => PostF ⟨X.K, X.mg⟩ B c σ fp G H Q (.lst es)) ?_ fun es G1 H1 H2 p s1 t1 t2 hp pf p0 l q1 => ?_
  · unfold eLcOO at q
    cases h : eLcsO gs t g i c with
    | ok es => rw [h] at q; exact q
    | ex x => rw [h] at q; exact q
    | stuck => rw [h] at q; exact q
  · obtain ⟨G2, vs, fq, s2, A2, hD, gD, r2, n2, d2, f2⟩ := l
    refine q1 _ _ _ (p :: fq) (s1.trans s2) t2 A2 (.lst hD r2) (List.nodup_cons.mpr ⟨d2, n2⟩) fun a ha => ?_
    rcases List.mem_cons.mp ha with z | z
    · subst z; exact ⟨hp, gD⟩
    · exact ⟨t1.free (f2 a z).1, (f2 a z).2⟩
section
variable {x y : Str} {p py : Pos} {scope : Scope} {spos : Pos}
theorem pf_lcO (i : Nat) (hc : X.calm = true) (hN : X.N.Nodup) {b : Bool} (ha : PSrc X W b (.Name x p) e wi gs) (ok : BlkOk X.N X.env.scope scope [(x, i)])
    (hg : ∀ (s : Shared) (H : Hp) (C : Addr) (cl : List (Str × Addr)) (fp : List Addr), PG (X.blk s H scope (compEnvC scope cl C X.env) fp) (.Name x p) (gName i)) (ht : ∀ (s : Shared) (H : Hp) (C : Addr) (cl : List (Str × Addr)) (fp : List Addr), PXTs (X.blk s H scope (compEnvC scope cl C X.env) fp) ifs t)
    (he : ∀ (s : Shared) (H : Hp) (C : Addr) (cl : List (Str × Addr)) (fp : List Addr), PF (X.blk s H scope (compEnvC scope cl C X.env) fp) W0 elt g) (hs : ∀ z, foldedSetIterable e X.env z = pure z := by intro _; rfl) :
    PF X W (.ListComp elt [⟨.Name x p, e, ifs, 0⟩] scope pos) (eLcOO gs t g i) := pe_mono (pe_lc (own := [(x, i)]) (tt := TXT ⟨X.K, X.mg⟩ W0 t) (te := TF ⟨X.K, X.mg⟩ W0 g) hc hN ha.pi ok hg ht he hs) (tlc_oo ha)
theorem pxs_setLcOO (k i : Nat) (hc : X.calm = true) (hN : X.N.Nodup) (hsw : swapsWith (.ListComp elt [⟨.Name x p, e, ifs, 0⟩] scope pos) (some (.Name y py)) spos.line X.env = pure true) {b : Bool} (ha : PSrc X W b (.Name x p) e wi gs) (ok : BlkOk X.N X.env.scope scope [(x, i)])
    (hg : ∀ (s : Shared) (H : Hp) (C : Addr) (cl : List (Str × Addr)) (fp : List Addr), PG (X.blk s H scope (compEnvC scope cl C X.env) fp) (.Name x p) (gName i)) (ht : ∀ (s : Shared) (H : Hp) (C : Addr) (cl : List (Str × Addr)) (fp : List Addr), PXTs (X.blk s H scope (compEnvC scope cl C X.env) fp) ifs t)
    (he : ∀ (s : Shared) (H : Hp) (C : Addr) (cl : List (Str × Addr)) (fp : List Addr), PF (X.blk s H scope (compEnvC scope cl C X.env) fp) W0 elt g) (hy : X.N[k]? = some y := by rfl) (hyl : X.env.scope.names.lookup y = some .local := by rfl) (hi : k ∉ pn := by decide) (hs : ∀ z, foldedSetIterable e X.env z = pure z := by intro _; rfl) :
    PXS X W pn (.Assign [.Name y py] (.ListComp elt [⟨.Name x p, e, ifs, 0⟩] scope pos) spos) (sSetO k (eLcOO gs t g i)) :=
  ps_mono (ps_setLc (own := [(x, i)]) (tt := TXT ⟨X.K, X.mg⟩ W0 t) (te := TF ⟨X.K, X.mg⟩ W0 g) hc hN hy hyl hsw ha.pi ok hg ht he hs) fun Dn σ H ⟨B, G, c, fp, A, P, q⟩ => tlc_oo ha σ H _ (tf_st A q fun o e v G1 H1 fq s1 t1 A1 w n d q1 => by
    obtain ⟨fr, A2⟩ := set_fresh A1 (A.cells.there) A.fine.there w n d P hi
    exact q1 _ G1 H1 fr (Same.refl _) A2)
end
end
/-! ### x[i][j] = e -/
/-- an own list that stands in an own list -/
theorem OwnL.poke {E : Wd} {G H : Hp} : ∀ {vs : List V} {os : List O} {fp : List Addr} {j : Nat} {os2 : List O}, OwnL E G H vs os fp → fp.Nodup → os[j]? = some (.lst os2) →
    ∃ (a : Addr) (ws : List V) (f2 : List Addr), vs[j]? = some (.ref a) ∧ H a = some (.lst ws) ∧ OwnL E G H ws os2 f2 ∧ f2.Nodup ∧ a ∉ f2 ∧ (∀ p ∈ a :: f2, p ∈ fp) ∧
      ∀ {ws' : List V} {os' : List O} {f' : List Addr}, OwnL E G (L2.upd H a (.lst ws')) ws' os' f' → f'.Nodup → (∀ p ∈ f', p ∈ f2) → ∃ fq, OwnL E G (L2.upd H a (.lst ws')) vs (os.set j (.lst os')) fq ∧ fq.Nodup ∧ ∀ p ∈ fq, p ∈ fp
  | _, [], _, j, os2, h, n, e => by simp at e
  | _, o :: os, _, 0, os2, h, n, e => by
    cases h with
    | @cons v vs _ _ f1 fr h k =>
      simp at e
      subst e
      cases h with
      | @lst a ws _ f2 ha ho =>
        obtain ⟨n1, n2, n3⟩ := List.nodup_append.mp n
        have nn := List.nodup_cons.mp n1
        refine ⟨a, ws, f2, rfl, ha, ho, nn.2, nn.1, fun p hp => List.mem_append_left _ hp, fun {ws' os' f'} h' m d => ?_⟩
        have ka := k.upd (p := a) (u := .lst ws') (fun z => n3 a List.mem_cons_self a z rfl)
        have d' : ∀ p ∈ a :: f', p ∈ a :: f2 := fun p hp => (List.mem_cons.mp hp).elim (fun z => z ▸ List.mem_cons_self) fun z => List.mem_cons_of_mem _ (d p z)
        refine ⟨_, .cons (.lst upd_same h') ka, List.nodup_append.mpr ⟨List.nodup_cons.mpr ⟨fun z => nn.1 (d a z), m⟩, n2, fun p hp b hb => n3 p (d' p hp) b hb⟩, fun p hp => ?_⟩
        exact (List.mem_append.mp hp).elim (fun z => List.mem_append_left _ (d' p z)) fun z => List.mem_append_right _ z
  | _, o :: os, _, j + 1, os2, h, n, e => by
    cases h with
    | @cons v vs _ _ f1 fr h k =>
      obtain ⟨n1, n2, n3⟩ := List.nodup_append.mp n
      obtain ⟨a, ws, f2, e1, ha, ho, m2, na, hin, hp⟩ := OwnL.poke k n2 (j := j) (by simpa using e)
      refine ⟨a, ws, f2, by simpa using e1, ha, ho, m2, na, fun p hp => List.mem_append_right _ (hin p hp), fun {ws' os' f'} h' m d => ?_⟩
      obtain ⟨fq, k1, k2, k3⟩ := hp h' m d
      have hk := h.keep (H' := L2.upd H a (.lst ws')) (Same.refl _) fun q hq u e => by
        have hne : q ≠ a := fun z => n3 q hq a (hin a List.mem_cons_self) z
        rw [upd_ne hne]; exact e
      exact ⟨_, .cons hk k1, List.nodup_append.mpr ⟨n1, k2, fun p hp b hb => n3 p hp b (k3 b hb)⟩, fun p hp => (List.mem_append.mp hp).elim (fun z => List.mem_append_left _ z) fun z => List.mem_append_right _ (k3 p z)⟩
def atLL (os : List O) (j : Nat) : Option (List O) := match os[j]? with
  | some (.lst os2) => some os2
  | _ => none
theorem atLL_eq {os : List O} {j : Nat} {os2 : List O} (h : atLL os j = some os2) : os[j]? = some (.lst os2) := by
  unfold atLL at h
  split at h
  · cases h; assumption
  · cases h
def sIxSet2 (i : Nat) (gj gk g : Env → R D) : Env → Rs := fun c => (g c).st c fun d => (lift (atL i c)).st c fun os => (gj c).st c fun dj => (lift (asI dj)).st c fun ij => (lift (ixN os.length ij)).st c fun j => (lift (atLL os j)).st c fun os2 =>
  (gk c).st c fun dk => (lift (asI dk)).st c fun ik => (lift (ixN os2.length ik)).st c fun k => .ok .nx (c.set i (some (.lst (os.set j (.lst (os2.set k (.v d)))))))
section
variable {X : Cx} {W : WX} {b : Bool} {pn : List Nat} {e : Expr} {pos : Pos}
theorem pxs_ixset2 {x : Str} {ej ek : Expr} {p p1 p2 : Pos} {b1 b2 : Bool} (i : Nat) {gj gk g : Env → R D} (h : PX X W true e g) (hj : PX X W b1 ej gj) (hk : PX X W b2 ek gk) (hN : X.N[i]? = some x := by rfl) (hv : Vis X.env.scope x := by first | exact Or.inl rfl | exact Or.inr (Or.inl rfl) | exact Or.inr (Or.inr rfl)) (hd : (x == ("__debug__" : Str)) = false := by decide) (hcd : (x == ("__classdict__" : Str)) = false := by decide)
    (hpl : PlainIx ej := by exact fun _ _ => rfl)
    (hs : swapsWithSole [.Subscript (.Subscript (.Name x p) ej p1) ek p2] e pos.line X.env = pure false := by rfl) (hw : swappedStores [.Subscript (.Subscript (.Name x p) ej p1) ek p2] e X.env = pure none := by rfl)
    (h1 : (assignEach [.Subscript (.Subscript (.Name x p) ej p1) ek p2] X.env).map (·.2) = [assign (.Subscript (.Subscript (.Name x p) ej p1) ek p2) X.env] := by rfl)
    (ha : ∀ v, assign (.Subscript (.Subscript (.Name x p) ej p1) ek p2) X.env v = (do
      let ov ← holding [v] (eval (.Subscript (.Name x p) ej p1) X.env)
      let iv ← holding [v, ov] (eval ek X.env)
      standAt p2
      holding [v, ov, iv] (setItem ov iv v)
      release [v, ov, iv] []) := by intro _; rfl) : PXS X W pn (.Assign [.Subscript (.Subscript (.Name x p) ej p1) ek p2] e pos) (sIxSet2 i gj gk g) :=
  ps_mono (ps_asg h (pg_sub (pe_ix ix_list (pe_var hN hv hd hcd) hj hpl) hk set_list ha) hs hw h1) fun Dn σ H ⟨B, G, c, fp, A, P, q⟩ => tx_st A q fun d e w G1 H1 s1 t1 A1 r1 q1 => by
    obtain ⟨os, e0, q1⟩ := lift_st q1
    have e1 := atL_eq e0
    obtain ⟨v, fq, h1, h2, _, _, _⟩ := A1.poke e1
    cases h2 with
    | @lst a vs _ fq ha ho =>
      refine ⟨_, h1, tx_st A1 q1 fun dj e3 w2 G2 H2 s2 t2 A2 r2 q2 => ?_⟩
      obtain ⟨ij, ej, q3⟩ := lift_st q2
      obtain ⟨j, ej2, q3⟩ := lift_st q3
      obtain ⟨os2, e2, q3⟩ := lift_st q3
      have e2 := atLL_eq e2
      have r2 := (asI_rp r2 ej).1
      subst r2
      obtain ⟨v, fq, h1', h2, n, hin, hpk⟩ := A2.poke e1
      rw [h1] at h1'
      cases h1'
      cases h2 with
      | @lst _ vs _ fq ha ho =>
        have nn := List.nodup_cons.mp n
        have haH := ha
        obtain ⟨a2, ws, f2, y1, _, _, _, _, _, _⟩ := ho.poke nn.2 e2
        have hat : atI vs ij = some (.ref a2) := by
          unfold atI
          rw [ho.length, ej2]
          exact y1
        refine ⟨a, vs, ij, _, rfl, rfl, .inl (.inl ha), hat, tx_st A2 q3 fun dk e4 w3 G3 H3 s3 t3 A3 r3 q4 => ?_⟩
        obtain ⟨ik, ek, q4⟩ := lift_st q4
        obtain ⟨k, ek2, q4⟩ := lift_st q4
        have r3 := (asI_rp r3 ek).1
        subst r3
        obtain ⟨v, fq, h1', h2, n, hin, hpk⟩ := A3.poke e1
        rw [h1] at h1'
        cases h1'
        cases h2 with
        | @lst _ vs _ fq ha ho =>
          have nn := List.nodup_cons.mp n
          have ha' := t3 a _ haH
          obtain ⟨a3, ws, f2, y1', y2, y3, y4, y5, y6, y7⟩ := ho.poke nn.2 e2
          have : (V.ref a3) = .ref a2 := by
            rw [ha] at ha'
            cases ha'
            rw [y1] at y1'
            exact (Option.some.inj y1').symm
          cases this
          refine ⟨a2, ws, ik, k, rfl, rfl, y2, by rw [y3.length]; exact ek2, ?_⟩
          have ho2 := y3.upd (p := a2) (u := .lst (ws.set k w)) y5
          obtain ⟨fr, k1, k2, k3⟩ := ho2.setV k (r1.mono (s2.trans s3)) y4
          obtain ⟨fs, z1, z2, z3⟩ := y7 k1 k2 k3
          have hne : a ≠ a2 := fun z => nn.1 (by rw [z]; exact y6 a2 List.mem_cons_self)
          obtain ⟨fp', A4⟩ := hpk (p := a2) (List.mem_cons_of_mem _ (y6 a2 List.mem_cons_self)) (u := .lst (ws.set k w)) rfl (.lst (by rw [upd_ne hne]; exact ha) z1) (List.nodup_cons.mpr ⟨fun z => nn.1 (z3 a z), z2⟩) (fun q hq => by
            rcases List.mem_cons.mp hq with z | z
            · rw [z]; exact List.mem_cons_self
            · exact List.mem_cons_of_mem _ (z3 q z))
          exact q4 σ G3 _ fp' (Same.refl _) A4
end
/-! ### a dict of constants, and .get of a known dict -/
section
variable {X : Cx} {W : WX} {b : Bool} {pos : Pos}
theorem px_dc {keys : List (Option Expr)} {values : List Expr} {trs : List (TE × TE)} (kvs : List (Key × V)) (ks ds : List D) (h : PPs X pos keys values trs) (hc : ∀ σ H R, R (kvs.map fun kv => (kV kv.1, kv.2)) H → tPairs trs σ H R := by exact fun _ _ _ q => q)
    (hm : mergeK [] kvs = kvs := by rfl) (hk : ks.map D.key = kvs.map (fun p => some p.1) := by rfl) (hd : ∀ G : Hp, RpL ⟨X.K, X.mg⟩ G (kvs.map (·.2)) ds) (hall : keys.all (·.isSome) = true := by rfl) (hl : keys.length = values.length := by rfl) (h0 : keys ≠ [] := by simp) (h15 : keys.length ≤ 15 := by decide) (h16 : kvs.length ≤ 15 := by decide) :
    PX X W true (.Dict keys values pos) (eC (.dic ks ds)) :=
  pe_mono (pe_disp h hall hl h0 h15) fun σ H Q ⟨B, G, c, fp, A, q⟩ => fun p hp => hc _ _ _ (by
    have q' : Post ⟨X.K, X.mg⟩ B c σ fp G H true Q (.dic ks ds) := q
    refine ⟨upd_same, kvs, rfl, h16, ?_⟩
    have e : upd (upd H p (.dK [])) p (.dK (mergeK [] kvs)) = upd H p (.dK kvs) := by
      rw [hm]
      funext a
      by_cases ha : a = p
      · subst ha; rw [upd_same, upd_same]
      · rw [upd_ne ha, upd_ne ha, upd_ne ha]
    rw [e]
    exact q'.new A hp fun s => .dic (.inl upd_same) hk (hd _))
def eDGe (gd gk ge : Env → R D) : Env → R D := fun c => gd c >>= fun dd => match dd with
  | .dic ks ds => gk c >>= fun k => lift (D.key k) >>= fun kk => ge c >>= fun d => lift (match dGet ks (ds.map .v) kk with | some (.v e) => some e | some _ => none | none => some d)
  | _ => .stuck
theorem px_dge {o eb ef : Expr} {apos cpos : Pos} {gd gb ge : Env → R D} (hu : X.A.units + 1 < cLine) (hd : PX X W true o gd) (hb : PX X W b eb gb) (he : PX X W true ef ge) (m : M2 X o "get" apos eb ef cpos) : PX X W true (.Call (.Attribute o "get" apos) [eb, ef] [] cpos) (eDGe gd gb ge) :=
  pe_mono (pe_dget2 hu hd hb he m) fun σ H Q ⟨B, G, c, fp, A, q⟩ => tx_seq A q fun dd e0 v0 G0 H0 s0 t0 A0 r0 q0 => by
    cases r0 with
    | @dic a kvs ks ds hr hk' ho =>
      have q0 : Res ⟨X.K, X.mg⟩ W B c σ fp G0 H0 (gb c >>= fun k => lift (D.key k) >>= fun kk => ge c >>= fun d => lift (match dGet ks (ds.map .v) kk with | some (.v e) => some e | some _ => none | none => some d)) (Post ⟨X.K, X.mg⟩ B c σ fp G H true Q) := q0
      refine ⟨a, rfl, .inl ⟨kvs, Same.rd A0.fine.le hr⟩, tx_seq A0 q0 fun k e3 w G1 H1 s1 t1 A1 r1 q1 => ?_⟩
      cases hk : D.key k with
      | none => rw [hk] at q1; exact q1.elim
      | some kk =>
        rw [hk] at q1
        refine tx_seq A1 q1 fun d e4 w2 G2 H2 s2 t2 A2 r2 q2 => ?_
        obtain ⟨d3, e5, p4⟩ := Res.lift q2
        have g := dGet_own (E := ⟨X.K, X.mg⟩) (G := G2) (H := H2) (kk := kk) hk' (ownL_v (ho.mono (s1.trans s2)))
        have hw := rp_key r1 hk
        subst hw
        refine ⟨valV kvs kk, dget_rd (Same.rd (s1.trans (s2.trans A2.fine.le)) hr), ?_⟩
        split at e5
        · rename_i e6
          cases e5
          obtain ⟨v8, f8, e9, e10⟩ := g.1 _ e6
          rw [e9]
          cases e10 with
          | v rv => exact p4 _ G2 H2 (s0.trans (s1.trans s2)) (t0.trans (t1.trans t2)) A2 rv
        · cases e5
        · rename_i e6
          cases e5
          rw [g.2 e6]
          exact p4 _ G2 H2 (s0.trans (s1.trans s2)) (t0.trans (t1.trans t2)) A2 r2
    | _ => exact q0.elim
end
end VS

/-! VS: dicts that are locked from when they are known: walked, made by comprehensions; min of a list; xs[::-1]. -/
namespace VS
open PySem PySem.Spec PyProof.Rows L2

/-! ### locking -/
theorem ps_lockIn {X : Cx} {st : Stmt} {t : TS} (h : PS X st t) : PS X st (fun Dn σ H => t Dn σ H ∨ ∃ d u, H d = some u ∧ Mut (some u) ∧ ∀ od, t Dn σ (upd H d (.frz od u))) := by
  refine ⟨fun pins s σ H D I hw => ?_⟩
  rcases hw with hw | ⟨d, u, hd, mu, hw⟩
  · exact h.run pins s σ H D I hw
  · obtain ⟨od, I1⟩ := I.lock hd mu
    exact h.run pins s σ _ _ I1 (hw od)
theorem pe_lockOut {X : Cx} {e : Expr} {t : TE} (h : PE X e t) : PE X e (fun σ H Q => t σ H fun v H' => ∃ d u, H' d = some u ∧ Mut (some u) ∧ ∀ od, Q v (upd H' d (.frz od u))) := by
  refine ⟨fun pins s σ H Q I hw => ?_⟩
  refine thn (h.run pins s σ H _ I hw) fun v s1 ⟨x, H1, I1, r, d, u, hd, mu, q⟩ => ?_
  obtain ⟨od, I2⟩ := I1.lock hd mu
  exact ⟨x, _, I2, r, q od⟩
def vals : List O → Option (List D)
  | [] => some []
  | .v d :: os => (vals os).map (d :: ·)
  | _ :: _ => none
theorem vals_own {E : Wd} {G H : Hp} : ∀ {vs : List V} {os : List O} {fp : List Addr} {ds : List D}, OwnL E G H vs os fp → vals os = some ds → RpL E G vs ds ∧ fp = []
  | _, [], _, ds, h, e => by cases h; cases e; exact ⟨.nil, rfl⟩
  | _, .v d :: os, _, ds, h, e => by
    cases h with
    | cons h r =>
      obtain ⟨es, e1, rfl⟩ := Option.map_eq_some_iff.mp e
      obtain ⟨h1, h2⟩ := vals_own r e1
      cases h with
      | v rv => subst h2; exact ⟨.cons rv h1, rfl⟩
  | _, .lst _ :: os, _, ds, h, e => by cases e
  | _, .dic _ _ :: os, _, ds, h, e => by cases e
  | _, .obj _ _ _ :: os, _, ds, h, e => by cases e
def fzK (i : Nat) (c : Env) : Option Env := match c[i]? with
  | some (some (.dic ks os)) => (vals os).map fun ds => c.set i (some (.v (.dlk ks ds)))
  | _ => none
def sFzK (i : Nat) (g : Env → Rs) : Env → Rs := fun c => match fzK i c with
  | some c' => g c'
  | none => .stuck
theorem Abs.fzK {E : Wd} {B : Bs} {G H : Hp} {c c' : Env} {σ : L2.St} {fp : List Addr} (A : Abs E B G H c σ fp) (nb : ∀ a, ¬ B.br a) {i : Nat} (h : VS.fzK i c = some c') : ∃ d u, H d = some u ∧ Mut (some u) ∧ ∀ od, ∃ G' fp', Same G G' ∧ Abs E B G' (upd H d (.frz od u)) c' σ fp' := by
  unfold VS.fzK at h
  split at h
  · rename_i ks os e
    obtain ⟨ds, ev, rfl⟩ := Option.map_eq_some_iff.mp h
    obtain ⟨v, fq, h1, h2, h3, h4, h5⟩ := A.cells.poke A.nd e
    cases h2 with
    | @dic a kvs _ _ f1 ha hk ho =>
      obtain ⟨hr, rfl⟩ := vals_own ho ev
      obtain ⟨ga, a2⟩ := A.fresh a (h4 a List.mem_cons_self)
      have h0 : B.H0 a = none := a2.elim id fun z => (nb a z).elim
      refine ⟨a, _, ha, True.intro, fun od => ?_⟩
      have s : Same G (upd G a (.frz od (.dK kvs))) := same_upd ga
      have ne : ∀ b ∈ fp, b ∉ [a] → b ≠ a := fun b _ hn z => hn (by rw [z]; exact List.mem_cons_self)
      obtain ⟨fp', k1, k2, k3⟩ := h5 (G' := upd G a (.frz od (.dK kvs))) (H' := upd H a (.frz od (.dK kvs))) (o' := .v (.dlk ks ds)) (fr := []) s (fun p hp hn u e => by rw [upd_ne (ne p hp hn)]; exact e) (.v (.dlk upd_same hk (hr.mono s))) List.nodup_nil (fun p hp => nomatch hp)
      have k4 : ∀ p ∈ fp', p ∈ fp ∧ p ≠ a := fun p hp => by
        obtain ⟨z, w⟩ : p ∈ fp ∧ p ∉ [a] := (k3 p hp).elim id fun z => nomatch z
        exact ⟨z, ne p z w⟩
      refine ⟨_, fp', s, ⟨⟨fun b o e n => ?_, fun b e => ?_, fun b e1 e2 => ?_, fun b u e => ?_, fun b u e k => ?_⟩, k1, k2, fun p hp => ⟨by rw [upd_ne (k4 p hp).2]; exact (A.fresh p (k4 p hp).1).1, (A.fresh p (k4 p hp).1).2⟩, A.pin⟩⟩
      · have hb : b ≠ a := fun z => by subst z; rw [h0] at e; cases e
        rw [upd_ne hb]; exact A.fine.base b o e n
      · by_cases hb : b = a
        · rw [hb]; exact h0
        · rw [upd_ne hb] at e; exact A.fine.there b e
      · have hb : b ≠ a := fun z => e1 (by rw [z]; exact h0)
        rw [upd_ne hb]; exact A.fine.x b e1 e2
      · by_cases hb : b = a
        · subst hb; rw [upd_same] at e ⊢; exact e
        · rw [upd_ne hb] at e ⊢; exact A.fine.le b u e
      · by_cases hb : b = a
        · subst hb; rw [upd_same] at e ⊢; exact e
        · rw [upd_ne hb] at e ⊢; exact A.fine.tup b u e k
  · cases h
section
variable {X : Cx} {W : WX} {b b' b1 b2 : Bool} {pn : List Nat} {e : Expr} {pos : Pos} {g : Env → Rs}
theorem pxs_fzK {st : Stmt} (i : Nat) (h : PXS X W [] st g) : PXS X W [] st (sFzK i g) := ps_mono (ps_lockIn h) fun Dn σ H ⟨B, G, c, fp, A, P, q⟩ => by
  unfold sFzK at q
  cases hf : fzK i c with
  | none => rw [hf] at q; exact q.elim
  | some c' =>
    rw [hf] at q
    obtain ⟨d, u, hd, mu, k⟩ := A.fzK (P.2 rfl) hf
    refine .inr ⟨d, u, hd, mu, fun od => ?_⟩
    obtain ⟨G', fp', s, A'⟩ := k od
    exact ⟨B, G', c', fp', A', P, ResS.grow (r := g c') q s⟩
/-! ### {} as a known thing -/
theorem px_dnewK : PX X W true (.Dict [] [] pos) (eC (.dlk [] [])) :=
  pe_mono (pe_lockOut pe_dnewK) fun σ H Q ⟨B, G, c, fp, A, q⟩ => fun p hp => by
    have q' : Post ⟨X.K, X.mg⟩ B c σ fp G H true Q (.dlk [] []) := q
    refine ⟨p, _, upd_same, True.intro, fun od => ?_⟩
    have e : upd (upd H p (.dK [])) p (.frz od (.dK [])) = upd H p (.frz od (.dK [])) := by
      funext a
      by_cases ha : a = p
      · subst ha; rw [upd_same, upd_same]
      · rw [upd_ne ha, upd_ne ha, upd_ne ha]
    rw [e]
    exact q'.new A hp fun s => .dlk (kvs := []) upd_same rfl .nil
/-! ### for k in d -/
def eItK (g : Env → R D) : Env → R (List D) := fun c => g c >>= fun d => match d with
  | .dlk ks _ => .ok ks
  | _ => .stuck
theorem wk_keys {E : Wd} {Hs G : Hp} {a : Addr} {o : Obj} {kvs : List (Key × V)} {ks : List D} (h : Hs a = some (.frz o (.dK kvs))) (hk : ks.map D.key = kvs.map (fun p => some p.1)) : Wk E (Itk a o kvs) Hs G ks := by
  have hl : ks.length = kvs.length := by simpa using congrArg List.length hk
  refine ⟨fun j H s hj => ⟨s a _ h, by rw [← hl]; exact hj⟩, fun j H x H' s y => ⟨y.1, fun d e => ?_⟩, fun j H s hj => ⟨s a _ h, by rw [← hl]; exact hj⟩⟩
  obtain ⟨k, v, e1, rfl⟩ := y.2
  have e2 : (ks.map D.key)[j]? = some (some k) := by rw [hk, List.getElem?_map, e1]; rfl
  rw [List.getElem?_map, e] at e2
  have e2 : D.key d = some k := by simpa using e2
  cases d <;> simp [D.key] at e2
  · subst e2; exact .int _
  · subst e2; exact .str _
theorem src_keys {tg : Expr} {ga : Env → R D} (h : PX X W true e ga) : PSrc X W b tg e (iKeys (TX ⟨X.K, X.mg⟩ W true ga)) (eItK ga) :=
  ⟨pi_keys h, fun {B G H c σ fp P R} A q k => tx_seq A q fun d e0 v G1 H1 s1 t1 A1 r1 q1 => by
    cases r1 with
    | @dlk a o kvs ks ds hr hk ho =>
      have hr : G1 a = some (.frz o (.dK kvs)) := hr
      have hh := A1.fine.le a _ hr
      refine ⟨a, o, rfl, .inl ⟨kvs, hh, k ks G1 H1 _ (by unfold eItK; rw [e0]; rfl) s1 t1 A1 (wk_keys ?_ hk) q1⟩⟩
      cases b with
      | true => exact hr
      | false => exact hh
    | _ => exact q1.elim⟩
/-! ### e[k], e a known dict -/
def dkv : D → Option (List D × List D)
  | .dic ks ds => some (ks, ds)
  | .dlk ks ds => some (ks, ds)
  | _ => none
theorem dkv_rp {E : Wd} {G : Hp} {v : V} {d : D} {q : List D × List D} (r : Rp E G v d) (h : dkv d = some q) : ∃ a kvs, v = .ref a ∧ Rd G a (.dK kvs) ∧ q.1.map D.key = kvs.map (fun p => some p.1) ∧ RpL E G (kvs.map (·.2)) q.2 := by
  cases r <;> simp [dkv] at h
  · subst h; exact ⟨_, _, rfl, ‹_›, ‹_›, ‹_›⟩
  · rename_i hr hk ho; subst h; exact ⟨_, _, rfl, .inr ⟨_, hr⟩, hk, ho⟩
def eDIxE (ga gk : Env → R D) : Env → R D := fun c => ga c >>= fun d => lift (dkv d) >>= fun q => gk c >>= fun k => lift (D.key k) >>= fun kk => lift ((dGet q.1 (q.2.map .v) kk).bind fun o => match o with | .v d => some d | _ => none)
theorem px_dixE {o eb : Expr} {ga gb : Env → R D} (hu : X.A.units + 1 < cLine) (ha : PX X W true o ga) (hb : PX X W b eb gb) (hs : NoSl eb := by exact fun _ _ => rfl) : PX X W true (.Subscript o eb pos) (eDIxE ga gb) :=
  pe_mono (pe_dget hu ha hb hs) fun σ H Q ⟨B, G, c, fp, A, q⟩ => tx_seq A q fun d0 e0 v0 G0 H0 s0 t0 A0 r0 q0 => by
    cases hd : dkv d0 with
    | none => rw [hd] at q0; exact q0.elim
    | some q' =>
      rw [hd] at q0
      obtain ⟨a, kvs, rfl, hr, hk', ho⟩ := dkv_rp (show Rp _ G0 v0 d0 from r0) hd
      refine tx_seq A0 q0 fun k e3 w G1 H1 s1 t1 A1 r1 q1 => ?_
      cases hk : D.key k with
      | none => rw [hk] at q1; exact q1.elim
      | some kk =>
        rw [hk] at q1
        obtain ⟨d, e4, p4⟩ := Res.lift q1
        obtain ⟨o, e5, e6⟩ := Option.bind_eq_some_iff.mp e4
        obtain ⟨v8, f8, e9, e10⟩ := (dGet_own (E := ⟨X.K, X.mg⟩) (G := G1) (H := H1) (kk := kk) hk' (ownL_v (ho.mono s1))).1 o e5
        cases o with
        | v d' =>
          cases e6
          cases e10 with
          | v rv =>
            have hw := rp_key r1 hk
            subst hw
            exact ⟨_, v8, rfl, by rw [← e9]; exact dget_rd (Same.rd (s1.trans A1.fine.le) hr), p4 _ G1 H1 (s0.trans s1) (t0.trans t1) A1 rv⟩
        | _ => cases e6
/-! ### min of a list of ints -/
def minI : List Int → Option Int
  | [] => none
  | i :: is => some (is.foldl min i)
theorem foldl_min : ∀ (is : List Int) (i : Int), (is.foldl min i ∈ i :: is) ∧ ∀ y ∈ i :: is, is.foldl min i ≤ y
  | [], i => ⟨by simp, fun y hy => by rw [List.mem_singleton.mp hy]; exact Int.le_refl _⟩
  | j :: is, i => by
    obtain ⟨h1, h2⟩ := foldl_min is (min i j)
    refine ⟨?_, fun y hy => ?_⟩
    · show (is.foldl min (min i j)) ∈ _
      rcases List.mem_cons.mp h1 with h | h
      · rw [h]
        rcases Int.min_def i j ▸ (by split <;> simp : (if i ≤ j then i else j) = i ∨ (if i ≤ j then i else j) = j) with z | z
        · rw [show min i j = i from (Int.min_def i j).trans z]; exact List.mem_cons_self
        · rw [show min i j = j from (Int.min_def i j).trans z]; exact List.mem_cons_of_mem _ List.mem_cons_self
      · exact List.mem_cons_of_mem _ (List.mem_cons_of_mem _ h)
    · show is.foldl min (min i j) ≤ y
      have h0 := h2 _ List.mem_cons_self
      rcases List.mem_cons.mp hy with h | h
      · subst h; omega
      · rcases List.mem_cons.mp h with h | h
        · subst h; omega
        · exact h2 y (List.mem_cons_of_mem _ h)
def fMinL : List D → Option D
  | [.lst ds] => (asInts ds).bind fun ns => (minI ns).map .int
  | _ => none
theorem ok_minL : CallOk ⟨X.K, X.mg⟩ (rMin X.K) b true fMinL := by
  intro B G H c σ fp vs ds d Q A r e p
  unfold fMinL at e
  split at e
  · rename_i ds
    obtain ⟨ns, e1, e2⟩ := Option.bind_eq_some_iff.mp e
    obtain ⟨m, e3, rfl⟩ := Option.map_eq_some_iff.mp e2
    obtain ⟨v, rfl, rv⟩ := r.one
    obtain ⟨a, vs, rfl, h1, r1⟩ := rv.lstH A.fine.le
    have hv : vs = ns.map V.int := asInts_rp r1 e1
    subst hv
    cases ns with
    | nil => cases e3
    | cons i is =>
      cases e3
      obtain ⟨f1, f2⟩ := foldl_min is i
      refine ⟨a, i :: is, rfl, h1, by simp, fun m hm hle => ?_⟩
      have : m = is.foldl min i := Int.le_antisymm (hle _ f1) (f2 m hm)
      subst this
      exact p.here A (.int _)
  · cases e
/-! ### e[::-1] -/
def eRev (ga : Env → R D) : Env → R D := fun c => ga c >>= fun d => match d with
  | .lst ds => .ok (.lst ds.reverse)
  | _ => .stuck
theorem px_revL {ga : Env → R D} {k : Nat} {p1 p2 p3 : Pos} (h : PX X W true e ga) : PX X W true (.Subscript e (.Slice none none (some (.UnaryOp .USub (.Constant (.int 1) k p1) p2)) p3) pos) (eRev ga) :=
  pe_mono (pe_revL h) fun σ H Q ⟨B, G, c, fp, A, q⟩ => tx_seq A q fun d e0 v G1 H1 s1 t1 A1 r1 q1 => by
    cases r1 with
    | @lst a vs ds hs r =>
      have q1 : Post ⟨X.K, X.mg⟩ B c σ fp G H true Q (.lst ds.reverse) := q1
      exact ⟨a, vs, rfl, Same.sqL A1.fine.le hs, fun p hp => (q1.grow s1 t1).new A1 hp fun s => .lst (.inl (.inl upd_same)) (RpL.reverse (r.mono s))⟩
    | _ => exact q1.elim
end
end VS

/-! VS: dict comprehensions. -/
namespace VS
open PySem PySem.Spec PyProof.Rows L2
def compD (t : Env → R Bool) (gk gv : Env → R D) (i : Nat) (c : Env) : List D → List D × List O → R (List D × List O)
  | [], a => .ok a
  | d :: ds, a => noX (t (c.set i (some (.v d)))) >>= fun b => if b then noX (gk (c.set i (some (.v d)))) >>= fun k => lift (D.key k) >>= fun kk => noX (gv (c.set i (some (.v d)))) >>= fun x =>
      if a.1.length < 16777216 then compD t gk gv i c ds (if hasK a.1 kk then (a.1, rep a.1 a.2 kk x) else (a.1 ++ [k], a.2 ++ [.v x])) else .stuck
    else compD t gk gv i c ds a
def eDcO (gs : Env → R (List D)) (t : Env → R Bool) (gk gv : Env → R D) (i : Nat) : Env → R O := fun c => gs c >>= fun ds => compD t gk gv i c ds ([], []) >>= fun a => .ok (.dic a.1 a.2)
/-- what stands between two turns -/
structure DcAt (E : Wd) (B : Bs) (c : Env) (σ : L2.St) (fp : List Addr) (G1 : Hp) (p : Addr) (a : List D × List O) (H : Hp) : Prop where
  ex : ∃ G' kvs, Same G1 G' ∧ Abs E B G' H c σ fp ∧ H p = some (.dK kvs) ∧ G' p = none ∧ a.1.map D.key = kvs.map (fun p => some p.1) ∧ OwnL E G' H (kvs.map (·.2)) a.2 []
section
variable {X : Cx} {W : WX} {pn : List Nat} {e kx vx : Expr} {ifs : List Expr} {pos : Pos} {wi : TI} {gs : Env → R (List D)} {t : Env → R Bool} {gk gv : Env → R D} {i : Nat}
theorem compD_ex : ∀ ds x a (c : Env), compD t gk gv i c ds a ≠ .ex x := by
  intro ds
  induction ds with
  | nil => intro x a c z; cases z
  | cons d ds ih =>
    intro x a c z
    rw [compD] at z
    cases ht : t (c.set i (some (.v d))) with
    | ok b =>
      rw [ht] at z
      simp only [noX_ok, ok_bind] at z
      split at z
      · cases hg : gk (c.set i (some (.v d))) with
        | ok y =>
          rw [hg] at z
          simp only [noX_ok, ok_bind] at z
          cases hk : D.key y with
          | none => rw [hk] at z; cases z
          | some kk =>
            rw [hk] at z
            simp only [lift_some, ok_bind] at z
            cases hv : gv (c.set i (some (.v d))) with
            | ok w =>
              rw [hv] at z
              simp only [noX_ok, ok_bind] at z
              by_cases hl : a.1.length < 16777216
              · rw [if_pos hl] at z; exact ih x _ _ z
              · rw [if_neg hl] at z; cases z
            | ex y => rw [hv] at z; cases z
            | stuck => rw [hv] at z; cases z
        | ex y => rw [hg] at z; cases z
        | stuck => rw [hg] at z; cases z
      · exact ih x _ _ z
    | ex y => rw [ht] at z; cases z
    | stuck => rw [ht] at z; cases z
theorem tdc_of (K : PySem.W.Frag) (mg : Str → Option Value) (hX : X.K = K) (hmg : X.mg = mg) {tg : Expr} {b bk : Bool} (ha : PSrc X W b tg e wi gs) {B : Bs} {G H : Hp} {c : Env} {σ : L2.St} {fp : List Addr} {Q : VK} (A : Abs ⟨X.K, X.mg⟩ B G H c σ fp) (q : Res ⟨X.K, X.mg⟩ W B c σ fp G H (eDcO gs t gk gv i c) (PostF ⟨X.K, X.mg⟩ B c σ fp G H Q)) :
    tDc wi (gName i) (TXT ⟨X.K, X.mg⟩ W0 t) (TX ⟨X.K, X.mg⟩ W0 bk gk) (TX ⟨X.K, X.mg⟩ W0 true gv) [i] σ H Q := by
  refine ha.run (P := fun ds => Res ⟨X.K, X.mg⟩ W B c σ fp G H (compD t gk gv i c ds ([], []) >>= fun a => R.ok (O.dic a.1 a.2)) (PostF ⟨X.K, X.mg⟩ B c σ fp G H Q)) A ?_ fun ds G1 H1 J eds s1 t1 A1 w q1 => ?_
  · unfold eDcO at q
    cases h : gs c with
    | ok ds => rw [h] at q; exact q
    | ex x => rw [h] at q; exact q
    | stuck => rw [h] at q; exact q
  · intro p hp
    cases hes : compD t gk gv i c ds ([], []) with
    | stuck => rw [hes] at q1; exact q1.elim
    | ex x => exact (compD_ex ds x _ c hes).elim
    | ok tot =>
      rw [hes] at q1
      have q2 : PostF ⟨X.K, X.mg⟩ B c σ fp G H Q (.dic tot.1 tot.2) := q1
      have pf : p ∉ fp := fun z => A1.cells.there p z hp
      have p0 : B.H0 p = none := A1.fine.there p hp
      refine ⟨fun j m H => m = ds.length - j ∧ j ≤ ds.length ∧ Same H1 (fun a => if a = p then H1 a else H a) ∧ ∃ a, DcAt ⟨X.K, X.mg⟩ B c σ fp G1 p a H ∧ compD t gk gv i c (ds.drop j) a = .ok tot,
        ⟨ds.length, by simp, Nat.zero_le _, fun a o e => ?_, ([], []), ⟨G1, [], Same.refl _, A1.newO hp rfl, upd_same, A1.fine.fresh hp, rfl, .nil⟩, hes⟩, ?_⟩
      · have hne : a ≠ p := ne_of_none e hp
        show (if a = p then H1 a else upd H1 p (.dK []) a) = some o
        rw [if_neg hne, upd_ne hne]; exact e
      · rintro j m H2 ⟨rfl, hj, sm, a, ⟨G2, kvs, s2, A2, hD, gD, hkk, r2⟩, hc⟩
        have ws : Same (vw b G1 H1) H2 := by
          cases b with
          | true => exact s2.trans A2.fine.le
          | false =>
            intro a o e
            have e : H1 a = some o := e
            have z := sm a o e
            have z : (if a = p then H1 a else H2 a) = some o := z
            rw [if_neg (ne_of_none e hp)] at z
            exact z
        by_cases hlt : j < ds.length
        · refine .inr ⟨w.go j H2 ws hlt, fun H' => j + 1 ≤ ds.length ∧ Same H1 (fun a => if a = p then H1 a else H' a) ∧ ∃ a, DcAt ⟨X.K, X.mg⟩ B c σ fp G1 p a H' ∧ compD t gk gv i c (ds.drop (j + 1)) a = .ok tot, fun H' ⟨h1, h2, h3⟩ => ⟨_, by omega, rfl, h1, h2, h3⟩, fun x H3 y => ?_⟩
          obtain ⟨rfl, hr⟩ := w.yl j H2 x H3 ws y
          have hd := List.getElem?_eq_getElem hlt
          rw [drop_cons hd, compD] at hc
          obtain ⟨tb, ht, hc⟩ := bind_ok_eq hc
          have ht := noX_eq ht
          have hsig : (wipe σ [i]).set i (some x) = σ.set i (some x) := by rw [wipe1, List.set_set]
          show (fun σ2 H2 => wipe σ2 [i] = wipe σ [i] ∧ _) ((wipe σ [i]).set i (some x)) H3
          rw [hsig]
          refine ⟨by rw [wipe1, wipe1, List.set_set], ?_⟩
          obtain ⟨B', fr, A3, back⟩ := A2.enter (i := i) ((hr _ hd).mono s2)
          refine ⟨B', G2, _, fr, A3, ?_⟩
          rw [ht]
          intro G4 H4 s4 t4 A4
          have smn : ∀ {Hx Hy : Hp}, Same H1 (fun a => if a = p then H1 a else Hx a) → Same Hx Hy → Same H1 (fun a => if a = p then H1 a else Hy a) := fun {Hx Hy} h1 h2 a o e => by
            have z := h1 a o e
            by_cases hap : a = p
            · show (if a = p then H1 a else Hy a) = some o
              rw [if_pos hap]; exact e
            · have z : (if a = p then H1 a else Hx a) = some o := z
              rw [if_neg hap] at z
              show (if a = p then H1 a else Hy a) = some o
              rw [if_neg hap]; exact h2 a o z
          cases tb with
          | false =>
            rw [if_neg (by decide)]
            have hc : compD t gk gv i c (ds.drop (j + 1)) a = .ok tot := hc
            obtain ⟨A5, gr⟩ := back G4 H4 _ _ _ s4 t4 A4
            exact ⟨hlt, smn sm t4, a, ⟨G4, kvs, s2.trans s4, A5, t4 p _ hD, gr p (by rw [hD]; exact fun z => nomatch z) gD, hkk, r2.keep s4 (fun q hq => nomatch hq)⟩, hc⟩
          | true =>
            rw [if_pos rfl]
            have hc : (noX (gk (c.set i (some (.v ds[j])))) >>= fun k => lift (D.key k) >>= fun kk => noX (gv (c.set i (some (.v ds[j])))) >>= fun x =>
              if a.1.length < 16777216 then compD t gk gv i c (ds.drop (j + 1)) (if hasK a.1 kk then (a.1, rep a.1 a.2 kk x) else (a.1 ++ [k], a.2 ++ [.v x])) else .stuck) = .ok tot := hc
            obtain ⟨k1, hg, hc⟩ := bind_ok_eq hc
            have hg := noX_eq hg
            cases hkey : D.key k1 with
            | none => rw [hkey] at hc; cases hc
            | some kk =>
              rw [hkey] at hc
              have hc : (noX (gv (c.set i (some (.v ds[j])))) >>= fun x =>
                if a.1.length < 16777216 then compD t gk gv i c (ds.drop (j + 1)) (if hasK a.1 kk then (a.1, rep a.1 a.2 kk x) else (a.1 ++ [k1], a.2 ++ [.v x])) else .stuck) = .ok tot := hc
              obtain ⟨x1, hv, hc⟩ := bind_ok_eq hc
              have hv := noX_eq hv
              by_cases hl : a.1.length < 16777216
              · rw [if_pos hl] at hc
                refine ⟨B', G4, _, fr, A4, ?_⟩
                rw [hg]
                intro y5 G5 H5 s5 t5 A5 r5
                refine ⟨B', G5, _, fr, A5, ?_⟩
                rw [hv]
                intro v6 G6 H6 s6 t6 A6 r6
                obtain ⟨A7, gr⟩ := back G6 H6 _ _ _ (s4.trans (s5.trans s6)) (t4.trans (t5.trans t6)) A6
                have hD6 : H6 p = some (.dK kvs) := t6 p _ (t5 p _ (t4 p _ hD))
                have g6 : G6 p = none := gr p (by rw [hD]; exact fun z => nomatch z) gD
                have hy := rp_key r5 hkey
                have hll : a.1.length = kvs.length := by simpa using congrArg List.length hkk
                have hh := hasK_kvs hkk kk
                have r3 : OwnL ⟨X.K, X.mg⟩ G6 (upd H6 p (.dK (putK kvs kk v6))) (kvs.map (·.2)) a.2 [] := r2.keep (s4.trans (s5.trans s6)) (fun q hq => nomatch hq)
                refine ⟨kvs, kk, hy, hD6, by rw [← hll, sizeLine_eq]; exact hl, hlt, fun a' o e => ?_, _, ⟨G6, putK kvs kk v6, s2.trans (s4.trans (s5.trans s6)), A7.pokeOut pf g6 p0 rfl, upd_same, g6, ?_⟩, hc⟩
                · have z := smn (smn (smn sm t4) t5) t6 a' o e
                  by_cases hap : a' = p
                  · show (if a' = p then H1 a' else _) = some o
                    rw [if_pos hap]; exact e
                  · have z : (if a' = p then H1 a' else H6 a') = some o := z
                    rw [if_neg hap] at z
                    show (if a' = p then H1 a' else upd H6 p _ a') = some o
                    rw [if_neg hap, upd_ne hap]; exact z
                · cases hb : hasK a.1 kk with
                  | true =>
                    rw [if_pos rfl]
                    have hb2 : (kvs.any fun kv => decide (kv.1 = kk)) = true := by rw [← hh]; exact hb
                    have hput : putK kvs kk v6 = kvs.map (fun kv => if kv.1 = kk then (kv.1, v6) else kv) := by unfold putK; rw [if_pos hb2]
                    obtain ⟨fr', z1, z2, z3⟩ := r3.rep (kk := kk) r6 hkk List.nodup_nil
                    have hf : fr' = [] := List.eq_nil_iff_forall_not_mem.mpr fun q hq => nomatch z3 q hq
                    subst hf
                    rw [← hput] at z1
                    refine ⟨?_, z1⟩
                    show a.1.map D.key = _
                    rw [hkk, hput, List.map_map]
                    apply List.map_congr_left
                    intro p _
                    simp only [Function.comp_def]
                    split <;> rfl
                  | false =>
                    rw [if_neg (by decide)]
                    have hb2 : ¬ (kvs.any fun kv => decide (kv.1 = kk)) = true := by rw [← hh, hb]; exact Bool.false_ne_true
                    have hput : putK kvs kk v6 = kvs ++ [(kk, v6)] := by unfold putK; rw [if_neg hb2]
                    refine ⟨?_, ?_⟩
                    · show (a.1 ++ [k1]).map D.key = _
                      rw [hput, List.map_append, List.map_append, hkk]
                      simp [hkey]
                    · show OwnL _ _ _ _ (a.2 ++ [.v x1]) ([] ++ ([] ++ []))
                      have r3' := r3
                      rw [hput] at r3'
                      rw [hput, List.map_append]
                      exact r3'.append (.cons (.v r6) .nil)
              · rw [if_neg hl] at hc; cases hc
        · have ej : j = ds.length := by omega
          subst ej
          rw [List.drop_length] at hc
          cases hc
          have smH : Same H H2 := fun a o e => by
            have e1 := t1 a o e
            have z := sm a o e1
            have z : (if a = p then H1 a else H2 a) = some o := z
            rw [if_neg (ne_of_none e1 hp)] at z
            exact z
          refine .inl ⟨w.st _ H2 ws (Nat.le_refl _), q2 _ G2 H2 [p] (s1.trans s2) smH A2 (.dic hD hkk r2) (by simp) fun a' ha' => ?_⟩
          have : a' = p := by simpa using ha'
          subst this
          exact ⟨t1.free hp, gD⟩
section
variable {x y : Str} {p py : Pos} {scope : Scope} {spos : Pos}
theorem pf_dc (i : Nat) (hc : X.calm = true) (hN : X.N.Nodup) {b bk : Bool} (ha : PSrc X W b (.Name x p) e wi gs) (ok : BlkOk X.N X.env.scope scope [(x, i)])
    (hg : ∀ (s : Shared) (H : Hp) (C : Addr) (cl : List (Str × Addr)) (fp : List Addr), PG (X.blk s H scope (compEnvC scope cl C X.env) fp) (.Name x p) (gName i)) (ht : ∀ (s : Shared) (H : Hp) (C : Addr) (cl : List (Str × Addr)) (fp : List Addr), PXTs (X.blk s H scope (compEnvC scope cl C X.env) fp) ifs t)
    (hk : ∀ (s : Shared) (H : Hp) (C : Addr) (cl : List (Str × Addr)) (fp : List Addr), PX (X.blk s H scope (compEnvC scope cl C X.env) fp) W0 bk kx gk)
    (he : ∀ (s : Shared) (H : Hp) (C : Addr) (cl : List (Str × Addr)) (fp : List Addr), PX (X.blk s H scope (compEnvC scope cl C X.env) fp) W0 true vx gv) (hs : ∀ z, foldedSetIterable e X.env z = pure z := by intro _; rfl) :
    PF X W (.DictComp kx vx [⟨.Name x p, e, ifs, 0⟩] scope pos) (eDcO gs t gk gv i) := pe_mono (pe_dc (own := [(x, i)]) (tt := TXT ⟨X.K, X.mg⟩ W0 t) (tk := TX ⟨X.K, X.mg⟩ W0 bk gk) (tv := TX ⟨X.K, X.mg⟩ W0 true gv) hc hN ha.pi ok hg ht hk he hs) fun σ H Q ⟨B, G, c, fp, A, q⟩ => tdc_of X.K X.mg rfl rfl ha A q
end
end
end VS
namespace L2
open PySem PySem.Spec PyProof.Rows
section
variable {X : Cx}
/-- name = {..} on one line, the name a local -/
theorem ps_setDc {i : Nat} {y : Str} {py : Pos} {kx vx tg iter : Expr} {ifs : List Expr} {scope : Scope} {own : List (Str × Nat)} {pos spos : Pos} {wi : TI} {g : TG} {tt : TT} {tk tv : TE} (hc : X.calm = true) (hN : X.N.Nodup) (hy : X.N[i]? = some y) (hyl : X.env.scope.names.lookup y = some .local)
    (hsw : swapsWith (.DictComp kx vx [⟨tg, iter, ifs, 0⟩] scope pos) (some (.Name y py)) spos.line X.env = pure true) (hi : PI X tg iter wi) (ok : BlkOk X.N X.env.scope scope own)
    (hg : ∀ (s : Shared) (H : Hp) (C : Addr) (cl : List (Str × Addr)) (fp : List Addr), PG (X.blk s H scope (compEnvC scope cl C X.env) fp) tg g) (ht : ∀ (s : Shared) (H : Hp) (C : Addr) (cl : List (Str × Addr)) (fp : List Addr), PTs (X.blk s H scope (compEnvC scope cl C X.env) fp) ifs tt)
    (hk : ∀ (s : Shared) (H : Hp) (C : Addr) (cl : List (Str × Addr)) (fp : List Addr), PE (X.blk s H scope (compEnvC scope cl C X.env) fp) kx tk)
    (he : ∀ (s : Shared) (H : Hp) (C : Addr) (cl : List (Str × Addr)) (fp : List Addr), PE (X.blk s H scope (compEnvC scope cl C X.env) fp) vx tv) (hs : ∀ x, foldedSetIterable iter X.env x = pure x := by intro _; rfl) :
    PS X (.Assign [.Name y py] (.DictComp kx vx [⟨tg, iter, ifs, 0⟩] scope pos) spos) (tAsg (tDc wi g tt tk tv (own.map (·.2))) (gName i)) := by
  refine ⟨fun pins s σ H D I h => ?_⟩
  rw [exec_Assign_Name_used _ _ _ _ hsw]
  refine wpAny_bind (wpAny_standAt (wpAny_bind ?_))
  show wpAny _ X.A (do let _ ← comprehension (.DictComp kx vx [⟨tg, iter, ifs, 0⟩] scope pos) scope X.env (firstIterPos [⟨tg, iter, ifs, 0⟩] pos) newDict false (eval iter X.env) (some (assign (.Name y py) X.env))) _ _ s
  have h : tDc wi g tt tk tv (own.map (·.2)) σ H (fun x H1 => gName i x σ H1 D.nx) := h
  refine wpAny_bind (thn (dc_core (Qf := fun _ s' => SP X pins D .next s') hc hN I hi ok hg ht hk he hs h fun L C s' m H' I' q hn f => ?_) fun _ s' hq => wpAny_pure (wpAny_pure hq))
  show wpAny _ _ (assign (.Name y py) X.env (.ref L)) _ _ _
  refine wpAny_assign_Name (store_ok2 (v := V.ref L) I' hN hy (.inl hyl) rfl (fun s2 I2 ⟨a, sb, ha⟩ => ?_) (.inr hyl))
  obtain ⟨f0, f1, f2, f3, f4, f5⟩ := f
  have haC : C ≠ a := by
    rcases ha with z | z
    · rw [z]; exact f1
    · exact fun e => f4 y a z e.symm
  refine ⟨m, hn.sameBut sb haC, fun h3 sb3 => ?_⟩
  exact ⟨_, H', I2.turned (t' := s2.toks) (fun b o hb e => (sb3.2 b hb).trans e) f0 f1 f3 f4 f5, q⟩
theorem swD_true {kx vx : Expr} {gs : List Comprehension} {scope : Scope} {pos py : Pos} {y : Str} {l : Nat} {env : Env} (hk : env.scope.kind = .function) (hy : env.scope.names.lookup y = some .local) (hl : (py.line == pos.line) = true)
    (ha : (scope.names.any fun (n, k) => n == y && (k == .local || k == .cell)) = false) : swapsWith (.DictComp kx vx gs scope pos) (some (.Name y py)) l env = pure true := by
  have ky : env.kindOf y = some .local := hy
  have hb : env.blockKind = .function := by unfold Env.blockKind; rw [hk]; rfl
  unfold swapsWith
  simp only [hb, ky, ha, Expr.pos, hl]
  rfl
end
end L2
namespace VS
open PySem PySem.Spec PyProof.Rows L2
section
variable {X : Cx} {W : WX} {pn : List Nat} {e kx vx : Expr} {ifs : List Expr} {pos : Pos} {wi : TI} {gs : Env → R (List D)} {t : Env → R Bool} {gk gv : Env → R D} {i : Nat}
variable {x y : Str} {p py : Pos} {scope : Scope} {spos : Pos}
theorem pxs_setDc (k i : Nat) (hc : X.calm = true) (hN : X.N.Nodup) (hsw : swapsWith (.DictComp kx vx [⟨.Name x p, e, ifs, 0⟩] scope pos) (some (.Name y py)) spos.line X.env = pure true) {b bk : Bool} (ha : PSrc X W b (.Name x p) e wi gs) (ok : BlkOk X.N X.env.scope scope [(x, i)])
    (hg : ∀ (s : Shared) (H : Hp) (C : Addr) (cl : List (Str × Addr)) (fp : List Addr), PG (X.blk s H scope (compEnvC scope cl C X.env) fp) (.Name x p) (gName i)) (ht : ∀ (s : Shared) (H : Hp) (C : Addr) (cl : List (Str × Addr)) (fp : List Addr), PXTs (X.blk s H scope (compEnvC scope cl C X.env) fp) ifs t)
    (hk : ∀ (s : Shared) (H : Hp) (C : Addr) (cl : List (Str × Addr)) (fp : List Addr), PX (X.blk s H scope (compEnvC scope cl C X.env) fp) W0 bk kx gk)
    (he : ∀ (s : Shared) (H : Hp) (C : Addr) (cl : List (Str × Addr)) (fp : List Addr), PX (X.blk s H scope (compEnvC scope cl C X.env) fp) W0 true vx gv) (hy : X.N[k]? = some y := by rfl) (hyl : X.env.scope.names.lookup y = some .local := by rfl) (hi : k ∉ pn := by decide) (hs : ∀ z, foldedSetIterable e X.env z = pure z := by intro _; rfl) :
    PXS X W pn (.Assign [.Name y py] (.DictComp kx vx [⟨.Name x p, e, ifs, 0⟩] scope pos) spos) (sSetO k (eDcO gs t gk gv i)) :=
  ps_mono (ps_setDc (own := [(x, i)]) (tt := TXT ⟨X.K, X.mg⟩ W0 t) (tk := TX ⟨X.K, X.mg⟩ W0 bk gk) (tv := TX ⟨X.K, X.mg⟩ W0 true gv) hc hN hy hyl hsw ha.pi ok hg ht hk he hs) fun Dn σ H ⟨B, G, c, fp, A, P, q⟩ => by
    obtain ⟨B', G', c', fp', A', q'⟩ : TF ⟨X.K, X.mg⟩ W (eDcO gs t gk gv i) σ H (fun x H1 => gName k x σ H1 Dn.nx) := tf_st A q fun o e v G1 H1 fq s1 t1 A1 w n d q1 => by
      obtain ⟨fr, A2⟩ := set_fresh A1 (A.cells.there) A.fine.there w n d P hi
      exact q1 _ G1 H1 fr (Same.refl _) A2
    exact tdc_of X.K X.mg rfl rfl ha A' q'
end
end VS

/-! VS: sorted by a key of the program: (len(word), word). -/
namespace PySem.SkX
open PySem PySem.W PySem.Calls PyProof.Rows
def skA (p : Pos) : Arguments := { posonlyargs := [], args := [{ arg := "word", annotation := none, pos := p }], vararg := none, kwonlyargs := [], kw_defaults := [], kwarg := none, defaults := [] }
def skS : Scope := { kind := .function, names := [(PySem.Str.ofString "word", .local), (PySem.Str.ofString "len", .globalImplicit)], isGenerator := false, isCoroutine := false, more := [] }
def skB (p1 p2 p3 p4 p5 p6 : Pos) (k : Nat) : List Stmt := [.Return (some (.Tuple [.Call (.Name "len" p1) [.Name "word" p2] [] p3, .Name "word" p4] k p5)) p6]
theorem ldC {M : Model} {s : Shared} {name : Str} {scope : Scope} {L a : Addr} {cd : Value} {m : Str → Option Value} {x : Str} {pos : Pos} {v : Value} {Q : Value → Shared → Prop} {A : Around} {E : Value → Shared → Prop} (hn : s.heap.Ns L m) (hv : m x = some v) (h : Q v s)
    (hk : scope.kind = .function := by rfl) (hl : (envOfC name scope L a cd).kindOf x = some .local := by rfl) (hd : (x == ("__debug__" : Str)) = false := by decide) :
    wpAny M A (eval (.Name x pos) (envOfC name scope L a cd)) Q E s := wpAny_Name (wpAny_loadName_local hk hl hn hv h) hd
section
variable {prog : Program} {w : World} {A : Around} {s : Shared} {K : Frag} {mg : Str → Option Value} {base : Heap}
theorem sk_raw {f : Addr} {oc kV doc pm cdv ct : Value} {od an : Option Addr} {osl : Array (Option Value)} {pa p1 p2 p3 p4 p5 p6 : Pos} {kk : Nat}
    (lk : K.lookup f = some ⟨oc, od, .func (fnOf "short_key" "short_key" (skA pa) (skB p1 p2 p3 p4 p5 p6 kk) skS .none kV doc pm an cdv ct), osl⟩) (hcd : codeIn K cdv "short_key" = true)
    (M : L2.Mod K mg base) (hb : ∀ b o, base.get? b = some o → s.heap.get? b = some o) (hz : mg "len" = none) (hroom : A.depth < recursionLimit) (x : Str) (t : Tok) (hx : x.length ≤ sizeLine) :
    wpAny (model prog w) A (call (.ref f) [.str x t]) (KeyPure (.tuple [.int x.length, .str x]) s) (fun _ _ => False) s := by
  have X : K.In s.heap := M.kin.keeps hb
  have hlim : s.heap.NoLimit := M.nolimit.keeps hb
  refine wpAny_call (Att.call_fn (binds := [("word", .str x t)]) X hlim lk hcd hroom (BindsTo.of_eq (by first | rfl | with_unfolding_all rfl)) (by first | rfl | decide | with_unfolding_all rfl) (fun s₁ IC => ?_) rfl rfl rfl)
  obtain ⟨h₁, tk₁, rfl⟩ := IC.toInCall.same
  have k : ∀ b o, s.heap.get? b = some o → h₁.get? b = some o := IC.toInCall.keep
  have hn := IC.toInCall.ns
  obtain ⟨mb, b1, b2⟩ := M.blt
  have kb : ∀ b o, base.get? b = some o → h₁.get? b = some o := fun b o e => k b o (hb b o e)
  show wpAny _ _ (execs (skB p1 p2 p3 p4 p5 p6 kk) _) _ _ _
  refine wpAny_execs_cons (wpAny_Return_some (wpAny_Tuple_spliced ?_))
  show wpAny _ _ (spliced [(false, eval (.Call (.Name "len" p1) [.Name "word" p2] [] p3) _), (false, eval (.Name "word" p4) _)]) _ _ _
  refine spliced_cons ?_
  refine wpAny_Call_Name_kw (Calls.Name_function_global rfl (by first | rfl | with_unfolding_all rfl) (Calls.loadGlobal_builtin (M.glob.keeps kb) hz (b1.keeps kb) ((b2 "len" (by decide)).trans (by decide +kernel : bootBuiltins "len" = some (.builtin "len"))) ?_) (by decide))
  refine PyProof.Rows.callWith_builtin1 ?_ rfl rfl
  show wpAny _ _ (spliced [(false, eval (.Name "word" p2) _)]) _ _ _
  refine spliced_cons (ldC (v := .str x t) hn (by first | rfl | with_unfolding_all rfl | kernel_rfl) (spliced_nil ?_))
  have hn63 := L2.line63
  refine len_str (by omega) ?_
  refine spliced_cons (ldC (v := .str x t) (hn : h₁.Ns _ _) (by first | rfl | with_unfolding_all rfl | kernel_rfl) (spliced_nil ?_))
  refine ⟨by show 2 ≤ sizeLine; rw [sizeLine_eq]; omega, ?_⟩
  refine ⟨_, _, rfl, fun b o e => Heap.get?_push_of_some _ (k b o e), ?_⟩
  exact .tuple (Heap.get?_push_size _ rfl) rfl rfl (.cons (.int _ _) (.cons (.str _ _) .nil))
end
end PySem.SkX
namespace L2
open PySem PySem.Spec PyProof.Rows PySem.W
def skK (x : Str) : PyData := .tuple [.int x.length, .str x]
def skLe : Str → Str → Bool := dataLe false skK
theorem each_strs : ∀ {xs : List Str} {its : List Value}, Vals (xs.map V.str) its → EachIs (fun v x => ∃ t, v = Value.str x t) its xs
  | [], its, r => by cases r; exact .nil
  | x :: xs, its, r => by
    cases r with
    | cons h r =>
      obtain ⟨t, rfl⟩ := h
      exact .cons ⟨t, rfl⟩ (each_strs r)
theorem strs_each : ∀ {xs : List Str} {its : List Value}, EachIs (fun v x => ∃ t, v = Value.str x t) its xs → Vals (xs.map V.str) its
  | [], its, r => by cases r; exact .nil
  | x :: xs, its, r => by
    cases r with
    | cons h r =>
      obtain ⟨t, rfl⟩ := h
      exact .cons ⟨t, rfl⟩ (strs_each r)
/-- the text of short_key -/
structure SkTxt (st : Stmt) : Prop where
  ex : ∃ pa p1 p2 p3 p4 p5 p6 kk, defArgs st = SkX.skA pa ∧ defBody st = SkX.skB p1 p2 p3 p4 p5 p6 kk ∧ defScope st = SkX.skS
section
variable {X : Cx} {k : Nat}
def rSK (K : PySem.W.Frag) (f : Addr) : List V → List V → Hp → VK → Prop := fun vs zs H Q => ∃ (a : Addr) (xs : List Str), vs = [V.ref a] ∧ zs = [V.ref f] ∧ SqL K H a (xs.map V.str) ∧ (∀ x ∈ xs, x.length ≤ sizeLine) ∧ ∀ p, H p = none → Q (.ref p) (upd H p (.lst ((xs.mergeSort skLe).map V.str)))
theorem cr_sortSK {st : Stmt} {f : Addr} {fd : FuncData} (F : Fun X.K "short_key" "short_key" st f fd) (T : SkTxt st) (hz : X.mg "len" = none) (hr : Room k X.A) : CallRK X (.builtin "sorted") [Str.ofString "key"] (rSK X.K f) := by
  intro pins s σ H vs zs us ws Q I rv rz h
  obtain ⟨a, xs, rfl, rfl, hq, hlen, q⟩ := h
  obtain ⟨oc, od, kV, doc, pm, an, cdv, ct, osl, rfl, lk, hcd⟩ := F.ex
  obtain ⟨pa, p1, p2, p3, p4, p5, p6, kk, e1, e2, e3⟩ := T.ex
  rw [e1, e2, e3] at lk
  cases rv with
  | cons h1 h2 =>
    cases h2
    cases h1
    cases rz with
    | cons h3 h4 =>
      cases h4
      cases h3
      obtain ⟨its, ri, pl, hsz⟩ := I.list hq
      have e := each_strs ri
      have hn := sizeLine_eq
      rw [List.length_map] at hsz
      show wpAny _ _ (call (.builtin "sorted") [.ref a] [(Str.ofString "key", .ref f)]) _ _ _
      refine sorted_key_data (b := false) skK pl.isList e (AllAlike.of fun _ _ => by simp [alike, alikeAll, skK]) (Sortable.tuples fun _ => ⟨_, _, rfl⟩) hsz (fun x _ => ?_) (ksk_s1 _ _) (fun _ => ksk_l1 _ _) (fun _ => ksk_t1 _ _)
        (fun v x ⟨t, ev⟩ hx h tk kp => ?_) fun out c h' tk kp fr hD hl eo => ?_
      · have hd : (skK x).depth = 1 := by simp [skK, PyData.depth, PyData.depthAll]
        have := hr.un
        omega
      · subst ev
        refine SkX.sk_raw lk hcd I.ok.mod (fun b o e => kp b o (I.bk b o e)) hz ?_ x t (hlen x hx)
        show X.A.depth < recursionLimit
        have := hr.dp
        omega
      · have ho : H (s.heap.objs.size + 1) = none := I.hok.fresh (Nat.le_succ _)
        refine ⟨.ref (s.heap.objs.size + 1), _, I.laid (t' := tk) (o := .lst ((xs.mergeSort skLe).map V.str)) kp (Nat.le_succ _) ?_, rfl, q _ ho⟩
        refine ⟨by rw [List.length_map, List.length_mergeSort]; exact hsz, out, c, strs_each eo, hD⟩
end
end L2
namespace VS
open PySem PySem.Spec PyProof.Rows L2
theorem rpl_strs {E : Wd} {G : Hp} : ∀ l : List (List Nat), RpL E G (l.map (V.str ∘ S)) (l.map .str)
  | [] => .nil
  | x :: l => .cons (.str x) (rpl_strs l)
def leK (a b : List Nat) : Bool := skLe (S a) (S b)
def fSortK : List D → Option D
  | [.lst es] => (asSs es).bind fun ss => if ss.all (fun s => decide (s.length ≤ 16777216)) then some (.lst ((ss.mergeSort leK).map .str)) else none
  | _ => none
section
variable {X : Cx} {W : WX} {b : Bool} {k : Nat} {pos : Pos}
theorem px_sortK {st : Stmt} {e : Expr} {gs : Env → R (List D)} {p q kpos : Pos} (D0 : Def X.K X.mg "short_key" st) (T : SkTxt st) (hz : X.mg "len" = none) (hr : Room k X.A) (hm : X.mg "sorted" = none) (ha : PXA X W b [e] gs) (hg : Gl X "sorted" := by rfl) (hgk : Gl X "short_key" := by rfl)
    (he : backTo pos (starEach [e] X.env) = (false, eval e X.env) :: backTo pos (starEach [] X.env) := by rfl) (hpl : (backTo pos (starEach [e] X.env)).any (·.1) = false := by rfl)
    (hall : (backToKw pos (keywordEach [⟨some "key", .Name "short_key" q, kpos⟩] X.env)).all (·.1.isSome) = true := by rfl) (hnone : (backToKw pos (keywordEach [⟨some "key", .Name "short_key" q, kpos⟩] X.env)).any (·.1.isNone) = false := by rfl) (hks : (backToKw pos (keywordEach [⟨some "key", .Name "short_key" q, kpos⟩] X.env)).filterMap (·.1) = [Str.ofString "key"] := by rfl) :
    PX X W true (.Call (.Name "sorted" p) [e] [⟨some "key", .Name "short_key" q, kpos⟩] pos) (eFn fSortK gs) := by
  obtain ⟨f, fd, F, hf⟩ := D0.ex
  refine pe_mono (pe_callBK (cr_sortSK F T hz hr) hg hm (by decide +kernel) ha (pk_cons (pe_glob (v := .ref f) hgk hf rfl) pk_nil) (by decide) (by decide) he hpl hall hnone hks) fun σ H Q ⟨B, G, c, fp, A, q⟩ => txa_seq A q fun ds e0 vs G1 H1 s1 t1 A1 r1 q1 => ?_
  obtain ⟨d, e3, p3⟩ := Res.lift q1
  unfold fSortK at e3
  split at e3
  · rename_i es
    obtain ⟨ss, e4, e5⟩ := Option.bind_eq_some_iff.mp e3
    split at e5
    · rename_i hall
      cases e5
      obtain ⟨v, rfl, rv⟩ := r1.one
      obtain ⟨a, vs, rfl, h1, r2⟩ := rv.lstH A1.fine.le
      have hv : vs = (ss.map S).map V.str := asSs_rp r2 e4
      subst hv
      show rSK X.K f [V.ref a] [V.ref f] H1 Q
      refine ⟨a, ss.map S, rfl, rfl, h1, fun x hx => ?_, fun p hp => ?_⟩
      · obtain ⟨s, hs, rfl⟩ := List.mem_map.mp hx
        have := List.all_eq_true.mp hall s hs
        rw [sizeLine_eq]
        show s.toArray.size ≤ _
        simpa using this
      · have : (ss.map S).mergeSort skLe = (ss.mergeSort leK).map S := (List.map_mergeSort (r := leK) (s := skLe) (f := S) (fun _ _ _ _ => rfl)).symm
        rw [this, List.map_map]
        exact (p3.grow s1 t1).new A1 hp fun s => .lst (.inl (.inl upd_same)) (rpl_strs _)
    · cases e5
  · cases e3
end
end VS

/-! VS: xs[::s] where s is 1 or -1. -/
namespace L2
open PySem PySem.Spec PyProof.Rows
theorem pick_one (items : Array Value) : slicePick items none none (some 1) = items := by
  show slicePick items none none none = items
  exact slicePick_all items
def tStepL (K : PySem.W.Frag) (te ts : TE) : TE := fun σ H Q => te σ H fun x H1 => ts σ H1 fun y H2 => ∃ st, y = .int st ∧ ∃ a xs ys, x = .ref a ∧ SqL K H2 a xs ∧ ((st = 1 ∧ ys = xs) ∨ (st = -1 ∧ ys = xs.reverse)) ∧ ∀ p, H2 p = none → Q (.ref p) (upd H2 p (.lst ys))
theorem pe_stepL {X : Cx} {e es : Expr} {te ts : TE} {p3 pos : Pos} (he : PE X e te) (hs : PE X es ts) : PE X (.Subscript e (.Slice none none (some es) p3) pos) (tStepL X.K te ts) := by
  refine ⟨fun pins s σ H Q I h => ?_⟩
  refine Subscript_ (thn (he.run pins s σ H _ I h) fun v s1 ⟨x, H1, I1, r1, q1⟩ => ?_)
  have hst : PO X (some es) (tPart ts) := po_some hs
  refine wpAny_Slice (thn (po_none.run pins s1 σ H1 (fun o H2 => o = none ∧ H2 = H1) I1 ⟨rfl, rfl⟩) fun vl s2 ⟨l, H2, I2, pl, el, e2⟩ => ?_)
  subst el e2
  refine thn (po_none.run pins s2 σ H2 (fun o H3 => o = none ∧ H3 = H2) I2 ⟨rfl, rfl⟩) fun vu s3 ⟨u, H3, I3, pu, eu, e3⟩ => ?_
  subst eu e3
  refine thn (hst.run pins s3 σ H3 (fun o H4 => ∃ st, o = some st ∧ ∃ a xs ys, x = .ref a ∧ SqL X.K H4 a xs ∧ ((st = 1 ∧ ys = xs) ∨ (st = -1 ∧ ys = xs.reverse)) ∧ ∀ p, H4 p = none → Q (.ref p) (upd H4 p (.lst ys))) I3 ?_) fun vs s4 ⟨o, H4, I4, ps, qq⟩ => ?_
  · show ts σ H3 _
    exact (congrArg (ts σ H3) (funext fun y => funext fun H2 => propext ⟨fun ⟨st, e, r⟩ => ⟨st, e, st, rfl, r⟩, fun ⟨i, e, st, e2, r⟩ => ⟨i, e, by cases e2; exact r⟩⟩)).mp q1
  obtain ⟨st, rfl, a, xs, ys, ex, hx, hd, q⟩ := qq
  subst ex
  cases r1
  have I5 : Inv X pins σ H4 { s4 with heap := s4.heap.push { cls := .type "slice", data := .fields #[vl, vu, vs] } } := I4.kept (t' := s4.toks) fun b ob q => Heap.get?_push_of_some _ q
  obtain ⟨its, r, ht, hz⟩ := I5.list hx
  have hlen := r.length
  show wpAny (model X.prog X.w) X.A (subscriptTail e (.Slice none none (some es) p3) (.ref a) (.ref s4.heap.objs.size)) (EP X pins σ Q) X.xe { s4 with heap := s4.heap.push { cls := .type "slice", data := .fields #[vl, vu, vs] } }
  refine tail_any (ops := [.ref a, .ref s4.heap.objs.size]) ht.isList.typeIs (PySem.slot_list_getitem.lookup) ?_ (by with_unfolding_all rfl)
  refine wpAny_getItem_list_slice ht.isList (Heap.IsSliceOf.new _ vl vu vs) pl pu ps (by rcases hd with ⟨rfl, _⟩ | ⟨rfl, _⟩ <;> decide) ?_ (by rw [List.size_toArray]; omega)
  have key : ∃ out : List Value, slicePick its.toArray none none (some st) = out.toArray ∧ Vals ys out ∧ ys.length = xs.length := by
    rcases hd with ⟨rfl, rfl⟩ | ⟨rfl, rfl⟩
    · exact ⟨its, pick_one _, r, rfl⟩
    · exact ⟨its.reverse, by rw [PySem.W.krv_pick], r.reverse, List.length_reverse⟩
  obtain ⟨out, k1, k2, k3⟩ := key
  rw [k1]
  refine ⟨.ref _, _, I5.laid (t' := s4.toks) (o := .lst ys) (fun b ob q => Heap.get?_push_of_some _ q) (Nat.le_refl _) ?_, rfl, q _ (I5.hok.fresh (Nat.le_refl _))⟩
  exact ⟨by rw [k3]; exact hz, _, 0, k2, Heap.get?_push_size _ rfl⟩
end L2
namespace VS
open PySem PySem.Spec PyProof.Rows L2
def stepL (ds : List D) : D → Option D
  | .int i => if i = 1 then some (.lst ds) else if i = -1 then some (.lst ds.reverse) else none
  | _ => none
def eStep (ga gs : Env → R D) : Env → R D := fun c => ga c >>= fun d => gs c >>= fun s => match d with
  | .lst ds => lift (stepL ds s)
  | _ => .stuck
section
variable {X : Cx} {W : WX} {b : Bool} {k : Nat} {pos : Pos}
theorem px_step {e es : Expr} {ga gs : Env → R D} {p3 : Pos} (h : PX X W true e ga) (hs : PX X W b es gs) : PX X W true (.Subscript e (.Slice none none (some es) p3) pos) (eStep ga gs) :=
  pe_mono (pe_stepL h hs) fun σ H Q ⟨B, G, c, fp, A, q⟩ => tx_seq A q fun d e0 v G1 H1 s1 t1 A1 r1 q1 => tx_seq A1 q1 fun s e2 w G2 H2 s2 t2 A2 r2 q2 => by
    cases r1 with
    | @lst a vs ds hq r =>
      obtain ⟨d, e3, p3⟩ := Res.lift q2
      have r2 := r2
      unfold stepL at e3
      split at e3
      · rename_i i r2
        cases r2
        have p3 := p3.grow (s1.trans s2) (t1.trans t2)
        refine ⟨i, rfl, a, vs, if i = 1 then vs else vs.reverse, rfl, Same.sqL A2.fine.le (Same.sqL s2 hq), ?_, fun p hp => ?_⟩
        · split at e3
          · rename_i h; rw [if_pos h]; exact .inl ⟨h, rfl⟩
          · rename_i h
            rw [if_neg h]
            split at e3
            · rename_i h'; exact .inr ⟨h', rfl⟩
            · cases e3
        · split at e3
          · rename_i h; rw [if_pos h]; cases e3
            exact p3.new A2 hp fun s => .lst (.inl (.inl upd_same)) (r.mono (s2.trans s))
          · rename_i h
            rw [if_neg h]
            split at e3
            · cases e3
              exact p3.new A2 hp fun s => .lst (.inl (.inl upd_same)) (RpL.reverse (r.mono (s2.trans s)))
            · cases e3
      · cases e3
    | _ => exact q2.elim
end
/-! ### a tuple of texts, a constant of the module -/
def TextsAre : List Value → List D → Prop
  | [], [] => True
  | .str x _ :: vs, .str l :: ds => x = S l ∧ TextsAre vs ds
  | _, _ => False
theorem tk_nil : TextsAre [] [] := True.intro
theorem tk_cons {x : Str} {t : Tok} {l : List Nat} {vs : List Value} {ds : List D} (h : x = S l) (r : TextsAre vs ds) : TextsAre (.str x t :: vs) (.str l :: ds) := ⟨h, r⟩
theorem texts_vals {E : Wd} {G : Hp} : ∀ {vs : List Value} {ds : List D}, TextsAre vs ds → ∃ xs, Vals xs vs ∧ RpL E G xs ds
  | [], [], _ => ⟨[], .nil, .nil⟩
  | .str x t :: vs, .str l :: ds, h => by
    obtain ⟨h1, h2⟩ := h
    obtain ⟨xs, k1, k2⟩ := texts_vals (E := E) (G := G) h2
    exact ⟨.str (S l) :: xs, .cons ⟨t, by rw [h1]⟩ k1, .cons (.str l) k2⟩
theorem rp_tupK {K : PySem.W.Frag} {mg : Str → Option Value} {G : Hp} {a : Addr} {od : Option Addr} {n : Nat} {sl : Array (Option Value)} {its : Array Value} {ds : List D} (h : K.lookup a = some ⟨.type "tuple", od, .seq its n, sl⟩) (hs : its.size ≤ 100) (ht : TextsAre its.toList ds) : Rp ⟨K, mg⟩ G (.ref a) (.tup ds) := by
  obtain ⟨xs, k1, k2⟩ := texts_vals (E := ⟨K, mg⟩) (G := G) ht
  exact .tup (.inr ⟨_, its, n, h, rfl, rfl, by have := sizeLine_eq; omega, k1⟩) k2
/-! ### is, is not of truth values -/
def opIsB : D → D → Option D
  | .bl a, .bl b => some (.bl (decide (a = b)))
  | _, _ => none
def opIsntB : D → D → Option D
  | .bl a, .bl b => some (.bl (!decide (a = b)))
  | _, _ => none
section
variable {X : Cx} {b1 b2 : Bool}
theorem ok_isB : Op2Ok ⟨X.K, X.mg⟩ rIsB b1 b2 true opIsB := by
  intro B G H c σ fp x y dx dy d Q A rx ry e p
  unfold opIsB at e
  split at e
  · cases e
    cases rx
    cases ry
    exact ⟨_, _, rfl, rfl, p.here A (.bl _)⟩
  · cases e
theorem ok_isntB : Op2Ok ⟨X.K, X.mg⟩ rNotB b1 b2 true opIsntB := by
  intro B G H c σ fp x y dx dy d Q A rx ry e p
  unfold opIsntB at e
  split at e
  · cases e
    cases rx
    cases ry
    exact ⟨_, _, rfl, rfl, p.here A (.bl _)⟩
  · cases e
end
end VS

set_option maxHeartbeats 8000000
namespace GW
open PySem PySem.Spec PyProof.Rows L2 VS
noncomputable section
def wN : Nat := 1000000000
def BLnumber : VS.Env → Rs :=
    (sSeq (sSet 2 (eOp2 (opAdd true true) (eOp2 (opMul) (eFn (fSum) (eCons (eV 0) eNil)) (eC (.int 31))) (eOp2 (opMul) (eC (.int 1000003)) (eOp2 (opAdd true true) (eV 1) (eC (.int 1))))))
    (sSeq (sIf (eB (eOp2 (opRel fun i j => decide (i < j)) (eV 1) (eFn (fLen) (eCons (eV 0) eNil))))
    (sSet 2 (eOp2 (opIx true) (eV 0) (eV 1)))
    sNil)
    (sRet (eFn (fAbs) (eCons (eV 2) eNil)))))
def MLnumber : List D → R D := runF 3 BLnumber
def BLdraws : VS.Env → Rs :=
    (sSeq (sSet 4 (eCall MLnumber (eCons (eV 0) (eCons (eV 1) eNil))))
    (sSeq (sSetO 5 (eFnO fLstO eNil))
    (sSeq (sIf (eB (eOp2 (opRel fun i j => decide (j ≤ i)) (eV 4) (eOp2 (opPow) (eC (.int 10)) (eC (.int 18)))))
    (sSeq (sSet 4 (eOp2 (opSub) (eV 4) (eOp2 (opPow) (eC (.int 10)) (eC (.int 18)))))
    (sSeq (sFor 6 (eItR (eC (.int 0)) (eV 2))
    (sSeq (sApp 5 (eOp2 (opMod) (eV 4) (eV 3)))
    (sSet 4 (eOp2 (opDiv) (eV 4) (eV 3)))))
    (sFz 5 (sRet (eV 5)))))
    sNil)
    (sSeq (sSet 7 (eOp2 (opAdd true true) (eOp2 (opMod) (eV 4) (eC (.int 2147483647))) (eC (.int 1))))
    (sSeq (sFor 6 (eItR (eC (.int 0)) (eV 2))
    (sSeq (sSet 7 (eOp2 (opMod) (eOp2 (opAdd true true) (eOp2 (opAdd true true) (eOp2 (opMul) (eV 7) (eC (.int 48271))) (eOp2 (opMul) (eC (.int 11)) (eV 6))) (eC (.int 7))) (eC (.int 2147483647))))
    (sSeq (sSet 8 (eOp2 (opMod) (eOp2 (opAdd true true) (eOp2 (opAdd true true) (eOp2 (opMul) (eV 7) (eV 7)) (eOp2 (opMul) (eC (.int 69621)) (eV 6))) (eC (.int 5))) (eC (.int 2147483629))))
    (sApp 5 (eOp2 (opMod) (eOp2 (opDiv) (eV 8) (eC (.int 64))) (eV 3))))))
    (sFz 5 (sRet (eV 5))))))))
def MLdraws : List D → R D := runF 9 BLdraws
def BLdrawn_steps : VS.Env → Rs :=
    (sSeq (sSetO 4 (eFnO fLstO eNil))
    (sSeq (sFor 5 (eItR (eC (.int 0)) (eV 3))
    (sSeq (sSet 6 (eCall MLdraws (eCons (eV 0) (eCons (eOp2 (opAdd true true) (eV 1) (eV 5)) (eCons (eC (.int 16)) (eCons (eC (.int 5040)) eNil))))))
    (sIf (eB (eOp2 (opEq) (eOp2 (opMod) (eOp2 (opIx true) (eV 6) (eC (.int 0))) (eC (.int 3))) (eC (.int 0))))
    (sApp 4 (eFn fTup (eCons (eC (.str [108, 101, 116, 116, 101, 114])) (eCons (eOp2 (opMod) (eOp2 (opIx true) (eV 6) (eC (.int 1))) (eV 2)) eNil))))
    (sSeq (sSet 7 (eLc (eItR (eC (.int 0)) (eV 2)) (eB (eOp2 (opEq) (eOp2 (opBit Builtin.bitAnd) (eOp2 (opShr) (eOp2 (opAdd true true) (eC (.int 1)) (eOp2 (opMod) (eOp2 (opIx true) (eV 6) (eC (.int 1))) (eOp2 (opSub) (eOp2 (opShl) (eC (.int 1)) (eV 2)) (eC (.int 1))))) (eV 13)) (eC (.int 1))) (eC (.int 1)))) (eOp2 (opIx true) (eC (.str [97, 98, 99])) (eV 13)) 13))
    (sSeq (sSetO 8 (eFnO fLstO eNil))
    (sSeq (sFor 9 (eItR (eC (.int 0)) (eC (.int 2)))
    (sSeq (sSet 10 (eLc (eIt true (eSl true (eV 6) (eO (eOp2 (opAdd true true) (eC (.int 2)) (eOp2 (opMul) (eC (.int 7)) (eV 9)))) (eO (eOp2 (opAdd true true) (eC (.int 9)) (eOp2 (opMul) (eC (.int 7)) (eV 9)))))) tYes' (eOp2 (opIx true) (eV 7) (eOp2 (opMod) (eV 14) (eFn (fLen) (eCons (eV 7) eNil)))) 14))
    (sSeq (sSet 11 (eStep (eV 7) (eOp2 (opSub) (eC (.int 1)) (eOp2 (opMul) (eC (.int 2)) (eOp2 (opMod) (eOp2 (opDiv) (eOp2 (opIx true) (eV 6) (eC (.int 15))) (eOp2 (opAdd true true) (eC (.int 1)) (eV 9))) (eC (.int 2)))))))
    (sSeq (sSet 12 (eMS fJoin (eC (.str [])) (eCons (eV 10) eNil)))
    (sApp 8 (eFn fTup (eCons (eSl true (eV 12) eNoO (eO (eOp2 (opMod) (eOp2 (opIx true) (eV 6) (eC (.int 15))) (eC (.int 3))))) (eCons (eOp2 (opAdd true true) (eMS fJoin (eC (.str [])) (eCons (eV 11) eNil)) (eSl true (eV 12) (eO (eC (.int 2))) (eO (eOp2 (opAdd true true) (eC (.int 2)) (eOp2 (opMod) (eOp2 (opIx true) (eV 6) (eC (.int 14))) (eC (.int 3))))))) (eCons (eSl true (eV 12) (eO (eC (.int 5))) (eO (eOp2 (opAdd true true) (eC (.int 5)) (eOp2 (opMod) (eOp2 (opIx true) (eV 6) (eC (.int 13))) (eC (.int 3)))))) eNil)))))))))
    (sApp 4 (eFn fTup (eCons (eC (.str [115, 101, 116])) (eCons (eIxo 8 (eC (.int 0))) (eCons (eIxo 8 (eC (.int 1))) eNil)))))))))))
    (sFz 4 (sRet (eV 4)))))
def MLdrawn_steps : List D → R D := runF 15 BLdrawn_steps
def BLmade : VS.Env → Rs :=
    (sSeq (sSet 3 (eC (.str [])))
    (sSeq (sFor 4 (eIt true (eV 0))
    (sIf (eB (eOp2 (opEq) (eOp2 (opIx true) (eV 4) (eC (.int 0))) (eC (.str [108, 101, 116, 116, 101, 114]))))
    (sSet 3 (eOp2 (opAdd true true) (eV 3) (eOp2 (opIx true) (eC (.str [97, 98, 99])) (eOp2 (opIx true) (eV 4) (eC (.int 1))))))
    (sSet 3 (eOp2 (opAdd true true) (eOp2 (opAdd true true) (eOp2 (opAdd true true) (eV 3) (eOp2 (opIx true) (eOp2 (opIx true) (eV 4) (eV 1)) (eC (.int 0)))) (eOp2 (opMul) (eOp2 (opIx true) (eOp2 (opIx true) (eV 4) (eV 1)) (eC (.int 1))) (eV 2))) (eOp2 (opIx true) (eOp2 (opIx true) (eV 4) (eV 1)) (eC (.int 2)))))))
    (sRet (eV 3))))
def MLmade : List D → R D := runF 5 BLmade
def BLsame (MLsame : List D → R D) : VS.Env → Rs :=
    (sSeq (sIf (tOr' (eTru (eIs .bool (eV 1))) (eTru (eIs .bool (eV 0))))
    (sRet (eAnd (eIs .bool (eV 1)) (eAnd (eIs .bool (eV 0)) (eOp2 (opEq) (eV 0) (eV 1)))))
    sNil)
    (sSeq (sIf (tOr' (eB (eOp2 (opIs) (eV 1) (eC .non))) (eTru (eIs .int (eV 1))))
    (sRet (eAnd (eOp2 (opEq) (eV 0) (eV 1)) (eOr (eOp2 (opIs) (eV 1) (eC .non)) (eIs .int (eV 0)))))
    sNil)
    (sSeq (sIf (eTru (eIs .str (eV 1)))
    (sRet (eAnd (eIs .str (eV 0)) (eOp2 (opEq) (eV 0) (eV 1))))
    sNil)
    (sSeq (sIf (tOr' (eB (eOp2 (opNe) (eIs .list (eV 1)) (eIs .list (eV 0)))) (eB (eOp2 (opNe) (eIs .tuple (eV 1)) (eIs .tuple (eV 0)))))
    (sRet (eC (.bl false)))
    sNil)
    (sSeq (sIf (eB (eOp2 (opNe) (eFn (fLen) (eCons (eV 0) eNil)) (eFn (fLen) (eCons (eV 1) eNil))))
    (sRet (eC (.bl false)))
    sNil)
    (sSeq (sFor 2 (eItR (eC (.int 0)) (eFn (fLen) (eCons (eV 1) eNil)))
    (sIf (tNot' (eTru (eCall MLsame (eCons (eOp2 (opIx true) (eV 0) (eV 2)) (eCons (eOp2 (opIx true) (eV 1) (eV 2)) eNil)))))
    (sRet (eC (.bl false)))
    sNil))
    (sRet (eC (.bl true)))))))))
def MLsameN : Nat → List D → R D
  | 0 => fun _ => .stuck
  | n + 1 => runF 3 (BLsame (MLsameN n))
def MLsame : List D → R D := MLsameN 64
def BLscattered : VS.Env → Rs :=
    (sSeq (sSet 2 (eC (.int 0)))
    (sSeq (sFor 3 (eIt true (eV 1))
    (sIf (tAnd' (eB (eOp2 (opRel fun i j => decide (i < j)) (eV 2) (eFn (fLen) (eCons (eV 0) eNil)))) (eB (eOp2 (opEq) (eOp2 (opIx true) (eV 0) (eV 2)) (eV 3))))
    (sSet 2 (eOp2 (opAdd true true) (eV 2) (eC (.int 1))))
    sNil))
    (sRet (eOp2 (opEq) (eV 2) (eFn (fLen) (eCons (eV 0) eNil))))))
def MLscattered : List D → R D := runF 4 BLscattered
def BLsubwords : VS.Env → Rs :=
    (sSeq (sSet 3 (eFn fLst (eCons (eC (.str [])) eNil)))
    (sSeq (sSet 4 (eFn fLst (eCons (eC (.str [])) eNil)))
    (sSeq (sFor 5 (eItR (eC (.int 0)) (eFn (fMin2) (eCons (eV 0) (eCons (eFn (fLen) (eCons (eV 2) eNil)) eNil))))
    (sSeq (sSetO 6 (eFnO fLstO eNil))
    (sSeq (sFor 7 (eIt true (eV 4))
    (sFor 8 (eIt true (eSl true (eC (.str [97, 98, 99])) eNoO (eO (eV 1))))
    (sIf (eTru (eCall MLscattered (eCons (eOp2 (opAdd true true) (eV 7) (eV 8)) (eCons (eV 2) eNil))))
    (sApp 6 (eOp2 (opAdd true true) (eV 7) (eV 8)))
    sNil)))
    (sSeq (sSet 3 (eOp2 (opAdd true false) (eV 3) (eL 6)))
    (sFz 6 (sSet 4 (eV 6)))))))
    (sRet (eFn (fTuple true) (eCons (eV 3) eNil))))))
def MLsubwords : List D → R D := runF 9 BLsubwords
def Bcheck_manner : VS.Env → Rs :=
    (sIf (eB (eOp2 (opNotInS) (eV 0) (eC (.tup [(.str [108, 97, 115, 116]), (.str [102, 105, 114, 115, 116]), (.str [101, 110, 100, 115]), (.str [115, 108, 105, 116]), (.str [115, 99, 97, 116, 116, 101, 114, 101, 100]), (.str [114, 105, 115, 105, 110, 103]), (.str [102, 97, 108, 108, 105, 110, 103]), (.str [99, 111, 117, 110, 116, 115])]))))
    sNo
    sNil)
def Mcheck_manner : List D → R D := runF 1 Bcheck_manner
def Bcounts_view : VS.Env → Rs :=
    sNo
def Mcounts_view : List D → R D := runF 4 Bcounts_view
def Blast_letters : VS.Env → Rs :=
    (sRet (eSl true (eV 1) (eO (eFn (fMax2) (eCons (eC (.int 0)) (eCons (eOp2 (opSub) (eFn (fLen) (eCons (eV 1) eNil)) (eV 0)) eNil)))) eNoO))
def Mlast_letters : List D → R D := runF 2 Blast_letters
def Bends_view : VS.Env → Rs :=
    (sSeq (sIf (eB (eOp2 (opRel fun i j => decide (i < j)) (eFn (fLen) (eCons (eV 1) eNil)) (eV 0)))
    (sRet (eV 1))
    sNil)
    (sRet (eFn fTup (eCons (eSl true (eV 1) eNoO (eO (eV 0))) (eCons (eCall Mlast_letters (eCons (eV 0) (eCons (eV 1) eNil))) eNil)))))
def Mends_view : List D → R D := runF 2 Bends_view
def Bstretches : VS.Env → Rs :=
    sNo
def Mstretches : List D → R D := runF 3 Bstretches
def Bslit_view : VS.Env → Rs :=
    (sSeq (sIf (eB (eOp2 (opEq) (eV 0) (eC (.int 0))))
    (sRet (eC (.str [])))
    sNil)
    (sSeq (sIf (eB (eOp2 (opRel fun i j => decide (i < j)) (eFn (fLen) (eCons (eV 1) eNil)) (eV 0)))
    (sRet (eV 1))
    sNil)
    (sRet (eFn fTup (eCons (eSl true (eV 1) eNoO (eO (eOp2 (opSub) (eV 0) (eC (.int 1))))) (eCons (eCall Mlast_letters (eCons (eOp2 (opSub) (eV 0) (eC (.int 1))) (eCons (eV 1) eNil))) (eCons (eCall Mstretches (eCons (eV 0) (eCons (eV 1) eNil))) eNil)))))))
def Mslit_view : List D → R D := runF 2 Bslit_view
def Bwithout_repeats : VS.Env → Rs :=
    (sSeq (sSetO 1 (eFnO fLstO eNil))
    (sSeq (sFor 2 (eIt true (eV 0))
    (sIf (tOr' (eB (eOp2 (opEq) (eFn (fLen) (eCons (eL 1) eNil)) (eC (.int 0)))) (eB (eOp2 (opNe) (eIxo 1 (eNeg (eC (.int 1)))) (eV 2))))
    (sApp 1 (eV 2))
    sNil))
    (sRet (eFn (fTuple false) (eCons (eL 1) eNil)))))
def Mwithout_repeats : List D → R D := runF 3 Bwithout_repeats
def Bshort_key : VS.Env → Rs :=
    (sRet (eFn fTup (eCons (eFn (fLen) (eCons (eV 0) eNil)) (eCons (eV 0) eNil))))
def Mshort_key : List D → R D := runF 1 Bshort_key
def Bscattered_words : VS.Env → Rs :=
    (sSeq (sSetO 2 (eD1 (.str []) (.bl true)))
    (sSeq (sFor 3 (eIt true (eV 1))
    (sFor 4 (eIt true (eFn fListD (eCons (eL 2) eNil)))
    (sIf (eB (eOp2 (opRel fun i j => decide (i < j)) (eFn (fLen) (eCons (eV 4) eNil)) (eV 0)))
    (sDSet 2 (eOp2 (opAdd true true) (eV 4) (eV 3)) (eC (.bl true)))
    sNil)))
    (sRet (eFn fSortK (eCons (eFn fListD (eCons (eL 2) eNil)) eNil)))))
def Mscattered_words : List D → R D := runF 5 Bscattered_words
def Brising_view : VS.Env → Rs :=
    (sSeq (sSet 2 (eLc (eItR (eC (.int 0)) (eOp2 (opAdd true true) (eFn (fLen) (eCons (eV 1) eNil)) (eC (.int 1)))) tYes' (eFn (fTuple true) (eCons (eCall Mscattered_words (eCons (eV 0) (eCons (eSl true (eV 1) eNoO (eO (eV 3))) eNil))) eNil)) 3))
    (sRet (eCall Mwithout_repeats (eCons (eV 2) eNil))))
def Mrising_view : List D → R D := runF 4 Brising_view
def Bfalling_view : VS.Env → Rs :=
    (sSeq (sSet 2 (eLc (eItR (eC (.int 0)) (eOp2 (opAdd true true) (eFn (fLen) (eCons (eV 1) eNil)) (eC (.int 1)))) tYes' (eFn (fTuple true) (eCons (eCall Mscattered_words (eCons (eV 0) (eCons (eSl true (eV 1) (eO (eOp2 (opSub) (eFn (fLen) (eCons (eV 1) eNil)) (eV 3))) eNoO) eNil))) eNil)) 3))
    (sRet (eCall Mwithout_repeats (eCons (eV 2) eNil))))
def Mfalling_view : List D → R D := runF 4 Bfalling_view
def Bview : VS.Env → Rs :=
    (sSeq (sExpr (eCall Mcheck_manner (eCons (eV 0) eNil)))
    (sSeq (sIf (eB (eOp2 (opEq) (eV 0) (eC (.str [108, 97, 115, 116]))))
    (sRet (eCall Mlast_letters (eCons (eV 1) (eCons (eV 3) eNil))))
    sNil)
    (sSeq (sIf (eB (eOp2 (opEq) (eV 0) (eC (.str [102, 105, 114, 115, 116]))))
    (sRet (eSl true (eV 3) eNoO (eO (eV 1))))
    sNil)
    (sSeq (sIf (eB (eOp2 (opEq) (eV 0) (eC (.str [101, 110, 100, 115]))))
    (sRet (eCall Mends_view (eCons (eV 1) (eCons (eV 3) eNil))))
    sNil)
    (sSeq (sIf (eB (eOp2 (opEq) (eV 0) (eC (.str [115, 108, 105, 116]))))
    (sRet (eCall Mslit_view (eCons (eV 1) (eCons (eV 3) eNil))))
    sNil)
    (sSeq (sIf (eB (eOp2 (opEq) (eV 0) (eC (.str [115, 99, 97, 116, 116, 101, 114, 101, 100]))))
    (sRet (eFn (fTuple true) (eCons (eCall Mscattered_words (eCons (eV 1) (eCons (eV 3) eNil))) eNil)))
    sNil)
    (sSeq (sIf (eB (eOp2 (opEq) (eV 0) (eC (.str [114, 105, 115, 105, 110, 103]))))
    (sRet (eCall Mrising_view (eCons (eV 1) (eCons (eV 3) eNil))))
    sNil)
    (sSeq (sIf (eB (eOp2 (opEq) (eV 0) (eC (.str [102, 97, 108, 108, 105, 110, 103]))))
    (sRet (eCall Mfalling_view (eCons (eV 1) (eCons (eV 3) eNil))))
    sNil)
    (sRet (eCall Mcounts_view (eCons (eV 1) (eCons (eV 2) (eCons (eV 3) eNil)))))))))))))
def Mview : List D → R D := runF 4 Bview
def Balike : VS.Env → Rs :=
    (sRet (eOp2 (opEq) (eCall Mview (eCons (eV 0) (eCons (eV 1) (eCons (eV 2) (eCons (eV 3) eNil))))) (eCall Mview (eCons (eV 0) (eCons (eV 1) (eCons (eV 2) (eCons (eV 4) eNil)))))))
def Malike : List D → R D := runF 5 Balike
def Bbond_words : VS.Env → Rs :=
    (sSeq (sSet 2 (eC (.str [])))
    (sSeq (sSet 3 (eC (.str [])))
    (sSeq (sFor 4 (eIt true (eV 0))
    (sIf (eB (eOp2 (opEq) (eOp2 (opIx true) (eV 4) (eC (.int 0))) (eC (.str [108, 101, 116, 116, 101, 114]))))
    (sSeq (sSet 2 (eOp2 (opAdd true true) (eV 2) (eOp2 (opIx true) (eC (.str [97, 98, 99])) (eOp2 (opIx true) (eV 4) (eC (.int 1))))))
    (sSet 3 (eOp2 (opAdd true true) (eV 3) (eOp2 (opIx true) (eC (.str [97, 98, 99])) (eOp2 (opIx true) (eV 4) (eC (.int 1)))))))
    (sSeq (sSet 2 (eOp2 (opAdd true true) (eOp2 (opAdd true true) (eOp2 (opAdd true true) (eV 2) (eOp2 (opIx true) (eOp2 (opIx true) (eV 4) (eC (.int 1))) (eC (.int 0)))) (eOp2 (opMul) (eOp2 (opIx true) (eOp2 (opIx true) (eV 4) (eC (.int 1))) (eC (.int 1))) (eV 1))) (eOp2 (opIx true) (eOp2 (opIx true) (eV 4) (eC (.int 1))) (eC (.int 2)))))
    (sSet 3 (eOp2 (opAdd true true) (eOp2 (opAdd true true) (eOp2 (opAdd true true) (eV 3) (eOp2 (opIx true) (eOp2 (opIx true) (eV 4) (eC (.int 2))) (eC (.int 0)))) (eOp2 (opMul) (eOp2 (opIx true) (eOp2 (opIx true) (eV 4) (eC (.int 2))) (eC (.int 1))) (eV 1))) (eOp2 (opIx true) (eOp2 (opIx true) (eV 4) (eC (.int 2))) (eC (.int 2))))))))
    (sRet (eFn fTup (eCons (eV 2) (eCons (eV 3) eNil)))))))
def Mbond_words : List D → R D := runF 5 Bbond_words
def Blaw : VS.Env → Rs :=
    (sSeq (sSet 1 (eCall MLdraws (eCons (eV 0) (eCons (eC (.int 0)) (eCons (eC (.int 3)) (eCons (eC (.int 5040)) eNil))))))
    (sSeq (sSet 2 (eOp2 (opAdd true true) (eC (.int 1)) (eOp2 (opMod) (eOp2 (opIx true) (eV 1) (eC (.int 0))) (eC (.int 3)))))
    (sSeq (sSet 3 (eCall MLdrawn_steps (eCons (eV 0) (eCons (eC (.int 1)) (eCons (eV 2) (eCons (eOp2 (opMod) (eOp2 (opIx true) (eV 1) (eC (.int 1))) (eC (.int 5))) eNil))))))
    (sSeq (sFor 4 (eItR (eC (.int 1)) (eC (.int 5)))
    (sSeq (sSet 5 (eFn (fList true) (eCons (eV 3) eNil)))
    (sSeq (sSet 6 (eFn fTup (eCons (eCall MLmade (eCons (eV 3) (eCons (eC (.int 1)) (eCons (eV 4) eNil)))) (eCons (eCall MLmade (eCons (eV 3) (eCons (eC (.int 2)) (eCons (eV 4) eNil)))) eNil))))
    (sSeq (sIf (tOr' (tNot' (eTru (eCall MLsame (eCons (eCall Mbond_words (eCons (eV 5) (eCons (eV 4) eNil))) (eCons (eV 6) eNil))))) (tNot' (eTru (eCall MLsame (eCons (eV 5) (eCons (eV 3) eNil))))))
    (sRet (eC (.bl false)))
    sNil)
    (sIf (eB (eOp2 (opRel fun i j => decide (i < j)) (eV 4) (eC (.int 4))))
    (sSeq (sIf (eB (eOp2 (opNe) (eCall MLsubwords (eCons (eV 4) (eCons (eV 2) (eCons (eOp2 (opIx true) (eV 6) (eC (.int 0))) eNil)))) (eCall MLsubwords (eCons (eV 4) (eCons (eV 2) (eCons (eOp2 (opIx true) (eV 6) (eC (.int 1))) eNil))))))
    (sRet (eC (.bl false)))
    sNil)
    (sIf (eB (eOp2 (opIsntB) (eCall Malike (eCons (eC (.str [115, 99, 97, 116, 116, 101, 114, 101, 100])) (eCons (eV 4) (eCons (eV 2) (eCons (eOp2 (opIx true) (eV 6) (eC (.int 0))) (eCons (eOp2 (opIx true) (eV 6) (eC (.int 1))) eNil)))))) (eC (.bl true))))
    (sRet (eC (.bl false)))
    sNil))
    sNil)))))
    (sRet (eC (.bl true)))))))
def Mlaw : List D → R D := runF 7 Blaw
end
end GW

set_option maxHeartbeats 4000000
namespace GW
open PySem PySem.Spec PyProof.Rows L2 VS
theorem asInts_map' (ns : List Int) : asInts (ns.map D.int) = some ns := by
  induction ns with
  | nil => rfl
  | cons n ns ih => rw [List.map_cons, asInts_cons, ih]; rfl
theorem Lnumber_spec (ns : List Int) (k : Nat) : ∃ v : Int, 0 ≤ v ∧ MLnumber [.lst (ns.map D.int), .int k] = .ok (.int v) := by
  unfold MLnumber BLnumber
  rw [runF_def]
  by_cases h : (k : Int) < ns.length
  · have hk : k < ns.length := by omega
    simp -implicitDefEqProofs [asInts_map', h, List.getElem?_eq_getElem hk]
    split <;> omega
  · simp -implicitDefEqProofs [asInts_map', h]
    split <;> omega
theorem hpow18 : opPow (.int 10) (.int 18) = some (.int 1000000000000000000) := (rfl)
theorem asI_0 : asI (.int 0) = some 0 := (rfl)
theorem Ldraws_a (ns : List Int) (k count : Nat) (many v : Int) (hc : count ≤ 1000000) (h1 : 0 < many) (h2 : many < 1073741824) (hv : 0 ≤ v) (e : MLnumber [.lst (ns.map D.int), .int k] = .ok (.int v)) (h : (1000000000000000000 : Int) ≤ v) : ∃ l : List Int, MLdraws [.lst (ns.map D.int), .int k, .int count, .int many] = .ok (.lst (l.map D.int)) ∧ l.length = count ∧ ∀ x ∈ l, 0 ≤ x ∧ x < many := by
  unfold MLdraws BLdraws
  rw [runF_def]
  have hi : asI (.int (count : Int)) = some (count : Int) := by rw [asI_int, if_pos ⟨by omega, by omega⟩]
  obtain ⟨c', hc', l, x, st, hcl, hll, hlx⟩ := forL_rg 6 (sSeq (sApp 5 (eOp2 (opMod) (eV 4) (eV 3))) (sSet 4 (eOp2 (opDiv) (eV 4) (eV 3)))) count
    (fun j c => ∃ (l : List Int) (x : Option O) (st : Int), c = [some (.v (.lst (ns.map D.int))), some (.v (.int k)), some (.v (.int count)), some (.v (.int many)), some (.v (.int st)), some (.lst (l.map fun i => .v (.int i))), x, none, none] ∧ l.length = j ∧ ∀ x ∈ l, 0 ≤ x ∧ x < many)
    [some (.v (.lst (ns.map D.int))), some (.v (.int k)), some (.v (.int count)), some (.v (.int many)), some (.v (.int (v - 1000000000000000000))), some (.lst []), none, none, none]
    (by
      rintro j c hj ⟨l, x, st, rfl, hl, hx⟩
      have hlt : j < 16777216 := by omega
      refine ⟨_, by simp -implicitDefEqProofs [hlt, hl, h1, h2]; rfl, l ++ [st % many], some (.v (.int j)), st / many, by simp, by simp -implicitDefEqProofs [hl], ?_⟩
      intro y hy
      rcases List.mem_append.mp hy with hy | hy
      · exact hx y hy
      · rw [List.mem_singleton.mp hy]; exact ⟨Int.emod_nonneg _ (by omega), Int.emod_lt_of_pos _ h1⟩)
    ⟨[], none, v - 1000000000000000000, by simp, rfl, by simp⟩
  refine ⟨l, ?_, by rw [hll]; simp, hlx⟩
  simp -implicitDefEqProofs [e, hpow18, h, hi, asI_0]
  rw [hc', hcl]; simp

theorem Ldraws_b (ns : List Int) (k count : Nat) (many v : Int) (hc : count ≤ 1000000) (h1 : 0 < many) (h2 : many < 1073741824) (hv : 0 ≤ v) (e : MLnumber [.lst (ns.map D.int), .int k] = .ok (.int v)) (h : ¬ (1000000000000000000 : Int) ≤ v) : ∃ l : List Int, MLdraws [.lst (ns.map D.int), .int k, .int count, .int many] = .ok (.lst (l.map D.int)) ∧ l.length = count ∧ ∀ x ∈ l, 0 ≤ x ∧ x < many := by
  unfold MLdraws BLdraws
  rw [runF_def]
  have hi : asI (.int (count : Int)) = some (count : Int) := by rw [asI_int, if_pos ⟨by omega, by omega⟩]
  obtain ⟨c', hc', l, x, y, st, hcl, hll, hlx, _⟩ := forL_rg 6 (sSeq (sSet 7 (eOp2 (opMod) (eOp2 (opAdd true true) (eOp2 (opAdd true true) (eOp2 (opMul) (eV 7) (eC (.int 48271))) (eOp2 (opMul) (eC (.int 11)) (eV 6))) (eC (.int 7))) (eC (.int 2147483647))))
  (sSeq (sSet 8 (eOp2 (opMod) (eOp2 (opAdd true true) (eOp2 (opAdd true true) (eOp2 (opMul) (eV 7) (eV 7)) (eOp2 (opMul) (eC (.int 69621)) (eV 6))) (eC (.int 5))) (eC (.int 2147483629))))
  (sApp 5 (eOp2 (opMod) (eOp2 (opDiv) (eV 8) (eC (.int 64))) (eV 3))))) count
    (fun j c => ∃ (l : List Int) (x y : Option O) (st : Int), c = [some (.v (.lst (ns.map D.int))), some (.v (.int k)), some (.v (.int count)), some (.v (.int many)), some (.v (.int v)), some (.lst (l.map fun i => .v (.int i))), x, some (.v (.int st)), y] ∧ l.length = j ∧ (∀ x ∈ l, 0 ≤ x ∧ x < many) ∧ 0 ≤ st ∧ st < 2 ^ 32)
    [some (.v (.lst (ns.map D.int))), some (.v (.int k)), some (.v (.int count)), some (.v (.int many)), some (.v (.int v)), some (.lst []), none, some (.v (.int (v % 2147483647 + 1))), none]
    (by
      rintro j c hj ⟨l, x, y, st, rfl, hl, hx, hs, hs'⟩
      have g1 : 0 ≤ (st * 48271 + 11 * (j : Int) + 7) % 2147483647 := Int.emod_nonneg _ (by omega)
      have g2 : (st * 48271 + 11 * (j : Int) + 7) % 2147483647 < 2147483647 := Int.emod_lt_of_pos _ (by omega)
      have hlt : j < 16777216 := by omega
      have g3 : -18446744073709551616 < (st * 48271 + 11 * (j : Int) + 7) % 2147483647 := by omega
      have g4 : (st * 48271 + 11 * (j : Int) + 7) % 2147483647 < 18446744073709551616 := by omega
      refine ⟨_, by simp -implicitDefEqProofs [hlt, hl, h1, h2, g3, g4]; rfl, l ++ [(((st * 48271 + 11 * (j : Int) + 7) % 2147483647) * ((st * 48271 + 11 * (j : Int) + 7) % 2147483647) + 69621 * (j : Int) + 5) % 2147483629 / 64 % many], some (.v (.int j)), some (.v (.int ((((st * 48271 + 11 * (j : Int) + 7) % 2147483647) * ((st * 48271 + 11 * (j : Int) + 7) % 2147483647) + 69621 * (j : Int) + 5) % 2147483629))), (st * 48271 + 11 * (j : Int) + 7) % 2147483647, by simp, by simp -implicitDefEqProofs [hl], ?_, g1, by omega⟩
      intro y hy
      rcases List.mem_append.mp hy with hy | hy
      · exact hx y hy
      · rw [List.mem_singleton.mp hy]; exact ⟨Int.emod_nonneg _ (by omega), Int.emod_lt_of_pos _ h1⟩)
    ⟨[], none, none, v % 2147483647 + 1, by simp, rfl, by simp, by omega, by omega⟩
  refine ⟨l, ?_, by rw [hll]; simp, hlx⟩
  simp -implicitDefEqProofs [e, hpow18, h, hi, asI_0]
  rw [hc', hcl]; simp

theorem Ldraws_spec (ns : List Int) (k count : Nat) (many : Int) (hc : count ≤ 1000000) (h1 : 0 < many) (h2 : many < 1073741824) : ∃ l : List Int, MLdraws [.lst (ns.map D.int), .int k, .int count, .int many] = .ok (.lst (l.map D.int)) ∧ l.length = count ∧ ∀ x ∈ l, 0 ≤ x ∧ x < many := by
  obtain ⟨v, hv, e⟩ := Lnumber_spec ns k
  by_cases h : (1000000000000000000 : Int) ≤ v
  · exact Ldraws_a ns k count many v hc h1 h2 hv e h
  · exact Ldraws_b ns k count many v hc h1 h2 hv e h
end GW

namespace GW
open PySem PySem.Spec PyProof.Rows L2 VS
theorem Lsame_loop (m : Nat) (ds : List D) (tu : List D → D) (htu : tu = D.lst ∨ tu = D.tup) (h : ∀ d ∈ ds, MLsameN m [d, d] = .ok (.bl true)) :
    ∃ c', forL 2 (sIf (tNot' (eTru (eCall (MLsameN m) (eCons (eOp2 (opIx true) (eV 0) (eV 2)) (eCons (eOp2 (opIx true) (eV 1) (eV 2)) eNil))))) (sRet (eC (.bl false))) sNil) (rangeD 0 ds.length) [some (.v (tu ds)), some (.v (tu ds)), none] = .ok .nx c' := by
  obtain ⟨c', h1, _⟩ := forL_rg 2 (sIf (tNot' (eTru (eCall (MLsameN m) (eCons (eOp2 (opIx true) (eV 0) (eV 2)) (eCons (eOp2 (opIx true) (eV 1) (eV 2)) eNil))))) (sRet (eC (.bl false))) sNil) ds.length
    (fun j c => ∃ x, c = [some (.v (tu ds)), some (.v (tu ds)), x]) [some (.v (tu ds)), some (.v (tu ds)), none]
    (by
      rintro j c hj ⟨x, rfl⟩
      have hj' : j < ds.length := by omega
      have hd : atI ds (j : Int) = some ds[j] := by rw [atI_ofNat, List.getElem?_eq_getElem hj']
      have hm := h _ (List.getElem_mem hj')
      refine ⟨_, ?_, some (.v (.int j)), rfl⟩
      rcases htu with rfl | rfl <;> simp -implicitDefEqProofs [hd, hm]) ⟨none, rfl⟩
  exact ⟨c', h1⟩
theorem Lsame_n {n : Nat} {d : D} (s : Sm n d) : ∀ m, n < m → MLsameN m [d, d] = .ok (.bl true) := by
  induction s with
  | non => rintro (_ | m) h; · omega
           simp -implicitDefEqProofs [MLsameN, BLsame, isI, opEq, D.eqv]
  | bl t => rintro (_ | m) h; · omega
            simp -implicitDefEqProofs [MLsameN, BLsame, isI]
  | int i => rintro (_ | m) h; · omega
             simp -implicitDefEqProofs [MLsameN, BLsame, isI]
  | str l hl =>
    rintro (_ | m) h; · omega
    simp -implicitDefEqProofs [MLsameN, BLsame, isI, opEq_self (d := .str l) (by rw [pln_str]; exact hl)]
  | lst ds hl hk ih =>
    rintro (_ | m) h; · omega
    obtain ⟨c', e⟩ := Lsame_loop m ds D.lst (.inl rfl) fun d hd => ih d hd m (by omega)
    simp -implicitDefEqProofs [MLsameN, BLsame, isI, asI_small (i := (ds.length : Int)) (by omega) hl, asI_zero]
    rw [e]
  | tup ds hl hk ih =>
    rintro (_ | m) h; · omega
    obtain ⟨c', e⟩ := Lsame_loop m ds D.tup (.inr rfl) fun d hd => ih d hd m (by omega)
    simp -implicitDefEqProofs [MLsameN, BLsame, isI, asI_small (i := (ds.length : Int)) (by omega) hl, asI_zero]
    rw [e]
theorem Lsame_ok {d : D} (s : Sm 63 d) : MLsame [d, d] = .ok (.bl true) := Lsame_n s 64 (by omega)
end GW

namespace VS
open PySem PySem.Spec PyProof.Rows L2
theorem compL_mapm {α : Type} (g : Env → R D) (i : Nat) (c : Env) (k : α → D) (f : α → D) : ∀ (l : List α), (∀ x ∈ l, g (c.set i (some (.v (k x)))) = .ok (f x)) → compL tYes' g i c (l.map k) = .ok (l.map f)
  | [], _ => rfl
  | d :: ds, h => by
    rw [List.map_cons, compL_cons, tYes_def]
    simp only [noX_ok, ok_bind, if_true]
    rw [h d List.mem_cons_self, compL_mapm g i c k f ds fun d hd => h d (List.mem_cons_of_mem _ hd)]
    rfl
theorem compL_filterm {α : Type} (t : Env → R Bool) (g : Env → R D) (i : Nat) (c : Env) (k : α → D) (p : α → Bool) (f : α → D) : ∀ (l : List α), (∀ x ∈ l, t (c.set i (some (.v (k x)))) = .ok (p x)) → (∀ x ∈ l, p x = true → g (c.set i (some (.v (k x)))) = .ok (f x)) → compL t g i c (l.map k) = .ok ((l.filter p).map f)
  | [], _, _ => rfl
  | d :: ds, h, q => by
    have ih := compL_filterm t g i c k p f ds (fun d hd => h d (List.mem_cons_of_mem _ hd)) fun d hd => q d (List.mem_cons_of_mem _ hd)
    rw [List.map_cons, compL_cons, h d List.mem_cons_self]
    simp only [noX_ok, ok_bind]
    cases hp : p d with
    | true =>
      rw [if_pos rfl, q d List.mem_cons_self hp, ih, List.filter_cons_of_pos hp]
      rfl
    | false =>
      rw [if_neg (by decide), ih, List.filter_cons_of_neg (by simp [hp])]
/-- a loop whose turns go on, or one of which returns d -/
theorem forL_opt {α β : Type} (i : Nat) (g : Env → Rs) (emb : β → D) (E : α → Env → Prop) (step : α → β → Option α) (d : D) : ∀ (xs : List β) (s : α) (c : Env), E s c →
    (∀ s c, E s c → ∀ x ∈ xs, match step s x with
      | some s' => ∃ c', Nx g (c.set i (some (.v (emb x)))) c' ∧ E s' c'
      | none => Ret g (c.set i (some (.v (emb x)))) d) →
    match xs.foldlM step s with
      | some s' => ∃ c', forL i g (xs.map emb) c = .ok .nx c' ∧ E s' c'
      | none => ∃ c', forL i g (xs.map emb) c = .ok (.rt d) c'
  | [], s, c, e, _ => ⟨c, rfl, e⟩
  | x :: xs, s, c, e, h => by
    have hx := h s c e x List.mem_cons_self
    rw [List.foldlM_cons]
    cases k : step s x with
    | none =>
      rw [k] at hx
      obtain ⟨c', hx⟩ := hx
      show ∃ c', _
      exact ⟨c', by rw [List.map_cons, forL_cons, hx]⟩
    | some s' =>
      rw [k] at hx
      obtain ⟨c', hx, e'⟩ := hx
      have ih := forL_opt i g emb E step d xs s' c' e' fun s c e x m => h s c e x (List.mem_cons_of_mem _ m)
      show match xs.foldlM step s' with
        | some s' => ∃ c', forL i g ((x :: xs).map emb) c = .ok .nx c' ∧ E s' c'
        | none => ∃ c', forL i g ((x :: xs).map emb) c = .ok (.rt d) c'
      rw [List.map_cons, forL_cons, show g (c.set i (some (.v (emb x)))) = .ok .nx c' from hx]
      exact ih
theorem Ret.for {i : Nat} {gs : Env → R (List D)} {g : Env → Rs} {c : Env} {ds : List D} {d : D} (h : gs c = .ok ds) (k : ∃ c', forL i g ds c = .ok (.rt d) c') : Ret (sFor i gs g) c d := by
  obtain ⟨c', k⟩ := k
  exact ⟨c', by rw [sFor_def, h]; exact k⟩
end VS
namespace GW
open PySem PySem.Spec PyProof.Rows L2 VS
abbrev ni (x : Nat) : D := .int (x : Int)
abbrev oD (d : D) : Option O := some (.v d)
def Wd' (lt : Nat) (w : List Nat) : Prop := ∀ c ∈ w, 97 ≤ c ∧ c < 97 + lt
theorem idx_let {k : Nat} (hk : k < 3) : fSIndex [97, 98, 99] [.str [97 + k]] = some (.int (k : Int)) := by
  have : k = 0 ∨ k = 1 ∨ k = 2 := by omega
  have o : Builtin.Str.occurrences (S [97, 98, 99]) (S [97]) 0 3 1 = [0] ∧ Builtin.Str.occurrences (S [97, 98, 99]) (S [98]) 0 3 1 = [1] ∧ Builtin.Str.occurrences (S [97, 98, 99]) (S [99]) 0 3 1 = [2] := by decide +kernel
  rcases this with rfl | rfl | rfl <;> simp [fSIndex, o]
theorem abc_at {k : Nat} (hk : k < 3) : opIx true (.str [97, 98, 99]) (.int (k : Int)) = some (.str [97 + k]) := by
  have : k = 0 ∨ k = 1 ∨ k = 2 := by omega
  rcases this with rfl | rfl | rfl <;> rfl
theorem joinL_one (l : List Nat) : TL.joinL [] (l.map fun x => [x]) = l := by
  induction l with
  | nil => rfl
  | cons a l ih =>
    cases l with
    | nil => rfl
    | cons b l =>
      rw [List.map_cons, List.map_cons, TL.joinL]
      simpa using ih
theorem nat_of {x : Int} (h : 0 ≤ x) : ∃ k : Nat, x = k := ⟨x.toNat, (Int.toNat_of_nonneg h).symm⟩
theorem nat_eq (a b : Nat) : opEq (.int (a : Int)) (.int (b : Int)) = some (.bl (a == b)) := by
  rw [opEq_int]
  congr 2
  rw [Bool.eq_iff_iff, beq_iff_eq, beq_iff_eq]
  omega
/-! words within words -/
def Okw (w : List Nat) : Prop := w.all (· < 0x110000) = true
theorem str_eq {a b : List Nat} (ha : Okw a) (hb : Okw b) : opEq (.str a) (.str b) = some (.bl (a == b)) := by
  unfold opEq
  rw [pln_str, pln_str, ha, hb, eqv_str]
  rfl
def sbl (u w : List Nat) : Bool := u.isSublist w
theorem sbl_step {u : List Nat} {a : Nat} {j : Nat} {w : List Nat} (h : j < w.length) (ha : a ≤ u.length) :
    sbl (u.drop a) (w.drop j) = sbl (u.drop (if a < u.length ∧ u[a]? = some w[j] then a + 1 else a)) (w.drop (j + 1)) := by
  rw [List.drop_eq_getElem_cons h]
  by_cases ha' : a < u.length
  · rw [List.drop_eq_getElem_cons ha', List.getElem?_eq_getElem ha']
    unfold sbl
    rw [List.isSublist]
    by_cases e : u[a] = w[j]
    · rw [if_pos (by simpa using e), if_pos ⟨ha', by rw [e]⟩]
    · rw [if_neg (by simpa using e), if_neg (by rintro ⟨_, h⟩; exact e (Option.some.inj h)), List.drop_eq_getElem_cons ha']
  · rw [if_neg (by rintro ⟨h, _⟩; exact ha' h)]
    have : u.drop a = [] := List.drop_eq_nil_of_le (by omega)
    rw [this]
    unfold sbl
    simp [List.isSublist]
theorem one_ok {w : List Nat} (hw : Okw w) {j : Nat} (h : j < w.length) : Okw [w[j]] := by
  unfold Okw at *
  have := List.all_eq_true.mp hw _ (List.getElem_mem h)
  simpa using this
theorem scattered_spec {u w : List Nat} (hu : Okw u) (hw : Okw w) (hul : u.length ≤ 1000) (hwl : w.length ≤ 1000) : MLscattered [.str u, .str w] = .ok (.bl (sbl u w)) := by
  obtain ⟨c', e, a, x, rfl, ha, hs⟩ := forL_ex 3 (sIf (tAnd' (eB (eOp2 (opRel fun i j => decide (i < j)) (eV 2) (eFn (fLen) (eCons (eV 0) eNil)))) (eB (eOp2 (opEq) (eOp2 (opIx true) (eV 0) (eV 2)) (eV 3))))
    (sSet 2 (eOp2 (opAdd true true) (eV 2) (eC (.int 1))))
    sNil) (fun j c => ∃ (a : Nat) (x : Option O), c = [oD (.str u), oD (.str w), oD (ni a), x] ∧ a ≤ u.length ∧ sbl (u.drop a) (w.drop j) = sbl u w) (w.map fun x => .str [x])
    [oD (.str u), oD (.str w), oD (ni 0), none] (by
      rintro j d c hd ⟨a, x, rfl, ha, hs⟩
      rw [List.getElem?_map] at hd
      obtain ⟨q, hq, rfl⟩ := Option.map_eq_some_iff.mp hd
      obtain ⟨hj, rfl⟩ := List.getElem?_eq_some_iff.mp hq
      have hstep := sbl_step (u := u) (a := a) hj ha
      rw [hs] at hstep
      by_cases ha' : a < u.length
      · have hx : opIx true (.str u) (ni a) = some (.str [u[a]]) := by
          rw [opIx_str, if_pos (by omega), atI_ofNat, List.getElem?_eq_getElem ha']; rfl
        have he := str_eq (one_ok hu ha') (one_ok hw hj)
        by_cases e : u[a] = w[j]
        · rw [if_pos ⟨ha', by rw [List.getElem?_eq_getElem ha', e]⟩] at hstep
          refine ⟨_, Nx.yes ?_ ((Nx.set (d := ni (a + 1)) ?_).to rfl), a + 1, _, rfl, by omega, hstep.symm⟩
          · have e' : ([u[a]] == [w[j]]) = true := by simpa using e
            simp -implicitDefEqProofs [-opIx_str, hx, he, e', show u.length ≤ 16777216 by omega, ha']
          · simp -implicitDefEqProofs
        · rw [if_neg (by rintro ⟨_, h⟩; rw [List.getElem?_eq_getElem ha'] at h; exact e (Option.some.inj h))] at hstep
          refine ⟨_, Nx.no ?_ Nx.nil, a, _, rfl, ha, hstep.symm⟩
          have e' : ([u[a]] == [w[j]]) = false := by simpa using e
          simp -implicitDefEqProofs [-opIx_str, hx, he, e', show u.length ≤ 16777216 by omega, ha']
      · rw [if_neg (by rintro ⟨h, _⟩; exact ha' h)] at hstep
        refine ⟨_, Nx.no ?_ Nx.nil, a, _, rfl, ha, hstep.symm⟩
        simp -implicitDefEqProofs [show u.length ≤ 16777216 by omega, ha'])
    ⟨0, none, rfl, by omega, by simp⟩
  rw [List.length_map, List.drop_length] at hs
  have hfin : (a == u.length) = sbl u w := by
    rw [← hs]
    by_cases e : a = u.length
    · rw [e, List.drop_length]; simp [sbl, List.isSublist]
    · rw [List.drop_eq_getElem_cons (show a < u.length by omega)]; simp [sbl, List.isSublist, e]
  unfold MLscattered BLscattered
  refine ret_of (.seq (.set (d := ni 0) (by simp -implicitDefEqProofs)) (.seq (.for (ds := w.map fun x => .str [x]) ?_ e) (.ret ?_)))
  · simp -implicitDefEqProofs [show w.length ≤ 16777216 by omega]
  · simp -implicitDefEqProofs [-opEq_int, show u.length ≤ 16777216 by omega, nat_eq, hfin]
end GW

namespace GW
open PySem PySem.Spec PyProof.Rows L2 VS
/-! the words scattered in a word, in the short order -/
def lets (lt : Nat) : List Nat := ([97, 98, 99] : List Nat).take lt
theorem lets_mem {lt c : Nat} (hc : c ∈ lets lt) : 97 ≤ c ∧ c < 100 := by
  have := List.mem_of_mem_take hc
  simp at this
  omega
theorem lets_len (lt : Nat) : (lets lt).length ≤ 3 := by unfold lets; rw [List.length_take]; simp; omega
def grow (lt : Nat) (P : List Nat → Bool) (lev : List (List Nat)) : List (List Nat) := lev.flatMap fun b => ((lets lt).map fun c => b ++ [c]).filter P
def lev (lt : Nat) (P : List Nat → Bool) : Nat → List (List Nat)
  | 0 => [[]]
  | j + 1 => grow lt P (lev lt P j)
def subsN (lt : Nat) (P : List Nat → Bool) : Nat → List (List Nat)
  | 0 => [[]]
  | j + 1 => subsN lt P j ++ lev lt P (j + 1)
theorem lev_len {lt : Nat} {P : List Nat → Bool} : ∀ (j : Nat) {u : List Nat}, u ∈ lev lt P j → u.length = j
  | 0, u, h => by rw [List.mem_singleton.mp h]; rfl
  | j + 1, u, h => by
    obtain ⟨b, hb, h⟩ := List.mem_flatMap.mp h
    obtain ⟨c, _, rfl⟩ := List.mem_map.mp (List.mem_filter.mp h).1
    rw [List.length_append, lev_len j hb]
    rfl
theorem lev_ok {lt : Nat} {P : List Nat → Bool} : ∀ (j : Nat) {u : List Nat}, u ∈ lev lt P j → Okw u
  | 0, u, h => by rw [List.mem_singleton.mp h]; rfl
  | j + 1, u, h => by
    obtain ⟨b, hb, h⟩ := List.mem_flatMap.mp h
    obtain ⟨c, hc, rfl⟩ := List.mem_map.mp (List.mem_filter.mp h).1
    have := lets_mem hc
    unfold Okw
    rw [List.all_append, lev_ok j hb]
    simp
    omega
theorem grow_congr {lt : Nat} {P P' : List Nat → Bool} {l : List (List Nat)} (h : ∀ b ∈ l, ∀ c ∈ lets lt, P (b ++ [c]) = P' (b ++ [c])) : grow lt P l = grow lt P' l := by
  unfold grow
  induction l with
  | nil => rfl
  | cons b l ih =>
    rw [List.flatMap_cons, List.flatMap_cons, ih fun x hx => h x (List.mem_cons_of_mem _ hx)]
    congr 1
    apply List.filter_congr
    intro u hu
    obtain ⟨c, hc, rfl⟩ := List.mem_map.mp hu
    exact h b List.mem_cons_self c hc
theorem lev_congr {lt k : Nat} {P P' : List Nat → Bool} (h : ∀ u, u.length ≤ k → P u = P' u) : ∀ j, j ≤ k → lev lt P j = lev lt P' j
  | 0, _ => rfl
  | j + 1, hj => by
    rw [lev, lev, ← lev_congr h j (by omega)]
    refine grow_congr fun b hb c _ => h _ ?_
    rw [List.length_append, lev_len j hb]
    exact hj
theorem subsN_congr {lt k : Nat} {P P' : List Nat → Bool} (h : ∀ u, u.length ≤ k → P u = P' u) : ∀ j, j ≤ k → subsN lt P j = subsN lt P' j
  | 0, _ => rfl
  | j + 1, hj => by rw [subsN, subsN, subsN_congr h j (by omega), lev_congr h (j + 1) hj]
theorem lev_nil {lt m : Nat} {P : List Nat → Bool} (h : ∀ u, m < u.length → P u = false) : ∀ j, m < j → lev lt P j = []
  | 0, hj => absurd hj (by omega)
  | j + 1, hj => by
    rw [lev]
    refine List.eq_nil_iff_forall_not_mem.mpr fun u hu => ?_
    obtain ⟨b, hb, hu⟩ := List.mem_flatMap.mp hu
    obtain ⟨hu, hp⟩ := List.mem_filter.mp hu
    obtain ⟨c, _, rfl⟩ := List.mem_map.mp hu
    rw [h _ (by rw [List.length_append, lev_len j hb]; exact hj)] at hp
    cases hp
theorem subsN_stop {lt m : Nat} {P : List Nat → Bool} (h : ∀ u, m < u.length → P u = false) : ∀ j, subsN lt P (m + j) = subsN lt P m
  | 0 => rfl
  | j + 1 => by
    rw [← Nat.add_assoc, subsN, lev_nil h _ (by omega), List.append_nil, subsN_stop h j]
theorem sbl_iff (u w : List Nat) : sbl u w = true ↔ u.Sublist w := by
  unfold sbl
  exact List.isSublist_iff_sublist
theorem sbl_long {u w : List Nat} (h : w.length < u.length) : sbl u w = false := by
  cases e : sbl u w with
  | false => rfl
  | true =>
    have := ((sbl_iff u w).mp e).length_le
    omega
/-- all up to the length k -/
def subs (k lt : Nat) (w : List Nat) : List (List Nat) := subsN lt (fun u => sbl u w) k
theorem subs_min (k lt : Nat) (w : List Nat) : subsN lt (fun u => sbl u w) (min k w.length) = subs k lt w := by
  unfold subs
  by_cases h : k ≤ w.length
  · rw [Nat.min_eq_left h]
  · rw [Nat.min_eq_right (by omega)]
    obtain ⟨j, rfl⟩ : ∃ j, k = w.length + j := ⟨k - w.length, by omega⟩
    rw [subsN_stop fun u h => sbl_long h]
/-- words alike up to the length k -/
def Alk (k : Nat) (w z : List Nat) : Prop := ∀ u : List Nat, u.length ≤ k → (u.Sublist w ↔ u.Sublist z)
theorem subs_alk {k lt : Nat} {w z : List Nat} (h : Alk k w z) : subs k lt w = subs k lt z := by
  unfold subs
  refine subsN_congr (k := k) (fun u hu => ?_) k (Nat.le_refl k)
  rw [Bool.eq_iff_iff, sbl_iff, sbl_iff]
  exact h u hu
theorem lev_card {lt : Nat} {P : List Nat → Bool} : ∀ j, (lev lt P j).length ≤ 3 ^ j
  | 0 => by simp [lev]
  | j + 1 => by
    have g : ∀ l : List (List Nat), (grow lt P l).length ≤ 3 * l.length := by
      intro l
      induction l with
      | nil => simp [grow]
      | cons b l ih =>
        unfold grow at ih ⊢
        rw [List.flatMap_cons, List.length_append, List.length_cons]
        have a := List.length_filter_le P ((lets lt).map fun c => b ++ [c])
        rw [List.length_map] at a
        have := lets_len lt
        omega
    have := g (lev lt P j)
    have := lev_card (lt := lt) (P := P) j
    rw [lev, Nat.pow_succ]
    omega
theorem subsN_card {lt : Nat} {P : List Nat → Bool} : ∀ j, (subsN lt P j).length ≤ 3 ^ (j + 1)
  | 0 => by simp [subsN]
  | j + 1 => by
    rw [subsN, List.length_append]
    have := subsN_card (lt := lt) (P := P) j
    have := lev_card (lt := lt) (P := P) (j + 1)
    rw [Nat.pow_succ 3 (j + 1)]
    omega
theorem subsN_ok {lt : Nat} {P : List Nat → Bool} : ∀ (j : Nat) {u : List Nat}, u ∈ subsN lt P j → Okw u
  | 0, u, h => by rw [List.mem_singleton.mp h]; rfl
  | j + 1, u, h => by
    rcases List.mem_append.mp h with h | h
    · exact subsN_ok j h
    · exact lev_ok _ h
/-! the text of the law -/
abbrev oS (l : List (List Nat)) : Option O := some (.lst (l.map fun w => .v (.str w)))
abbrev lS (l : List (List Nat)) : D := .lst (l.map D.str)
abbrev bodyI : VS.Env → Rs := (sIf (eTru (eCall MLscattered (eCons (eOp2 (opAdd true true) (eV 7) (eV 8)) (eCons (eV 2) eNil))))
    (sApp 6 (eOp2 (opAdd true true) (eV 7) (eV 8)))
    sNil)
abbrev bodyO : VS.Env → Rs := (sFor 8 (eIt true (eSl true (eC (.str [97, 98, 99])) eNoO (eO (eV 1)))) bodyI)
theorem inner {k : D} {lt : Nat} {w : List Nat} (hw : Okw w) (hwl : w.length ≤ 1000) (x3 x4 x5 y8 : Option O) {b : List Nat} (hb : Okw b) (hbl : b.length ≤ 900) {found : List (List Nat)} (hf : found.length ≤ 100000) :
    ∃ y8', Nx bodyO [oD k, oD (ni lt), oD (.str w), x3, x4, x5, oS found, oD (.str b), y8] [oD k, oD (ni lt), oD (.str w), x3, x4, x5, oS (found ++ ((lets lt).map fun c => b ++ [c]).filter fun u => sbl u w), oD (.str b), y8'] := by
  have hl3 := lets_len lt
  obtain ⟨c', e, y8', hc⟩ := forL_ex 8 bodyI (fun j c => ∃ y8, c = [oD k, oD (ni lt), oD (.str w), x3, x4, x5, oS (found ++ (((lets lt).take j).map fun c => b ++ [c]).filter fun u => sbl u w), oD (.str b), y8]) ((lets lt).map fun x => .str [x])
    [oD k, oD (ni lt), oD (.str w), x3, x4, x5, oS found, oD (.str b), y8] (by
      rintro j d c hd ⟨y8, rfl⟩
      rw [List.getElem?_map] at hd
      obtain ⟨q, hq, rfl⟩ := Option.map_eq_some_iff.mp hd
      obtain ⟨hj, rfl⟩ := List.getElem?_eq_some_iff.mp hq
      have hcm := lets_mem (List.getElem_mem hj)
      have hok : Okw (b ++ [(lets lt)[j]]) := by
        unfold Okw at *
        rw [List.all_append, hb]
        simp
        omega
      have sc := scattered_spec hok hw (by simp; omega) hwl
      have hfl : (found ++ (((lets lt).take j).map fun c => b ++ [c]).filter fun u => sbl u w).length < 16777216 := by
        rw [List.length_append]
        have := List.length_filter_le (fun u => sbl u w) (((lets lt).take j).map fun c => b ++ [c])
        rw [List.length_map, List.length_take] at this
        omega
      rw [List.take_succ_eq_append_getElem hj, List.map_append, List.filter_append, ← List.append_assoc]
      generalize (found ++ (((lets lt).take j).map fun c => b ++ [c]).filter fun u => sbl u w) = fd at hfl ⊢
      generalize (lets lt)[j] = c at sc ⊢
      have hbl' : b.length + 1 ≤ 16777216 := by omega
      cases hs : sbl (b ++ [c]) w with
      | true =>
        rw [hs] at sc
        refine ⟨_, Nx.yes ?_ ?_, oD (.str [c]), rfl⟩
        · simp -implicitDefEqProofs [sc, hbl']
        · unfold Nx
          simp -implicitDefEqProofs [hbl', hfl, hs]
      | false =>
        rw [hs] at sc
        refine ⟨_, Nx.no ?_ Nx.nil, oD (.str [c]), ?_⟩
        · simp -implicitDefEqProofs [sc, hbl']
        · simp [hs])
    ⟨y8, by simp⟩
  rw [List.length_map, List.take_length] at hc
  refine ⟨y8', .for ?_ (e.trans (by rw [hc]))⟩
  have hc : cutD [97, 98, 99] none (some (lt : Int)) = lets lt := cut_to _ lt
  simp -implicitDefEqProofs [hc]
  rw [if_pos (by omega)]
  rfl
theorem level {k : D} {lt : Nat} {w : List Nat} (hw : Okw w) (hwl : w.length ≤ 1000) (x3 x5 y7 y8 : Option O) (l : List (List Nat)) (hl : ∀ b ∈ l, Okw b ∧ b.length ≤ 900) (hll : l.length ≤ 10000) :
    ∃ y7' y8', Nx (sFor 7 (eIt true (eV 4)) bodyO) [oD k, oD (ni lt), oD (.str w), x3, oD (lS l), x5, oS [], y7, y8] [oD k, oD (ni lt), oD (.str w), x3, oD (lS l), x5, oS (grow lt (fun u => sbl u w) l), y7', y8'] := by
  obtain ⟨c', e, y7', y8', hc⟩ := forL_ex 7 bodyO (fun j c => ∃ y7 y8, c = [oD k, oD (ni lt), oD (.str w), x3, oD (lS l), x5, oS (grow lt (fun u => sbl u w) (l.take j)), y7, y8]) (l.map D.str)
    [oD k, oD (ni lt), oD (.str w), x3, oD (lS l), x5, oS [], y7, y8] (by
      rintro j d c hd ⟨y7, y8, rfl⟩
      rw [List.getElem?_map] at hd
      obtain ⟨q, hq, rfl⟩ := Option.map_eq_some_iff.mp hd
      obtain ⟨hj, rfl⟩ := List.getElem?_eq_some_iff.mp hq
      obtain ⟨h1, h2⟩ := hl _ (List.getElem_mem hj)
      have card : ∀ m : List (List Nat), (grow lt (fun u => sbl u w) m).length ≤ 3 * m.length := by
        intro m
        induction m with
        | nil => simp [grow]
        | cons b m ih =>
          unfold grow at ih ⊢
          rw [List.flatMap_cons, List.length_append, List.length_cons]
          have a := List.length_filter_le (fun u => sbl u w) ((lets lt).map fun c => b ++ [c])
          rw [List.length_map] at a
          have := lets_len lt
          omega
      have hc := card (l.take j)
      rw [List.length_take] at hc
      obtain ⟨y8', E⟩ := inner (k := k) (lt := lt) hw hwl x3 (oD (lS l)) x5 y8 h1 h2 (found := grow lt (fun u => sbl u w) (l.take j)) (by omega)
      refine ⟨_, E, oD (.str l[j]), y8', ?_⟩
      rw [List.take_succ_eq_append_getElem hj]
      unfold grow
      rw [List.flatMap_append]
      simp)
    ⟨y7, y8, by simp [grow]⟩
  rw [List.length_map, List.take_length] at hc
  exact ⟨y7', y8', .for (by simp -implicitDefEqProofs) (e.trans (by rw [hc]))⟩
theorem flats_str (l : List (List Nat)) : D.flats (l.map D.str) = true := by
  induction l with
  | nil => simp [D.flats]
  | cons a l ih => rw [List.map_cons, D.flats, ih]; rfl
def tS (l : List (List Nat)) : D := .tup (l.map D.str)
theorem subwords_spec {k lt : Nat} {w : List Nat} (hk : k ≤ 6) (hw : Okw w) (hwl : w.length ≤ 1000) : MLsubwords [ni k, ni lt, .str w] = .ok (tS (subs k lt w)) := by
  obtain ⟨P, hP⟩ : ∃ P : List Nat → Bool, P = fun u => sbl u w := ⟨_, rfl⟩
  have mle : min k w.length ≤ 6 := by omega
  obtain ⟨c', e, y5, y6, y7, y8, hc⟩ := forL_rg 5 (sSeq (sSetO 6 (eFnO fLstO eNil))
    (sSeq (sFor 7 (eIt true (eV 4)) bodyO)
    (sSeq (sSet 3 (eOp2 (opAdd true false) (eV 3) (eL 6)))
    (sFz 6 (sSet 4 (eV 6)))))) (min k w.length : Nat) (fun j c => ∃ y5 y6 y7 y8, c = [oD (ni k), oD (ni lt), oD (.str w), oD (lS (subsN lt P j)), oD (lS (lev lt P j)), y5, y6, y7, y8])
    [oD (ni k), oD (ni lt), oD (.str w), oD (lS [[]]), oD (lS [[]]), none, none, none, none] (by
      rintro j c hj ⟨y5, y6, y7, y8, rfl⟩
      have hj6 : j ≤ 6 := by omega
      have p6 : ∀ i, i ≤ 7 → 3 ^ i ≤ 2187 := fun i hi => Nat.pow_le_pow_right (n := 3) (by omega) hi
      have c1 := lev_card (lt := lt) (P := P) j
      have c2 := subsN_card (lt := lt) (P := P) j
      have c3 := lev_card (lt := lt) (P := P) (j + 1)
      have q1 := p6 j (by omega)
      have q2 := p6 (j + 1) (by omega)
      obtain ⟨y7', y8', E⟩ := level (k := ni k) (lt := lt) hw hwl (oD (lS (subsN lt P j))) (oD (ni j)) y7 y8 (lev lt P j) (fun b hb => ⟨lev_ok j hb, by rw [lev_len j hb]; omega⟩) (by omega)
      rw [← hP, show grow lt P (lev lt P j) = lev lt P (j + 1) from rfl] at E
      refine ⟨_, Nx.seq (.setO (d := .lst []) (by simp -implicitDefEqProofs)) (.seq E (.seq (.set (d := lS (subsN lt P (j + 1))) ?_) (.fz ((Nx.set (d := lS (lev lt P (j + 1))) ?_).to rfl)))), _, _, _, _, rfl⟩
      · have hle : (subsN lt P j).length + (lev lt P (j + 1)).length ≤ 16777216 := by omega
        rw [subsN]
        simp -implicitDefEqProofs [Function.comp_def, flats_str, hle]
      · simp -implicitDefEqProofs [Function.comp_def])
    ⟨none, none, none, none, rfl⟩
  rw [Int.toNat_natCast] at hc
  have hmn : (if ((w.length : Nat) : Int) < (k : Int) then ((w.length : Nat) : Int) else (k : Int)) = ((min k w.length : Nat) : Int) := by split <;> omega
  have hcard := subsN_card (lt := lt) (P := P) (min k w.length)
  unfold MLsubwords BLsubwords
  refine ret_of (.seq (.set (d := lS [[]]) (by simp -implicitDefEqProofs)) (.seq (.set (d := lS [[]]) (by simp -implicitDefEqProofs)) (.seq (.for (ds := rangeD 0 (min k w.length : Nat)) ?_ e) (.ret ?_))))
  · have ha := asI_small (i := ((min k w.length : Nat) : Int)) (by omega) (by omega)
    simp -implicitDefEqProofs only [eItR_def, eC_def, ok_bind, asI_zero, lift_some, eFn_def, eCons_def, eNil_def, eV_def, List.map_cons, List.map_nil, List.cons_append, List.nil_append, List.getElem?_cons_zero, List.getElem?_cons_succ, List.set_cons_zero, List.set_cons_succ, fLen_str, fMin2_int, hmn, ha]
    rw [if_pos (by omega)]
    simp -implicitDefEqProofs only [ok_bind, lift_some, fMin2_int, hmn, ha]
  · rw [hc, ← subs_min, ← hP]
    simp -implicitDefEqProofs [tS]
end GW

namespace VS
open PySem PySem.Spec PyProof.Rows L2
theorem opMul_str (l : List Nat) (j : Int) : opMul (.str l) (.int j) = if -(2 ^ 63) ≤ j ∧ j < 2 ^ 63 ∧ l.length * j.toNat ≤ 16777216 then some (.str (List.replicate j.toNat l).flatten) else none := (rfl)
@[simp] theorem eStep_def (ga gs : Env → R D) (c : Env) : eStep ga gs c = ga c >>= fun d => gs c >>= fun s => match d with | .lst ds => lift (stepL ds s) | _ => .stuck := (rfl)
end VS
namespace GW
open PySem PySem.Spec PyProof.Rows L2 VS
theorem okElT (ds : List D) : okEl true ds = true := by unfold okEl; rfl
/-! words alike -/
abbrev pw (P : List Nat) (c : Nat) : List Nat := (List.replicate c P).flatten
theorem sub_pw (P : List Nat) : ∀ t : List Nat, (∀ a ∈ t, a ∈ P) → t.Sublist (pw P t.length)
  | [], _ => by simp
  | a :: t, h => by
    rw [List.length_cons]
    unfold pw
    rw [List.replicate_succ, List.flatten_cons]
    have h1 : [a].Sublist P := List.singleton_sublist.mpr (h a List.mem_cons_self)
    exact List.Sublist.append h1 (sub_pw P t fun b hb => h b (List.mem_cons_of_mem _ hb))
theorem pw_mono (P : List Nat) {a b : Nat} (h : a ≤ b) : (pw P a).Sublist (pw P b) := by
  obtain ⟨c, rfl⟩ : ∃ c, b = a + c := ⟨b - a, by omega⟩
  unfold pw
  rw [← List.replicate_append_replicate, List.flatten_append]
  exact List.sublist_append_left _ _
theorem pw_mem {P : List Nat} {c a : Nat} (h : a ∈ pw P c) : a ∈ P := by
  obtain ⟨l, hl, h⟩ := List.mem_flatten.mp h
  rw [(List.mem_replicate.mp hl).2] at h
  exact h
theorem pw_len (P : List Nat) (c : Nat) : (pw P c).length = c * P.length := by
  unfold pw
  rw [List.length_flatten, List.map_replicate, List.sum_replicate_nat]
theorem alk_app {k : Nat} {a b c d : List Nat} (h1 : Alk k a b) (h2 : Alk k c d) : Alk k (a ++ c) (b ++ d) := by
  intro u hu
  constructor
  · intro h
    obtain ⟨x, y, rfl, hx, hy⟩ := List.sublist_append_iff.mp h
    rw [List.length_append] at hu
    exact ((h1 x (by omega)).mp hx).append ((h2 y (by omega)).mp hy)
  · intro h
    obtain ⟨x, y, rfl, hx, hy⟩ := List.sublist_append_iff.mp h
    rw [List.length_append] at hu
    exact ((h1 x (by omega)).mpr hx).append ((h2 y (by omega)).mpr hy)
theorem alk_full {k n : Nat} {a b u C : List Nat} (hn : k ≤ n) (ha : ∀ c ∈ a, c ∈ C) (hb : ∀ c ∈ b, c ∈ C) (hu : ∀ c, c ∈ u ↔ c ∈ C) (t : List Nat) (ht : t.length ≤ k) : t.Sublist (a ++ pw u n ++ b) ↔ ∀ c ∈ t, c ∈ C := by
  constructor
  · intro h c hc
    have := h.subset hc
    rcases List.mem_append.mp this with z | z
    · rcases List.mem_append.mp z with z | z
      · exact ha c z
      · exact (hu c).mp (pw_mem z)
    · exact hb c z
  · intro h
    have g : t.Sublist (pw u n) := (sub_pw u t fun c hc => (hu c).mpr (h c hc)).trans (pw_mono u (by omega))
    exact (g.trans (List.sublist_append_right a _)).trans (List.sublist_append_left _ b)
/-! bonds -/
structure Tri where
  a : List Nat
  u : List Nat
  b : List Nat
inductive Stp where
  | lt (k : Nat)
  | st (x y : Tri)
def triD (t : Tri) : D := .tup [.str t.a, .str t.u, .str t.b]
def stpD : Stp → D
  | .lt k => .tup [.str [108, 101, 116, 116, 101, 114], ni k]
  | .st x y => .tup [.str [115, 101, 116], triD x, triD y]
def tw (n : Nat) (t : Tri) : List Nat := t.a ++ pw t.u n ++ t.b
def pc (one : Bool) (n : Nat) : Stp → List Nat
  | .lt k => [97 + k]
  | .st x y => tw n (if one then x else y)
def mk (one : Bool) (n : Nat) (s : List Stp) : List Nat := s.flatMap (pc one n)
structure OkT (C : List Nat) (t : Tri) : Prop where
  la : t.a.length ≤ 3
  lu : t.u.length ≤ 6
  lb : t.b.length ≤ 3
  a : ∀ c ∈ t.a, c ∈ C
  b : ∀ c ∈ t.b, c ∈ C
  u : ∀ c, c ∈ t.u ↔ c ∈ C
def OkS (lt : Nat) : Stp → Prop
  | .lt k => k < lt
  | .st x y => ∃ C, (∀ c ∈ C, c ∈ lets lt) ∧ OkT C x ∧ OkT C y
theorem tw_lets {lt n : Nat} {C : List Nat} {t : Tri} (hC : ∀ c ∈ C, c ∈ lets lt) (h : OkT C t) : (∀ c ∈ tw n t, c ∈ lets lt) ∧ (tw n t).length ≤ 6 + n * 6 := by
  constructor
  · intro c hc
    unfold tw at hc
    rcases List.mem_append.mp hc with z | z
    · rcases List.mem_append.mp z with z | z
      · exact hC c (h.a c z)
      · exact hC c ((h.u c).mp (pw_mem z))
    · exact hC c (h.b c z)
  · unfold tw
    rw [List.length_append, List.length_append, pw_len]
    have := h.la
    have := h.lb
    have := Nat.mul_le_mul_left n h.lu
    omega
theorem let_mem {k lt : Nat} (h : k < lt) (h3 : lt ≤ 3) : 97 + k ∈ lets lt := by
  have : lt = 1 ∨ lt = 2 ∨ lt = 3 := by omega
  rcases this with rfl | rfl | rfl <;> simp [lets] <;> omega
theorem pc_lets {lt n : Nat} (h3 : lt ≤ 3) (one : Bool) {s : Stp} (h : OkS lt s) : (∀ c ∈ pc one n s, c ∈ lets lt) ∧ (pc one n s).length ≤ 6 + n * 6 := by
  cases s with
  | lt k =>
    refine ⟨fun c hc => ?_, ?_⟩
    · rw [List.mem_singleton.mp hc]; exact let_mem h h3
    · show 1 ≤ _; omega
  | st x y =>
    obtain ⟨C, hC, hx, hy⟩ := h
    unfold pc
    cases one
    · exact tw_lets hC hy
    · exact tw_lets hC hx
theorem mk_lets {lt n : Nat} (h3 : lt ≤ 3) (one : Bool) {s : List Stp} (h : ∀ x ∈ s, OkS lt x) : (∀ c ∈ mk one n s, c ∈ lets lt) ∧ (mk one n s).length ≤ s.length * (6 + n * 6) := by
  induction s with
  | nil => exact ⟨(fun c hc => nomatch (show c ∈ ([] : List Nat) from hc)), Nat.zero_le _⟩
  | cons x s ih =>
    obtain ⟨a, b⟩ := pc_lets (n := n) h3 one (h x List.mem_cons_self)
    obtain ⟨a', b'⟩ := ih fun y hy => h y (List.mem_cons_of_mem _ hy)
    unfold mk at *
    rw [List.flatMap_cons, List.length_append, List.length_cons, Nat.succ_mul]
    refine ⟨fun c hc => ?_, by omega⟩
    rcases List.mem_append.mp hc with z | z
    · exact a c z
    · exact a' c z
theorem mk_alk {lt k n : Nat} (hn : k ≤ n) : ∀ {s : List Stp}, (∀ x ∈ s, OkS lt x) → Alk k (mk true n s) (mk false n s)
  | [], _ => fun u hu => Iff.rfl
  | x :: s, h => by
    unfold mk
    rw [List.flatMap_cons, List.flatMap_cons]
    refine alk_app ?_ (mk_alk hn fun y hy => h y (List.mem_cons_of_mem _ hy))
    have hx := h x List.mem_cons_self
    cases x with
    | lt k => exact fun u hu => Iff.rfl
    | st x y =>
      obtain ⟨C, hC, hx, hy⟩ := hx
      intro t ht
      exact (alk_full hn hx.a hx.b hx.u t ht).trans (alk_full hn hy.a hy.b hy.u t ht).symm
theorem okw_lets {lt : Nat} {w : List Nat} (h : ∀ c ∈ w, c ∈ lets lt) : Okw w := by
  unfold Okw
  rw [List.all_eq_true]
  intro c hc
  have := lets_mem (h c hc)
  simp
  omega
/-! the words of a bond -/
theorem tri0 (t : Tri) : opIx true (triD t) (.int 0) = some (.str t.a) := rfl
theorem tri1 (t : Tri) : opIx true (triD t) (.int 1) = some (.str t.u) := rfl
theorem tri2 (t : Tri) : opIx true (triD t) (.int 2) = some (.str t.b) := rfl
theorem lt0 (k : Nat) : opIx true (stpD (.lt k)) (.int 0) = some (.str [108, 101, 116, 116, 101, 114]) := rfl
theorem lt1 (k : Nat) : opIx true (stpD (.lt k)) (.int 1) = some (ni k) := rfl
theorem st0 (x y : Tri) : opIx true (stpD (.st x y)) (.int 0) = some (.str [115, 101, 116]) := rfl
theorem st1 (x y : Tri) : opIx true (stpD (.st x y)) (.int 1) = some (triD x) := rfl
theorem st2 (x y : Tri) : opIx true (stpD (.st x y)) (.int 2) = some (triD y) := rfl
theorem sd_n (one : Bool) (x y : Tri) : opIx true (stpD (.st x y)) (.int (if one then 1 else 2)) = some (triD (if one then x else y)) := by cases one <;> rfl
theorem eq_ll : opEq (.str [108, 101, 116, 116, 101, 114]) (.str [108, 101, 116, 116, 101, 114]) = some (.bl true) := by rw [str_eq (by unfold Okw; decide) (by unfold Okw; decide)]; rfl
theorem eq_sl : opEq (.str [115, 101, 116]) (.str [108, 101, 116, 116, 101, 114]) = some (.bl false) := by rw [str_eq (by unfold Okw; decide) (by unfold Okw; decide)]; rfl
theorem add_str {x y : List Nat} (h : x.length + y.length ≤ 1000) : opAdd true true (.str x) (.str y) = some (.str (x ++ y)) := by rw [opAdd_str, if_pos (by omega)]
theorem mul_pw {u : List Nat} {n : Nat} (hn : n ≤ 4) (hu : u.length ≤ 6) : opMul (.str u) (ni n) = some (.str (pw u n)) := by
  have := Nat.mul_le_mul hu hn
  rw [opMul_str, if_pos ⟨by omega, by omega, by rw [Int.toNat_natCast]; omega⟩, Int.toNat_natCast]
theorem tri_sum {C : List Nat} {t : Tri} {w : List Nat} {n : Nat} (h : OkT C t) (hn : n ≤ 4) (hw : w.length ≤ 500) (g1 g2 g3 gn gw : VS.Env → R D) (c : VS.Env) (e0 : gw c = .ok (.str w)) (e1 : g1 c = .ok (.str t.a)) (e2 : g2 c = .ok (.str t.u)) (e3 : g3 c = .ok (.str t.b)) (en : gn c = .ok (ni n)) :
    (eOp2 (opAdd true true) (eOp2 (opAdd true true) (eOp2 (opAdd true true) gw g1) (eOp2 (opMul) g2 gn)) g3) c = .ok (.str (w ++ tw n t)) := by
  have la := h.la; have lu := h.lu; have lb := h.lb
  have lp := pw_len t.u n
  have lm := Nat.mul_le_mul hn lu
  simp -implicitDefEqProofs only [eOp2_def, e0, e1, e2, e3, en, ok_bind]
  rw [add_str (by omega), lift_some, ok_bind, mul_pw hn lu, lift_some, ok_bind, add_str (by rw [List.length_append]; omega), lift_some, ok_bind, add_str (by rw [List.length_append, List.length_append]; omega), lift_some]
  unfold tw
  rw [List.append_assoc, List.append_assoc, List.append_assoc]
theorem made_spec {lt n : Nat} (h3 : lt ≤ 3) (one : Bool) (hn : n ≤ 4) {s : List Stp} (hs : ∀ x ∈ s, OkS lt x) (hl : s.length ≤ 10) : MLmade [.lst (s.map stpD), .int (if one then 1 else 2), ni n] = .ok (.str (mk one n s)) := by
  generalize hA : D.lst (s.map stpD) = A
  generalize hB : D.int (if one then 1 else 2) = B
  obtain ⟨c', main, x4, rfl⟩ := forL_ex 4 (sIf (eB (eOp2 (opEq) (eOp2 (opIx true) (eV 4) (eC (.int 0))) (eC (.str [108, 101, 116, 116, 101, 114]))))
    (sSet 3 (eOp2 (opAdd true true) (eV 3) (eOp2 (opIx true) (eC (.str [97, 98, 99])) (eOp2 (opIx true) (eV 4) (eC (.int 1))))))
    (sSet 3 (eOp2 (opAdd true true) (eOp2 (opAdd true true) (eOp2 (opAdd true true) (eV 3) (eOp2 (opIx true) (eOp2 (opIx true) (eV 4) (eV 1)) (eC (.int 0)))) (eOp2 (opMul) (eOp2 (opIx true) (eOp2 (opIx true) (eV 4) (eV 1)) (eC (.int 1))) (eV 2))) (eOp2 (opIx true) (eOp2 (opIx true) (eV 4) (eV 1)) (eC (.int 2))))))
    (fun j c => ∃ x4, c = [oD A, oD B, oD (ni n), oD (.str (mk one n (s.take j))), x4]) (s.map stpD) [oD A, oD B, oD (ni n), oD (.str []), none] (by
      rintro j d c hd ⟨x4, rfl⟩
      rw [List.getElem?_map] at hd
      obtain ⟨q, hq, rfl⟩ := Option.map_eq_some_iff.mp hd
      obtain ⟨hj, rfl⟩ := List.getElem?_eq_some_iff.mp hq
      have hok := hs _ (List.getElem_mem hj)
      obtain ⟨_, hml⟩ := mk_lets (n := n) h3 one (s := s.take j) fun x hx => hs x (List.mem_of_mem_take hx)
      rw [List.length_take] at hml
      have hml : (mk one n (s.take j)).length ≤ 300 := by
        have := Nat.mul_le_mul (show min j s.length ≤ 10 by omega) (show 6 + n * 6 ≤ 30 by omega)
        omega
      have hmk : mk one n (s.take (j + 1)) = mk one n (s.take j) ++ pc one n s[j] := by
        unfold mk
        rw [List.take_succ_eq_append_getElem hj, List.flatMap_append]
        simp
      rw [hmk]
      generalize mk one n (s.take j) = w at hml ⊢
      generalize s[j] = x at hok ⊢
      show ∃ c', (sIf _ _ _) [oD A, oD B, oD (ni n), oD (.str w), oD (stpD x)] = .ok .nx c' ∧ _
      cases x with
      | lt k =>
        have hk : k < 3 := Nat.lt_of_lt_of_le hok h3
        refine ⟨_, Nx.yes ?_ (.set (d := .str (w ++ [97 + k])) ?_), oD (stpD (.lt k)), rfl⟩
        · simp -implicitDefEqProofs only [eB_def, eOp2_def, eV_def, eC_def, List.getElem?_cons_zero, List.getElem?_cons_succ, ok_bind, lt0, lift_some, eq_ll, asB_bl]
        · simp -implicitDefEqProofs only [eOp2_def, eV_def, eC_def, List.getElem?_cons_zero, List.getElem?_cons_succ, ok_bind, lt1, lift_some, abc_at hk]
          rw [add_str (by rw [List.length_singleton]; omega)]; rfl
      | st y z =>
        obtain ⟨C, hC, hy, hz⟩ := hok
        have hT : OkT C (if one then y else z) := by cases one <;> assumption
        have hB2 : opIx true (stpD (.st y z)) B = some (triD (if one then y else z)) := by rw [← hB]; exact sd_n one y z
        refine ⟨_, Nx.no ?_ (.set (d := .str (w ++ pc one n (.st y z))) ?_), oD (stpD (.st y z)), rfl⟩
        · simp -implicitDefEqProofs only [eB_def, eOp2_def, eV_def, eC_def, List.getElem?_cons_zero, List.getElem?_cons_succ, ok_bind, st0, lift_some, eq_sl, asB_bl]
        · refine tri_sum hT hn (by omega) _ _ _ _ _ _ ?_ ?_ ?_ ?_ ?_ <;> simp -implicitDefEqProofs only [eOp2_def, eV_def, eC_def, List.getElem?_cons_zero, List.getElem?_cons_succ, ok_bind, hB2, lift_some, tri0, tri1, tri2]) ⟨none, rfl⟩
  rw [List.length_map, List.take_length] at main
  unfold MLmade BLmade
  refine ret_of ?_
  show Ret _ [oD A, oD B, oD (ni n), none, none] _
  refine .seq (.set (d := .str []) rfl) (.seq (.for (ds := s.map stpD) ?_ main) (.ret rfl))
  rw [← hA]
  show lift (asA true (.lst _)) = _
  rw [asA_lst, if_pos (okElT _)]; rfl
theorem bond_spec {lt n : Nat} (h3 : lt ≤ 3) (hn : n ≤ 4) {s : List Stp} (hs : ∀ x ∈ s, OkS lt x) (hl : s.length ≤ 10) : Mbond_words [.lst (s.map stpD), ni n] = .ok (.tup [.str (mk true n s), .str (mk false n s)]) := by
  generalize hA : D.lst (s.map stpD) = A
  obtain ⟨c', main, x4, rfl⟩ := forL_ex 4 (sIf (eB (eOp2 (opEq) (eOp2 (opIx true) (eV 4) (eC (.int 0))) (eC (.str [108, 101, 116, 116, 101, 114]))))
    (sSeq (sSet 2 (eOp2 (opAdd true true) (eV 2) (eOp2 (opIx true) (eC (.str [97, 98, 99])) (eOp2 (opIx true) (eV 4) (eC (.int 1))))))
    (sSet 3 (eOp2 (opAdd true true) (eV 3) (eOp2 (opIx true) (eC (.str [97, 98, 99])) (eOp2 (opIx true) (eV 4) (eC (.int 1)))))))
    (sSeq (sSet 2 (eOp2 (opAdd true true) (eOp2 (opAdd true true) (eOp2 (opAdd true true) (eV 2) (eOp2 (opIx true) (eOp2 (opIx true) (eV 4) (eC (.int 1))) (eC (.int 0)))) (eOp2 (opMul) (eOp2 (opIx true) (eOp2 (opIx true) (eV 4) (eC (.int 1))) (eC (.int 1))) (eV 1))) (eOp2 (opIx true) (eOp2 (opIx true) (eV 4) (eC (.int 1))) (eC (.int 2)))))
    (sSet 3 (eOp2 (opAdd true true) (eOp2 (opAdd true true) (eOp2 (opAdd true true) (eV 3) (eOp2 (opIx true) (eOp2 (opIx true) (eV 4) (eC (.int 2))) (eC (.int 0)))) (eOp2 (opMul) (eOp2 (opIx true) (eOp2 (opIx true) (eV 4) (eC (.int 2))) (eC (.int 1))) (eV 1))) (eOp2 (opIx true) (eOp2 (opIx true) (eV 4) (eC (.int 2))) (eC (.int 2)))))))
    (fun j c => ∃ x4, c = [oD A, oD (ni n), oD (.str (mk true n (s.take j))), oD (.str (mk false n (s.take j))), x4]) (s.map stpD) [oD A, oD (ni n), oD (.str []), oD (.str []), none] (by
      rintro j d c hd ⟨x4, rfl⟩
      rw [List.getElem?_map] at hd
      obtain ⟨q, hq, rfl⟩ := Option.map_eq_some_iff.mp hd
      obtain ⟨hj, rfl⟩ := List.getElem?_eq_some_iff.mp hq
      have hok := hs _ (List.getElem_mem hj)
      have hml : ∀ one, (mk one n (s.take j)).length ≤ 300 := by
        intro one
        obtain ⟨_, hml⟩ := mk_lets (n := n) h3 one (s := s.take j) fun x hx => hs x (List.mem_of_mem_take hx)
        rw [List.length_take] at hml
        have := Nat.mul_le_mul (show min j s.length ≤ 10 by omega) (show 6 + n * 6 ≤ 30 by omega)
        omega
      have hmk : ∀ one, mk one n (s.take (j + 1)) = mk one n (s.take j) ++ pc one n s[j] := by
        intro one
        unfold mk
        rw [List.take_succ_eq_append_getElem hj, List.flatMap_append]
        simp
      rw [hmk, hmk]
      have l1 := hml true
      have l2 := hml false
      generalize mk true n (s.take j) = w at l1 ⊢
      generalize mk false n (s.take j) = v at l2 ⊢
      generalize s[j] = x at hok ⊢
      show ∃ c', (sIf _ _ _) [oD A, oD (ni n), oD (.str w), oD (.str v), oD (stpD x)] = .ok .nx c' ∧ _
      cases x with
      | lt k =>
        have hk : k < 3 := Nat.lt_of_lt_of_le hok h3
        refine ⟨_, Nx.yes ?_ (.seq (.set (d := .str (w ++ [97 + k])) ?_) (.set (d := .str (v ++ [97 + k])) ?_)), oD (stpD (.lt k)), rfl⟩
        · simp -implicitDefEqProofs only [eB_def, eOp2_def, eV_def, eC_def, List.getElem?_cons_zero, List.getElem?_cons_succ, ok_bind, lt0, lift_some, eq_ll, asB_bl]
        · simp -implicitDefEqProofs only [eOp2_def, eV_def, eC_def, List.getElem?_cons_zero, List.getElem?_cons_succ, ok_bind, lt1, lift_some, abc_at hk]
          rw [add_str (by rw [List.length_singleton]; omega)]; rfl
        · show (eOp2 _ _ _) [oD A, oD (ni n), oD (.str (w ++ [97 + k])), oD (.str v), oD (stpD (.lt k))] = _
          simp -implicitDefEqProofs only [eOp2_def, eV_def, eC_def, List.getElem?_cons_zero, List.getElem?_cons_succ, ok_bind, lt1, lift_some, abc_at hk]
          rw [add_str (by rw [List.length_singleton]; omega)]; rfl
      | st y z =>
        obtain ⟨C, hC, hy, hz⟩ := hok
        refine ⟨_, Nx.no ?_ (.seq (.set (d := .str (w ++ tw n y)) ?_) (.set (d := .str (v ++ tw n z)) ?_)), oD (stpD (.st y z)), rfl⟩
        · simp -implicitDefEqProofs only [eB_def, eOp2_def, eV_def, eC_def, List.getElem?_cons_zero, List.getElem?_cons_succ, ok_bind, st0, lift_some, eq_sl, asB_bl]
        · refine tri_sum hy hn (by omega) _ _ _ _ _ _ ?_ ?_ ?_ ?_ ?_ <;> simp -implicitDefEqProofs only [eOp2_def, eV_def, eC_def, List.getElem?_cons_zero, List.getElem?_cons_succ, ok_bind, st1, lift_some, tri0, tri1, tri2]
        · show (eOp2 _ _ _) [oD A, oD (ni n), oD (.str (w ++ tw n y)), oD (.str v), oD (stpD (.st y z))] = _
          refine tri_sum hz hn (by omega) _ _ _ _ _ _ ?_ ?_ ?_ ?_ ?_ <;> simp -implicitDefEqProofs only [eOp2_def, eV_def, eC_def, List.getElem?_cons_zero, List.getElem?_cons_succ, ok_bind, st2, lift_some, tri0, tri1, tri2]) ⟨none, rfl⟩
  rw [List.length_map, List.take_length] at main
  unfold Mbond_words Bbond_words
  refine ret_of ?_
  show Ret _ [oD A, oD (ni n), none, none, none] _
  refine .seq (.set (d := .str []) rfl) (.seq (.set (d := .str []) rfl) (.seq (.for (ds := s.map stpD) ?_ main) (.ret rfl)))
  rw [← hA]
  show lift (asA true (.lst _)) = _
  rw [asA_lst, if_pos (okElT _)]; rfl
end GW

namespace GW
open PySem PySem.Spec PyProof.Rows L2 VS
theorem nat_list {m : Int} : ∀ {l : List Int}, (∀ x ∈ l, 0 ≤ x ∧ x < m) → ∃ p : List Nat, l.map D.int = p.map ni ∧ p.length = l.length
  | [], _ => ⟨[], rfl, rfl⟩
  | x :: l, h => by
    obtain ⟨p, e, hl⟩ := nat_list (l := l) fun y hy => h y (List.mem_cons_of_mem _ hy)
    obtain ⟨k, rfl⟩ := nat_of (h x List.mem_cons_self).1
    exact ⟨k :: p, by rw [List.map_cons, e]; rfl, by simp [hl]⟩
theorem pk {p : List Nat} (i : Nat) (h : i < p.length) : opIx true (.lst (p.map ni)) (.int (i : Int)) = some (ni p[i]) := by
  rw [opIx_lst, atI_ofNat, List.getElem?_map, List.getElem?_eq_getElem h]; rfl
theorem nat_mod (a : Nat) (b : Nat) (h : 0 < b) : opMod (ni a) (.int (b : Int)) = some (ni (a % b)) := by
  rw [opMod_int, if_pos (by omega)]; simp [ni]
theorem nat_div (a : Nat) (b : Nat) (h : 0 < b) (h2 : b < 1000000) : opDiv (ni a) (.int (b : Int)) = some (ni (a / b)) := by
  rw [opDiv_int, if_pos ⟨by omega, by omega⟩]; simp [ni]
theorem add_nat (a b : Nat) : opAdd true true (ni a) (ni b) = some (ni (a + b)) := by rw [opAdd_int]; simp [ni]
theorem mul_nat (a b : Nat) (h : a < 1000000) : opMul (ni a) (ni b) = some (ni (a * b)) := by
  rw [opMul_int, if_pos (.inl ⟨by omega, by omega⟩)]; simp [ni]
theorem sub_nat (a b : Nat) (h : b ≤ a) : opSub (ni a) (ni b) = some (ni (a - b)) := by
  rw [opSub_int]
  exact congrArg (fun x => some (D.int x)) (by omega)
theorem bit_nat (a b : Nat) : Builtin.bitAnd (a : Int) (b : Int) = ((a &&& b : Nat) : Int) := by
  rfl
def sh (v i : Nat) : Int := ((v >>> i : Nat) : Int)
def sb (v i : Nat) : Int := ((v >>> i &&& 1 : Nat) : Int)
theorem shr_spec (v i : Nat) : opShr (.int v) (.int i) = some (.int (sh v i)) := by
  unfold opShr sh
  simp [Nat.shiftRight_eq_div_pow]
theorem sb_spec (v i : Nat) : opBit Builtin.bitAnd (.int (sh v i)) (.int 1) = some (.int (sb v i)) := by
  unfold opBit sh sb
  exact congrArg (fun x => some (D.int x)) (bit_nat (v >>> i) 1)
theorem bit1 (v i : Nat) : ((v >>> i &&& 1 : Nat) == 1) = v.testBit i := by
  rw [Nat.testBit]
  rw [Nat.and_comm]
  have : (1 &&& v >>> i) = 0 ∨ (1 &&& v >>> i) = 1 := by
    have : 1 &&& v >>> i ≤ 1 := Nat.and_le_left
    omega
  rcases this with h | h <;> simp [h]
theorem tk_any (v i : Nat) : opEq (.int (sb v i)) (.int 1) = some (.bl (v.testBit i)) := by
  rw [opEq_int, ← bit1]
  unfold sb
  congr 2
  rw [Bool.eq_iff_iff, beq_iff_eq, beq_iff_eq]
  omega
abbrev cD (l : List Nat) : D := .lst (l.map fun c => D.str [c])
def chs (lt m : Nat) : List Nat := ((List.range lt).filter m.testBit).map (97 + ·)
theorem chs_ok {lt m : Nat} (h3 : lt ≤ 3) : (∀ c ∈ chs lt m, c ∈ lets lt) ∧ (chs lt m).length ≤ 3 := by
  constructor
  · intro c hc
    obtain ⟨i, hi, rfl⟩ := List.mem_map.mp hc
    exact let_mem (List.mem_range.mp (List.mem_filter.mp hi).1) h3
  · unfold chs
    rw [List.length_map]
    have := List.length_filter_le m.testBit (List.range lt)
    rw [List.length_range] at this
    omega
theorem chs_ne : ∀ lt < 4, ∀ m < 2 ^ lt, 1 ≤ m → 0 < (chs lt m).length := by decide
theorem chosen_spec {lt x : Nat} (h1 : 1 ≤ lt) (h3 : lt ≤ 3) {PD : D} (hp : opIx true PD (.int 1) = some (ni x)) (c : VS.Env) (h2 : c[2]? = some (oD (ni lt))) (h6 : c[6]? = some (oD PD)) (hl : c.length = 15) :
    ∃ ch, (eLc (eItR (eC (.int 0)) (eV 2)) (eB (eOp2 (opEq) (eOp2 (opBit Builtin.bitAnd) (eOp2 (opShr) (eOp2 (opAdd true true) (eC (.int 1)) (eOp2 (opMod) (eOp2 (opIx true) (eV 6) (eC (.int 1))) (eOp2 (opSub) (eOp2 (opShl) (eC (.int 1)) (eV 2)) (eC (.int 1))))) (eV 13)) (eC (.int 1))) (eC (.int 1)))) (eOp2 (opIx true) (eC (.str [97, 98, 99])) (eV 13)) 13) c = .ok (cD ch) ∧ (∀ c ∈ ch, c ∈ lets lt) ∧ ch.length ≤ 3 ∧ 0 < ch.length := by
  have hshl : opShl (.int 1) (ni lt) = some (ni (2 ^ lt)) := by
    have : lt = 1 ∨ lt = 2 ∨ lt = 3 := by omega
    rcases this with rfl | rfl | rfl <;> simp [opShl]
  have hM : 2 ≤ 2 ^ lt ∧ 2 ^ lt ≤ 8 := by
    have : lt = 1 ∨ lt = 2 ∨ lt = 3 := by omega
    rcases this with rfl | rfl | rfl <;> simp
  have hm : 1 + x % (2 ^ lt - 1) < 2 ^ lt := by
    have := Nat.mod_lt x (show 0 < 2 ^ lt - 1 by omega)
    omega
  refine ⟨chs lt (1 + x % (2 ^ lt - 1)), ?_, (chs_ok h3).1, (chs_ok h3).2, chs_ne lt (by omega) _ hm (by omega)⟩
  have e := compL_filterm (eB (eOp2 (opEq) (eOp2 (opBit Builtin.bitAnd) (eOp2 (opShr) (eOp2 (opAdd true true) (eC (.int 1)) (eOp2 (opMod) (eOp2 (opIx true) (eV 6) (eC (.int 1))) (eOp2 (opSub) (eOp2 (opShl) (eC (.int 1)) (eV 2)) (eC (.int 1))))) (eV 13)) (eC (.int 1))) (eC (.int 1)))) (eOp2 (opIx true) (eC (.str [97, 98, 99])) (eV 13)) 13 c ni (1 + x % (2 ^ lt - 1)).testBit (fun i => .str [97 + i]) (List.range lt)
    (by
      intro i hi
      have g2 : (c.set 13 (oD (ni i)))[2]? = some (oD (ni lt)) := by rw [List.getElem?_set_ne (by omega), h2]
      have g6 : (c.set 13 (oD (ni i)))[6]? = some (oD PD) := by rw [List.getElem?_set_ne (by omega), h6]
      have g13 : (c.set 13 (oD (ni i)))[13]? = some (oD (ni i)) := by rw [List.getElem?_set_self (by omega)]
      simp -implicitDefEqProofs only [eB_def, eOp2_def, eV_def, eC_def, g2, g6, g13, ok_bind, hp, hshl, lift_some]
      rw [show opSub (ni (2 ^ lt)) (.int 1) = _ from sub_nat _ 1 (by omega), lift_some, ok_bind, nat_mod _ _ (by omega), lift_some, ok_bind, show opAdd true true (.int 1) (ni _) = _ from add_nat 1 _, lift_some, ok_bind, shr_spec, lift_some, ok_bind, sb_spec, lift_some, ok_bind, tk_any]
      rfl)
    (by
      intro i hi _
      have g13 : (c.set 13 (oD (ni i)))[13]? = some (oD (ni i)) := by rw [List.getElem?_set_self (by omega)]
      have := List.mem_range.mp hi
      simp -implicitDefEqProofs only [eOp2_def, eV_def, eC_def, g13, ok_bind]
      rw [abc_at (by omega)]; rfl)
  have ai : asI (ni lt) = some (lt : Int) := asI_small (by omega) (by omega)
  simp -implicitDefEqProofs only [eLc_def, eLcs_def, eItR_def, eC_def, eV_def, h2, ok_bind, asI_zero, lift_some, ai, rangeD_nat]
  rw [e]
  have := (chs_ok (m := 1 + x % (2 ^ lt - 1)) h3).2
  unfold chs at this ⊢
  rw [List.length_map] at this
  rw [ok_bind, List.length_map, if_pos (by omega), ok_bind]
  show R.ok (D.lst _) = R.ok (D.lst (List.map _ (List.map _ _)))
  rw [List.map_map]
  rfl
theorem cut7 {p : List Nat} (hp : p.length = 16) {s : Nat} (hs : s < 2) : ∃ q : List Nat, q.length = 7 ∧ cutD (p.map ni) (some ((2 + 7 * s : Nat) : Int)) (some ((9 + 7 * s : Nat) : Int)) = q.map ni := by
  refine ⟨(p.drop (2 + 7 * s)).take 7, by rw [List.length_take, List.length_drop]; omega, ?_⟩
  rw [cut_nat, List.length_map, Nat.min_eq_left (by omega), Nat.min_eq_left (by omega), List.map_take, List.map_drop]
  congr 1
  omega
theorem cut_sub (z : List Nat) (i j : Nat) : ∃ y, cutD z (some (i : Int)) (some (j : Int)) = y ∧ (∀ c ∈ y, c ∈ z) ∧ y.length ≤ j - i := by
  refine ⟨_, rfl, fun c hc => ?_, ?_⟩
  · rw [cut_nat] at hc
    exact List.mem_of_mem_drop (List.mem_of_mem_take hc)
  · rw [cut_nat, List.length_take, List.length_drop]
    omega
theorem sum1 : ∀ l : List Nat, ((l.map fun c => [c]).map List.length).sum = l.length
  | [] => rfl
  | a :: l => by rw [List.map_cons, List.map_cons, List.sum_cons, sum1 l]; simp; omega
theorem joinD {l : List Nat} (h : l.length ≤ 1000) : fJoin [] [cD l] = some (.str l) := by
  have e : (l.map fun c => D.str [c]) = (l.map fun c => [c]).map D.str := by rw [List.map_map]; rfl
  show fJoin [] [.lst (l.map fun c => D.str [c])] = _
  rw [e, fJoin_lst, asSs_strs]
  have h2 := sum1 l
  show (if _ then _ else _) = _
  rw [h2, List.length_map, if_pos (by simp; omega), joinL_one]
theorem ch_at {ch : List Nat} {i : Nat} (h : i < ch.length) : opIx true (cD ch) (ni i) = some (.str [ch[i]]) := by
  show opIx true (.lst _) (.int _) = _
  rw [opIx_lst, atI_ofNat, List.getElem?_map, List.getElem?_eq_getElem h]; rfl
abbrev sideB : VS.Env → Rs := (sSeq (sSet 10 (eLc (eIt true (eSl true (eV 6) (eO (eOp2 (opAdd true true) (eC (.int 2)) (eOp2 (opMul) (eC (.int 7)) (eV 9)))) (eO (eOp2 (opAdd true true) (eC (.int 9)) (eOp2 (opMul) (eC (.int 7)) (eV 9)))))) tYes' (eOp2 (opIx true) (eV 7) (eOp2 (opMod) (eV 14) (eFn (fLen) (eCons (eV 7) eNil)))) 14))
    (sSeq (sSet 11 (eStep (eV 7) (eOp2 (opSub) (eC (.int 1)) (eOp2 (opMul) (eC (.int 2)) (eOp2 (opMod) (eOp2 (opDiv) (eOp2 (opIx true) (eV 6) (eC (.int 15))) (eOp2 (opAdd true true) (eC (.int 1)) (eV 9))) (eC (.int 2)))))))
    (sSeq (sSet 12 (eMS fJoin (eC (.str [])) (eCons (eV 10) eNil)))
    (sApp 8 (eFn fTup (eCons (eSl true (eV 12) eNoO (eO (eOp2 (opMod) (eOp2 (opIx true) (eV 6) (eC (.int 15))) (eC (.int 3))))) (eCons (eOp2 (opAdd true true) (eMS fJoin (eC (.str [])) (eCons (eV 11) eNil)) (eSl true (eV 12) (eO (eC (.int 2))) (eO (eOp2 (opAdd true true) (eC (.int 2)) (eOp2 (opMod) (eOp2 (opIx true) (eV 6) (eC (.int 14))) (eC (.int 3))))))) (eCons (eSl true (eV 12) (eO (eC (.int 5))) (eO (eOp2 (opAdd true true) (eC (.int 5)) (eOp2 (opMod) (eOp2 (opIx true) (eV 6) (eC (.int 13))) (eC (.int 3)))))) eNil)))))))) 
abbrev tO (ws : List Tri) : Option O := some (.lst (ws.map fun t => .v (triD t)))
theorem side_step {p ch : List Nat} (hp : p.length = 16) (hc : 0 < ch.length) (hc3 : ch.length ≤ 3) {s : Nat} (hs : s < 2) (x0 x1 x2 x3 x4 x5 x10 x11 x12 : Option O) {ws : List Tri} (hw : ws.length ≤ 10) :
    ∃ t, OkT ch t ∧ ∃ y10 y11 y12, Nx sideB [x0, x1, x2, x3, x4, x5, oD (.lst (p.map ni)), oD (cD ch), tO ws, oD (ni s), x10, x11, x12, none, none] [x0, x1, x2, x3, x4, x5, oD (.lst (p.map ni)), oD (cD ch), tO (ws ++ [t]), oD (ni s), y10, y11, y12, none, none] := by
  obtain ⟨q, hq, hcut⟩ := cut7 hp hs
  have e13 := pk (p := p) 13 (by omega)
  have e14 := pk (p := p) 14 (by omega)
  have e15 := pk (p := p) 15 (by omega)
  generalize hPD : D.lst (p.map ni) = PD at e13 e14 e15 ⊢
  have hsl : opSl true PD (some ((2 + 7 * s : Nat) : Int)) (some ((9 + 7 * s : Nat) : Int)) = some (.lst (q.map ni)) := by
    rw [← hPD, opSl_lst, hcut, if_pos (okElT _)]
  generalize p[13] = p13 at e13
  generalize p[14] = p14 at e14
  generalize p[15] = p15 at e15
  generalize hCD : cD ch = CD
  have hlen : fLen [CD] = some (ni ch.length) := by rw [← hCD]; show fLen [.lst _] = _; rw [fLen_lst, List.length_map]
  -- spare
  have e10 := compL_mapm (eOp2 (opIx true) (eV 7) (eOp2 (opMod) (eV 14) (eFn (fLen) (eCons (eV 7) eNil)))) 14 [x0, x1, x2, x3, x4, x5, oD PD, oD CD, tO ws, oD (ni s), x10, x11, x12, none, none] ni (fun x => .str [ch[x % ch.length]'(Nat.mod_lt _ hc)]) q (by
    intro x _
    show (eOp2 _ _ _) [x0, x1, x2, x3, x4, x5, oD PD, oD CD, tO ws, oD (ni s), x10, x11, x12, none, oD (ni x)] = _
    simp -implicitDefEqProofs only [eOp2_def, eFn_def, eCons_def, eNil_def, eV_def, List.getElem?_cons_zero, List.getElem?_cons_succ, ok_bind, hlen, lift_some]
    rw [nat_mod _ _ hc, lift_some, ok_bind, ← hCD, ch_at (Nat.mod_lt _ hc), lift_some])
  obtain ⟨sp, hsp⟩ : ∃ sp, sp = q.map fun x => ch[x % ch.length]'(Nat.mod_lt _ hc) := ⟨_, rfl⟩
  have hspl : sp.length = 7 := by rw [hsp, List.length_map, hq]
  have hspm : ∀ c ∈ sp, c ∈ ch := by
    intro c hcm
    rw [hsp] at hcm
    obtain ⟨x, _, rfl⟩ := List.mem_map.mp hcm
    exact List.getElem_mem _
  have hspD : q.map (fun x => D.str [ch[x % ch.length]'(Nat.mod_lt _ hc)]) = sp.map fun c => .str [c] := by rw [hsp, List.map_map]; rfl
  rw [hspD] at e10
  -- turned
  obtain ⟨tr, htr, htl, htm⟩ : ∃ tr : List Nat, stepL (ch.map fun c => D.str [c]) (.int (1 - 2 * ((p15 / (1 + s) % 2 : Nat) : Int))) = some (cD tr) ∧ tr.length ≤ 3 ∧ ∀ c, c ∈ tr ↔ c ∈ ch := by
    have : p15 / (1 + s) % 2 = 0 ∨ p15 / (1 + s) % 2 = 1 := by omega
    rcases this with h | h
    · exact ⟨ch, by rw [h]; rfl, hc3, fun c => Iff.rfl⟩
    · refine ⟨ch.reverse, ?_, by rw [List.length_reverse]; exact hc3, fun c => List.mem_reverse⟩
      rw [h]
      show some (D.lst _) = some (D.lst _)
      rw [← List.map_reverse]
  obtain ⟨mid, hmid, hmm, hml⟩ := cut_sub sp 2 (2 + p14 % 3)
  obtain ⟨en, hen, hem, hel⟩ := cut_sub sp 5 (5 + p13 % 3)
  refine ⟨⟨sp.take (p15 % 3), tr ++ mid, en⟩, ⟨?_, ?_, ?_, ?_, ?_, ?_⟩, oD (cD sp), oD (cD tr), oD (.str sp), ?_⟩
  · show (sp.take (p15 % 3)).length ≤ 3
    rw [List.length_take]
    have := Nat.mod_lt p15 (show 0 < 3 by omega)
    omega
  · show (tr ++ mid).length ≤ 6
    rw [List.length_append]
    have := Nat.mod_lt p14 (show 0 < 3 by omega)
    omega
  · show en.length ≤ 3
    have := Nat.mod_lt p13 (show 0 < 3 by omega)
    omega
  · exact fun c hcm => hspm c (List.mem_of_mem_take hcm)
  · exact fun c hcm => hspm c (hem c hcm)
  · intro c
    show c ∈ tr ++ mid ↔ _
    rw [List.mem_append, htm]
    exact ⟨fun h => h.elim id fun h => hspm c (hmm c h), .inl⟩
  · have l16 : sp.length ≤ 16777216 := by omega
    refine .seq (.set (d := cD sp) ?_) (.seq (.set (d := cD tr) ?_) (.seq (.set (d := .str sp) ?_) ?_))
    · simp -implicitDefEqProofs only [eLc_def, eLcs_def, eIt_def, eSl_def, eO_def, eOp2_def, eC_def, eV_def, List.getElem?_cons_zero, List.getElem?_cons_succ, ok_bind]
      rw [show opMul (.int 7) (ni s) = _ from mul_nat 7 s (by omega)]
      simp -implicitDefEqProofs only [lift_some, ok_bind]
      rw [show opAdd true true (.int 2) (ni (7 * s)) = _ from add_nat 2 _, show opAdd true true (.int 9) (ni (7 * s)) = _ from add_nat 9 _]
      simp -implicitDefEqProofs only [lift_some, ok_bind]
      show ((lift (opSl true PD (some ((2 + 7 * s : Nat) : Int)) (some ((9 + 7 * s : Nat) : Int))) >>= fun d => lift (asA true d)) >>= fun ds => compL _ _ _ _ ds >>= fun es => _) >>= _ = _
      rw [hsl, lift_some, ok_bind, asA_lst, if_pos (okElT _), lift_some, ok_bind, e10, ok_bind, List.length_map, if_pos (by omega)]
      rfl
    · show (eStep _ _) [x0, x1, x2, x3, x4, x5, oD PD, oD CD, tO ws, oD (ni s), oD (cD sp), x11, x12, none, none] = _
      simp -implicitDefEqProofs only [eStep_def, eOp2_def, eC_def, eV_def, List.getElem?_cons_zero, List.getElem?_cons_succ, ok_bind]
      rw [show opIx true PD (.int 15) = _ from e15, lift_some, ok_bind, show opAdd true true (.int 1) (ni s) = _ from add_nat 1 _, lift_some, ok_bind, nat_div _ _ (by omega) (by omega), lift_some, ok_bind, show opMod (ni (p15 / (1 + s))) (.int 2) = _ from nat_mod _ 2 (by omega), lift_some, ok_bind, show opMul (.int 2) (ni _) = _ from mul_nat 2 _ (by omega), lift_some, ok_bind]
      rw [show opSub (.int 1) (ni (2 * (p15 / (1 + s) % 2))) = some (.int (1 - 2 * ((p15 / (1 + s) % 2 : Nat) : Int))) by rw [opSub_int]; exact congrArg (fun x => some (D.int x)) (by omega), lift_some, ok_bind, ← hCD]
      show lift (stepL (ch.map fun c => D.str [c]) _) = _
      rw [htr, lift_some]
    · show (eMS _ _ _) [x0, x1, x2, x3, x4, x5, oD PD, oD CD, tO ws, oD (ni s), oD (cD sp), oD (cD tr), x12, none, none] = _
      simp -implicitDefEqProofs only [eMS_def, eC_def, eCons_def, eNil_def, eV_def, List.getElem?_cons_zero, List.getElem?_cons_succ, ok_bind, asS_str, lift_some]
      rw [joinD (by omega)]; rfl
    · unfold Nx
      rw [sApp_def]
      show (lift (atL 8 [x0, x1, x2, x3, x4, x5, oD PD, oD CD, tO ws, oD (ni s), oD (cD sp), oD (cD tr), oD (.str sp), none, none])).st _ (fun os => ((eFn fTup _) [x0, x1, x2, x3, x4, x5, oD PD, oD CD, tO ws, oD (ni s), oD (cD sp), oD (cD tr), oD (.str sp), none, none]).st _ _) = _
      have hval : (eFn fTup (eCons (eSl true (eV 12) eNoO (eO (eOp2 (opMod) (eOp2 (opIx true) (eV 6) (eC (.int 15))) (eC (.int 3))))) (eCons (eOp2 (opAdd true true) (eMS fJoin (eC (.str [])) (eCons (eV 11) eNil)) (eSl true (eV 12) (eO (eC (.int 2))) (eO (eOp2 (opAdd true true) (eC (.int 2)) (eOp2 (opMod) (eOp2 (opIx true) (eV 6) (eC (.int 14))) (eC (.int 3))))))) (eCons (eSl true (eV 12) (eO (eC (.int 5))) (eO (eOp2 (opAdd true true) (eC (.int 5)) (eOp2 (opMod) (eOp2 (opIx true) (eV 6) (eC (.int 13))) (eC (.int 3)))))) eNil)))) [x0, x1, x2, x3, x4, x5, oD PD, oD CD, tO ws, oD (ni s), oD (cD sp), oD (cD tr), oD (.str sp), none, none] = .ok (triD ⟨sp.take (p15 % 3), tr ++ mid, en⟩) := by
        simp -implicitDefEqProofs only [eFn_def, eMS_def, eSl_def, eNoO_def, eO_def, eOp2_def, eC_def, eCons_def, eNil_def, eV_def, List.getElem?_cons_zero, List.getElem?_cons_succ, ok_bind, asS_str, lift_some]
        rw [show opIx true PD (.int 15) = _ from e15, show opIx true PD (.int 14) = _ from e14, show opIx true PD (.int 13) = _ from e13]
        simp -implicitDefEqProofs only [ok_bind, lift_some]
        rw [show opMod (ni p15) (.int 3) = _ from nat_mod _ 3 (by omega), show opMod (ni p14) (.int 3) = _ from nat_mod _ 3 (by omega), show opMod (ni p13) (.int 3) = _ from nat_mod _ 3 (by omega)]
        simp -implicitDefEqProofs only [ok_bind, lift_some]
        rw [show opAdd true true (.int 2) (ni _) = _ from add_nat 2 _, show opAdd true true (.int 5) (ni _) = _ from add_nat 5 _]
        simp -implicitDefEqProofs only [ok_bind, lift_some, opSl_str, if_pos l16, cut_to]
        rw [show cutD sp (some 2) (some ((2 + p14 % 3 : Nat) : Int)) = _ from hmid, show cutD sp (some 5) (some ((5 + p13 % 3 : Nat) : Int)) = _ from hen, joinD (by omega)]
        simp -implicitDefEqProofs only [ok_bind, lift_some]
        have := Nat.mod_lt p14 (show 0 < 3 by omega)
        rw [add_str (by omega)]
        rfl
      rw [hval]
      show (if (ws.map fun t => O.v (triD t)).length < 16777216 then _ else _) = _
      rw [List.length_map, if_pos (by omega)]
      show Rs.ok .nx [_, _, _, _, _, _, _, _, some (.lst (_ ++ [_])), _, _, _, _, _, _] = _
      unfold tO
      rw [List.map_append]
      rfl
end GW

namespace GW
open PySem PySem.Spec PyProof.Rows L2 VS
abbrev sO (ss : List Stp) : Option O := some (.lst (ss.map fun s => .v (stpD s)))
abbrev stepB : VS.Env → Rs := (sSeq (sSet 6 (eCall MLdraws (eCons (eV 0) (eCons (eOp2 (opAdd true true) (eV 1) (eV 5)) (eCons (eC (.int 16)) (eCons (eC (.int 5040)) eNil))))))
    (sIf (eB (eOp2 (opEq) (eOp2 (opMod) (eOp2 (opIx true) (eV 6) (eC (.int 0))) (eC (.int 3))) (eC (.int 0))))
    (sApp 4 (eFn fTup (eCons (eC (.str [108, 101, 116, 116, 101, 114])) (eCons (eOp2 (opMod) (eOp2 (opIx true) (eV 6) (eC (.int 1))) (eV 2)) eNil))))
    (sSeq (sSet 7 (eLc (eItR (eC (.int 0)) (eV 2)) (eB (eOp2 (opEq) (eOp2 (opBit Builtin.bitAnd) (eOp2 (opShr) (eOp2 (opAdd true true) (eC (.int 1)) (eOp2 (opMod) (eOp2 (opIx true) (eV 6) (eC (.int 1))) (eOp2 (opSub) (eOp2 (opShl) (eC (.int 1)) (eV 2)) (eC (.int 1))))) (eV 13)) (eC (.int 1))) (eC (.int 1)))) (eOp2 (opIx true) (eC (.str [97, 98, 99])) (eV 13)) 13))
    (sSeq (sSetO 8 (eFnO fLstO eNil))
    (sSeq (sFor 9 (eItR (eC (.int 0)) (eC (.int 2))) sideB)
    (sApp 4 (eFn fTup (eCons (eC (.str [115, 101, 116])) (eCons (eIxo 8 (eC (.int 0))) (eCons (eIxo 8 (eC (.int 1))) eNil))))))))))
theorem two_t {l : List Tri} (h : l.length = 2) : ∃ a b, l = [a, b] := by
  match l, h with
  | [a, b], _ => exact ⟨a, b, rfl⟩
theorem app4 {x0 x1 x2 x3 x5 x6 x7 x8 x9 x10 x11 x12 : Option O} {ss : List Stp} {s : Stp} {g : VS.Env → R D} (hl : ss.length ≤ 100) (h : g [x0, x1, x2, x3, sO ss, x5, x6, x7, x8, x9, x10, x11, x12, none, none] = .ok (stpD s)) :
    Nx (sApp 4 g) [x0, x1, x2, x3, sO ss, x5, x6, x7, x8, x9, x10, x11, x12, none, none] [x0, x1, x2, x3, sO (ss ++ [s]), x5, x6, x7, x8, x9, x10, x11, x12, none, none] := by
  unfold Nx
  rw [sApp_def, h]
  show (if (ss.map fun t => O.v (stpD t)).length < 16777216 then _ else _) = _
  rw [List.length_map, if_pos (by omega)]
  show Rs.ok .nx [_, _, _, _, some (.lst (_ ++ [_])), _, _, _, _, _, _, _, _, _, _] = _
  unfold sO
  rw [List.map_append]
  rfl
theorem step_ok (ns : List Int) {lt : Nat} (h1 : 1 ≤ lt) (h3 : lt ≤ 3) (j : Nat) (x3 y6 y7 y8 y9 y10 y11 y12 : Option O) {ss : List Stp} (hl : ss.length ≤ 10) :
    ∃ s, OkS lt s ∧ ∃ z6 z7 z8 z9 z10 z11 z12, Nx stepB [oD (.lst (ns.map D.int)), oD (ni 1), oD (ni lt), x3, sO ss, oD (ni j), y6, y7, y8, y9, y10, y11, y12, none, none] [oD (.lst (ns.map D.int)), oD (ni 1), oD (ni lt), x3, sO (ss ++ [s]), oD (ni j), z6, z7, z8, z9, z10, z11, z12, none, none] := by
  obtain ⟨l, e0, hl0, hx0⟩ := Ldraws_spec ns (1 + j) 16 5040 (by omega) (by omega) (by omega)
  obtain ⟨p, hp, hpl⟩ := nat_list hx0
  rw [hp] at e0
  rw [hl0] at hpl
  generalize D.lst (ns.map D.int) = Ns at e0 ⊢
  have e0 : MLdraws [Ns, ni (1 + j), .int 16, .int 5040] = .ok (.lst (p.map ni)) := e0
  have q0 := pk (p := p) 0 (by omega)
  have q1 := pk (p := p) 1 (by omega)
  have hset : Nx (sSet 6 (eCall MLdraws (eCons (eV 0) (eCons (eOp2 (opAdd true true) (eV 1) (eV 5)) (eCons (eC (.int 16)) (eCons (eC (.int 5040)) eNil)))))) [oD Ns, oD (ni 1), oD (ni lt), x3, sO ss, oD (ni j), y6, y7, y8, y9, y10, y11, y12, none, none] [oD Ns, oD (ni 1), oD (ni lt), x3, sO ss, oD (ni j), oD (.lst (p.map ni)), y7, y8, y9, y10, y11, y12, none, none] := by
    refine .set (d := .lst (p.map ni)) ?_
    simp -implicitDefEqProofs only [eCall_def, eCons_def, eNil_def, eOp2_def, eC_def, eV_def, List.getElem?_cons_zero, List.getElem?_cons_succ, ok_bind, add_nat, lift_some, e0, noX_ok]
  have ht : (eB (eOp2 (opEq) (eOp2 (opMod) (eOp2 (opIx true) (eV 6) (eC (.int 0))) (eC (.int 3))) (eC (.int 0)))) [oD Ns, oD (ni 1), oD (ni lt), x3, sO ss, oD (ni j), oD (.lst (p.map ni)), y7, y8, y9, y10, y11, y12, none, none] = .ok (p[0] % 3 == 0) := by
    simp -implicitDefEqProofs only [eB_def, eOp2_def, eC_def, eV_def, List.getElem?_cons_zero, List.getElem?_cons_succ, ok_bind]
    rw [show opIx true (.lst (p.map ni)) (.int 0) = _ from q0, lift_some, ok_bind, show opMod (ni p[0]) (.int 3) = _ from nat_mod _ 3 (by omega), lift_some, ok_bind, show opEq (ni (p[0] % 3)) (.int 0) = _ from nat_eq _ 0]
    rfl
  by_cases h : p[0] % 3 = 0
  · refine ⟨.lt (p[1] % lt), Nat.mod_lt _ (by omega), _, _, _, _, _, _, _, .seq hset (.yes (ht.trans (by rw [h]; rfl)) (app4 (by omega) ?_))⟩
    simp -implicitDefEqProofs only [eFn_def, eCons_def, eNil_def, eOp2_def, eC_def, eV_def, List.getElem?_cons_zero, List.getElem?_cons_succ, ok_bind]
    rw [show opIx true (.lst (p.map ni)) (.int 1) = _ from q1, lift_some, ok_bind, nat_mod _ lt (by omega)]
    rfl
  · have h' : (p[0] % 3 == 0) = false := by simpa using h
    obtain ⟨ch, hch, hc1, hc2, hc3⟩ := chosen_spec h1 h3 (PD := .lst (p.map ni)) q1 [oD Ns, oD (ni 1), oD (ni lt), x3, sO ss, oD (ni j), oD (.lst (p.map ni)), y7, y8, y9, y10, y11, y12, none, none] rfl rfl rfl
    obtain ⟨c', main, ws, z9, z10, z11, z12, rfl, hwl, hws⟩ := forL_rg 9 sideB 2 (fun s c => ∃ (ws : List Tri) (z9 z10 z11 z12 : Option O), c = [oD Ns, oD (ni 1), oD (ni lt), x3, sO ss, oD (ni j), oD (.lst (p.map ni)), oD (cD ch), tO ws, z9, z10, z11, z12, none, none] ∧ ws.length = s ∧ ∀ t ∈ ws, OkT ch t)
      [oD Ns, oD (ni 1), oD (ni lt), x3, sO ss, oD (ni j), oD (.lst (p.map ni)), oD (cD ch), tO [], y9, y10, y11, y12, none, none] (by
        rintro s c hs ⟨ws, z9, z10, z11, z12, rfl, hwl, hws⟩
        obtain ⟨t, ht, u10, u11, u12, hn⟩ := side_step (p := p) (ch := ch) hpl hc3 hc2 (s := s) (by omega) (oD Ns) (oD (ni 1)) (oD (ni lt)) x3 (sO ss) (oD (ni j)) z10 z11 z12 (ws := ws) (by omega)
        refine ⟨_, hn, ws ++ [t], oD (ni s), u10, u11, u12, rfl, by rw [List.length_append, hwl]; rfl, fun y hy => ?_⟩
        rcases List.mem_append.mp hy with z | z
        · exact hws y z
        · rw [List.mem_singleton.mp z]; exact ht) ⟨[], _, _, _, _, rfl, rfl, fun t h => nomatch h⟩
    obtain ⟨x, y, rfl⟩ := two_t (show ws.length = 2 from hwl)
    refine ⟨.st x y, ⟨ch, hc1, hws x (by simp), hws y (by simp)⟩, _, _, _, _, _, _, _, .seq hset (.no (ht.trans (by rw [h'])) (.seq ((Nx.set hch).to rfl) (.seq (.setO (d := .lst []) rfl) (.seq (.for (ds := rangeD 0 2) rfl main) (app4 (by omega) rfl)))))⟩
theorem drawn_spec (ns : List Int) {lt cnt : Nat} (h1 : 1 ≤ lt) (h3 : lt ≤ 3) (hc : cnt ≤ 4) : ∃ ss : List Stp, MLdrawn_steps [.lst (ns.map D.int), ni 1, ni lt, ni cnt] = .ok (.lst (ss.map stpD)) ∧ ss.length ≤ 4 ∧ ∀ s ∈ ss, OkS lt s := by
  obtain ⟨c', main, ss, z5, z6, z7, z8, z9, z10, z11, z12, rfl, hsl, hss⟩ := forL_rg 5 stepB (cnt : Int) (fun j c => ∃ (ss : List Stp) (z5 z6 z7 z8 z9 z10 z11 z12 : Option O), c = [oD (.lst (ns.map D.int)), oD (ni 1), oD (ni lt), oD (ni cnt), sO ss, z5, z6, z7, z8, z9, z10, z11, z12, none, none] ∧ ss.length = j ∧ ∀ s ∈ ss, OkS lt s)
    [oD (.lst (ns.map D.int)), oD (ni 1), oD (ni lt), oD (ni cnt), sO [], none, none, none, none, none, none, none, none, none, none] (by
      rintro j c hj ⟨ss, z5, z6, z7, z8, z9, z10, z11, z12, rfl, hsl, hss⟩
      obtain ⟨s, hs, u6, u7, u8, u9, u10, u11, u12, hn⟩ := step_ok ns h1 h3 j (oD (ni cnt)) z6 z7 z8 z9 z10 z11 z12 (ss := ss) (by omega)
      refine ⟨_, hn, ss ++ [s], oD (ni j), u6, u7, u8, u9, u10, u11, u12, rfl, by rw [List.length_append, hsl]; rfl, fun y hy => ?_⟩
      rcases List.mem_append.mp hy with z | z
      · exact hss y z
      · rw [List.mem_singleton.mp z]; exact hs) ⟨[], _, _, _, _, _, _, _, _, rfl, rfl, fun t h => nomatch h⟩
  rw [Int.toNat_natCast] at hsl
  refine ⟨ss, ?_, by omega, hss⟩
  have ac : asI (ni cnt) = some (cnt : Int) := asI_small (by omega) (by omega)
  unfold MLdrawn_steps BLdrawn_steps
  refine ret_of ?_
  show Ret _ [oD (.lst (ns.map D.int)), oD (ni 1), oD (ni lt), oD (ni cnt), none, none, none, none, none, none, none, none, none, none, none] _
  refine .seq (.setO (d := .lst []) rfl) (.seq (.for (ds := rangeD 0 (cnt : Int)) ?_ main) (.fz (.ret ?_)))
  · show (eItR _ _) [oD (.lst (ns.map D.int)), oD (ni 1), oD (ni lt), oD (ni cnt), sO [], none, none, none, none, none, none, none, none, none, none] = _
    simp -implicitDefEqProofs only [eItR_def, eC_def, eV_def, List.getElem?_cons_zero, List.getElem?_cons_succ, ok_bind, asI_zero, lift_some, ac]
  · show (eV 4) [oD (.lst (ns.map D.int)), oD (ni 1), oD (ni lt), oD (ni cnt), oD (O.lst (ss.map fun s => O.v (stpD s))).toD, _, _, _, _, _, _, _, _, _, _] = _
    rw [toD_lst, List.map_map]
    have : (O.toD ∘ fun s => O.v (stpD s)) = stpD := compToD stpD
    rw [this]
    rfl
end GW

namespace GW
open PySem PySem.Spec PyProof.Rows L2 VS
/-! a dict of texts, each with True -/
abbrev tv (K : List (List Nat)) : List O := K.map fun _ => O.v (.bl true)
abbrev dS (K : List (List Nat)) : Option O := some (.dic (K.map D.str) (tv K))
def ins (K : List (List Nat)) (u : List Nat) : List (List Nat) := if u ∈ K then K else K ++ [u]
theorem key_inj {a c : List Nat} : (some (Sum.inr (S a)) : Option Key) = some (.inr (S c)) ↔ a = c := by
  constructor
  · intro h
    have h := Sum.inr.inj (Option.some.inj h)
    have : a.toArray = c.toArray := congrArg Str.cps h
    simpa using this
  · rintro rfl; rfl
theorem hasK_S (K : List (List Nat)) (u : List Nat) : hasK (K.map D.str) (.inr (S u)) = decide (u ∈ K) := by
  unfold hasK
  rw [List.any_map, Bool.eq_iff_iff, List.any_eq_true, decide_eq_true_iff]
  constructor
  · rintro ⟨x, hx, h⟩
    have h : (some (Sum.inr (S x)) : Option Key) = some (.inr (S u)) := of_decide_eq_true h
    rw [← key_inj.mp h]; exact hx
  · intro h
    exact ⟨u, h, decide_eq_true (key_inj.mpr rfl)⟩
theorem rep_S (kk : Key) : ∀ K : List (List Nat), VS.rep (K.map D.str) (tv K) kk (.bl true) = tv K
  | [] => rfl
  | x :: K => by
    have ih := rep_S kk K
    unfold tv at ih ⊢
    rw [List.map_cons, List.map_cons, VS.rep, ih, ite_self]
theorem dPut_S {K : List (List Nat)} (hl : K.length ≤ 1000) (u : List Nat) : dPut (K.map D.str) (tv K) (.str u) (.inr (S u)) (.bl true) = some (.dic ((ins K u).map D.str) (tv (ins K u))) := by
  unfold dPut ins
  rw [List.length_map, if_pos (by omega), hasK_S, rep_S]
  by_cases h : u ∈ K
  · rw [if_pos (by simpa using h), if_pos h]
  · rw [if_neg (by simpa using h), if_neg h]
    unfold tv
    rw [List.map_append, List.map_append]; rfl
theorem mem_ins {K : List (List Nat)} {u v : List Nat} : v ∈ ins K u ↔ v ∈ K ∨ v = u := by
  unfold ins
  split
  · rename_i h
    exact ⟨.inl, fun z => z.elim id fun z => z ▸ h⟩
  · rw [List.mem_append, List.mem_singleton]
theorem nodup_ins {K : List (List Nat)} (h : K.Nodup) (u : List Nat) : (ins K u).Nodup := by
  unfold ins
  split
  · exact h
  · rename_i hn
    rw [List.nodup_append]
    exact ⟨h, by simp, fun a ha b hb e => hn (by rw [← List.mem_singleton.mp hb, ← e]; exact ha)⟩
def i1 (k c : Nat) (K : List (List Nat)) (o : List Nat) : List (List Nat) := if o.length < k then ins K (o ++ [c]) else K
def inn (k c : Nat) (K L : List (List Nat)) : List (List Nat) := L.foldl (i1 k c) K
theorem mem_inn {k c : Nat} {u : List Nat} : ∀ (L K : List (List Nat)), u ∈ inn k c K L ↔ u ∈ K ∨ ∃ o ∈ L, o.length < k ∧ u = o ++ [c]
  | [], K => by simp [inn]
  | o :: L, K => by
    show u ∈ inn k c (i1 k c K o) L ↔ _
    rw [mem_inn L]
    have ex : (∃ p ∈ o :: L, p.length < k ∧ u = p ++ [c]) ↔ (o.length < k ∧ u = o ++ [c]) ∨ ∃ p ∈ L, p.length < k ∧ u = p ++ [c] := by simp
    rw [ex]
    unfold i1
    split
    · rename_i h
      rw [mem_ins]
      constructor
      · rintro ((z | z) | z)
        · exact .inl z
        · exact .inr (.inl ⟨h, z⟩)
        · exact .inr (.inr z)
      · rintro (z | ⟨_, z⟩ | z)
        · exact .inl (.inl z)
        · exact .inl (.inr z)
        · exact .inr z
    · rename_i h
      constructor
      · rintro (z | z)
        · exact .inl z
        · exact .inr (.inr z)
      · rintro (z | ⟨h', z⟩ | z)
        · exact .inl z
        · exact absurd h' h
        · exact .inr z
theorem nodup_inn {k c : Nat} : ∀ (L : List (List Nat)) {K : List (List Nat)}, K.Nodup → (inn k c K L).Nodup
  | [], K, h => h
  | o :: L, K, h => by
    refine nodup_inn L (K := i1 k c K o) ?_
    unfold i1
    split
    · exact nodup_ins h _
    · exact h
def scat (k : Nat) (w : List Nat) : List (List Nat) := w.foldl (fun K c => inn k c K K) [[]]
theorem scat_snoc (k : Nat) (w : List Nat) (c : Nat) : scat k (w ++ [c]) = inn k c (scat k w) (scat k w) := by
  unfold scat
  rw [List.foldl_append]; rfl
theorem sub_snoc {u w : List Nat} {c : Nat} : u.Sublist (w ++ [c]) ↔ u.Sublist w ∨ ∃ o, o.Sublist w ∧ u = o ++ [c] := by
  rw [List.sublist_append_iff]
  constructor
  · rintro ⟨a, b, rfl, ha, hb⟩
    cases hb with
    | cons _ h => rw [List.sublist_nil.mp h]; exact .inl (by simpa using ha)
    | cons_cons _ h => rw [List.sublist_nil.mp h]; exact .inr ⟨a, ha, rfl⟩
  · rintro (h | ⟨o, ho, rfl⟩)
    · exact ⟨u, [], by simp, h, List.nil_sublist _⟩
    · exact ⟨o, [c], rfl, ho, List.Sublist.refl _⟩
theorem scat_mem (k : Nat) (u : List Nat) : ∀ (n : Nat) (w : List Nat), w.length = n → ((scat k w).Nodup ∧ ∀ u, u ∈ scat k w ↔ u.length ≤ k ∧ u.Sublist w)
  | 0, w, h => by
    rw [List.length_eq_zero_iff.mp h]
    refine ⟨by simp [scat], fun u => ?_⟩
    show u ∈ [[]] ↔ _
    rw [List.mem_singleton, List.sublist_nil]
    exact ⟨fun e => ⟨by rw [e]; exact Nat.zero_le _, e⟩, fun e => e.2⟩
  | n + 1, w, h => by
    have hne : w ≠ [] := by intro e; rw [e] at h; cases h
    obtain ⟨z, c, rfl⟩ : ∃ z c, w = z ++ [c] := ⟨w.dropLast, w.getLast hne, (List.dropLast_concat_getLast hne).symm⟩
    obtain ⟨ih1, ih2⟩ := scat_mem k u n z (by simpa using h)
    rw [scat_snoc]
    refine ⟨nodup_inn _ ih1, fun u => ?_⟩
    rw [mem_inn, ih2, sub_snoc]
    constructor
    · rintro (⟨a, b⟩ | ⟨o, ho, hk, rfl⟩)
      · exact ⟨a, .inl b⟩
      · exact ⟨by rw [List.length_append]; exact hk, .inr ⟨o, ((ih2 o).mp ho).2, rfl⟩⟩
    · rintro ⟨a, b | ⟨o, ho, rfl⟩⟩
      · exact .inl ⟨a, b⟩
      · rw [List.length_append] at a
        exact .inr ⟨o, (ih2 o).mpr ⟨Nat.le_of_succ_le a, ho⟩, a, rfl⟩
/-! how many -/
abbrev tt : List Nat → Bool := fun _ => true
theorem mem_lev {lt : Nat} : ∀ (j : Nat) {u : List Nat}, (∀ c ∈ u, c ∈ lets lt) → u.length = j → u ∈ lev lt tt j
  | 0, u, _, h => by rw [List.length_eq_zero_iff.mp h]; exact List.mem_singleton.mpr rfl
  | j + 1, u, hu, h => by
    have hne : u ≠ [] := by intro e; rw [e] at h; cases h
    obtain ⟨z, c, rfl⟩ : ∃ z c, u = z ++ [c] := ⟨u.dropLast, u.getLast hne, (List.dropLast_concat_getLast hne).symm⟩
    have ih := mem_lev (lt := lt) j (u := z) (fun x hx => hu x (List.mem_append_left _ hx)) (by simpa using h)
    refine List.mem_flatMap.mpr ⟨z, ih, List.mem_filter.mpr ⟨List.mem_map.mpr ⟨c, hu c (by simp), rfl⟩, rfl⟩⟩
theorem mem_subsN {lt : Nat} : ∀ (j : Nat) {u : List Nat}, (∀ c ∈ u, c ∈ lets lt) → u.length ≤ j → u ∈ subsN lt tt j
  | 0, u, _, h => by rw [List.length_eq_zero_iff.mp (Nat.le_zero.mp h)]; exact List.mem_singleton.mpr rfl
  | j + 1, u, hu, h => by
    rw [subsN]
    by_cases e : u.length = j + 1
    · exact List.mem_append_right _ (mem_lev _ hu e)
    · exact List.mem_append_left _ (mem_subsN j hu (by omega))
theorem sub_len : ∀ (a b : List (List Nat)), a.Nodup → (∀ x ∈ a, x ∈ b) → a.length ≤ b.length
  | [], b, _, _ => Nat.zero_le _
  | x :: a, b, n, h => by
    have hn := List.nodup_cons.mp n
    have hx := h x List.mem_cons_self
    have ih := sub_len a (b.erase x) hn.2 fun y hy => (List.mem_erase_of_ne (fun e => hn.1 (by rw [← e]; exact hy))).mpr (h y (List.mem_cons_of_mem _ hy))
    rw [List.length_erase_of_mem hx] at ih
    have := List.length_pos_of_mem hx
    rw [List.length_cons]
    omega
theorem few {k lt : Nat} (hk : k ≤ 3) {K : List (List Nat)} (hn : K.Nodup) (h : ∀ u ∈ K, u.length ≤ k ∧ ∀ c ∈ u, c ∈ lets lt) : K.length ≤ 81 := by
  have h1 := sub_len K (subsN lt tt k) hn fun u hu => mem_subsN k (h u hu).2 (h u hu).1
  have h2 := subsN_card (lt := lt) (P := tt) k
  have h3 : 3 ^ (k + 1) ≤ 3 ^ 4 := Nat.pow_le_pow_right (n := 3) (by omega) (by omega)
  omega
/-! the order -/
theorem leK_tot : PySem.W.TotalLe leK := PySem.W.sortLe_total (PyProof.Rows.listOrd PyProof.Rows.itemOrd) false fun s => PySem.W.keyToks (skK (S s))
theorem leK_anti {a b : List Nat} (h1 : leK a b = true) (h2 : leK b a = true) : a = b := by
  have h1 : (!(PyProof.Rows.listOrd PyProof.Rows.itemOrd).blt (PySem.W.keyToks (skK (S b))) (PySem.W.keyToks (skK (S a)))) = true := h1
  have h2 : (!(PyProof.Rows.listOrd PyProof.Rows.itemOrd).blt (PySem.W.keyToks (skK (S a))) (PySem.W.keyToks (skK (S b)))) = true := h2
  have e := (PyProof.Rows.listOrd PyProof.Rows.itemOrd).total _ _ (by simpa using h2) (by simpa using h1)
  have e : ([.inl 1, .inl ((S a).length : Int), .inl 1, .inr (S a).cps.toList, .inl 0] : List (Int ⊕ List Nat)) = [.inl 1, .inl ((S b).length : Int), .inl 1, .inr (S b).cps.toList, .inl 0] := e
  have e2 : ((S a).length : Int) = (S b).length ∧ a = b := by simpa [S] using e
  exact e2.2
theorem sort_same {a b : List (List Nat)} (h : a.Perm b) : a.mergeSort leK = b.mergeSort leK := by
  refine PySem.W.sort_one leK_tot _ _ (PySem.W.sort_pairwise leK_tot _) (PySem.W.sort_pairwise leK_tot _) fun c => ?_
  have e : PySem.W.sameRank leK c = fun x => x == c := by
    funext x
    rw [Bool.eq_iff_iff, beq_iff_eq]
    unfold PySem.W.sameRank
    rw [Bool.and_eq_true]
    constructor
    · rintro ⟨p, q⟩; first | exact leK_anti q p | exact leK_anti p q
    · rintro rfl; exact ⟨leK_tot.refl _, leK_tot.refl _⟩
  rw [e, List.filter_beq, List.filter_beq]
  congr 1
  exact ((List.mergeSort_perm a leK).trans (h.trans (List.mergeSort_perm b leK).symm)).count_eq c
end GW

namespace VS
open PySem PySem.Spec PyProof.Rows L2
theorem sDSet_def (i : Nat) (gi g : Env → R D) (c : Env) : sDSet i gi g c = (g c).st c fun d => (lift (atD i c)).st c fun q => (gi c).st c fun k => (lift (D.key k)).st c fun kk => (lift (dPut q.1 q.2 k kk d)).st c fun o => .ok .nx (c.set i (some o)) := (rfl)
end VS
namespace GW
open PySem PySem.Spec PyProof.Rows L2 VS
theorem lens {k lt : Nat} (hk : k ≤ 3) {w : List Nat} (hw : ∀ c ∈ w, c ∈ lets lt) : (scat k w).length ≤ 81 ∧ (scat k w).Nodup ∧ ∀ u ∈ scat k w, u.length ≤ k ∧ ∀ c ∈ u, c ∈ lets lt := by
  obtain ⟨h1, h2⟩ := scat_mem k [] w.length w rfl
  have h3 : ∀ u ∈ scat k w, u.length ≤ k ∧ ∀ c ∈ u, c ∈ lets lt := fun u hu => ⟨((h2 u).mp hu).1, fun c hc => hw c (((h2 u).mp hu).2.subset hc)⟩
  exact ⟨few hk h1 h3, h1, h3⟩
abbrev inB : VS.Env → Rs := (sIf (eB (eOp2 (opRel fun i j => decide (i < j)) (eFn (fLen) (eCons (eV 4) eNil)) (eV 0)))
    (sDSet 2 (eOp2 (opAdd true true) (eV 4) (eV 3)) (eC (.bl true)))
    sNil)
theorem in_step {k lt c : Nat} (hk : k ≤ 3) (W : D) {K : List (List Nat)} (hl : K.length ≤ 1000) {o : List Nat} (ho : o.length ≤ 3) :
    Nx inB [oD (ni k), oD W, dS K, oD (.str [c]), oD (.str o)] [oD (ni k), oD W, dS (i1 k c K o), oD (.str [c]), oD (.str o)] := by
  have ht : (eB (eOp2 (opRel fun i j => decide (i < j)) (eFn (fLen) (eCons (eV 4) eNil)) (eV 0))) [oD (ni k), oD W, dS K, oD (.str [c]), oD (.str o)] = .ok (decide (o.length < k)) := by
    have : fLen [.str o] = some (ni o.length) := by rw [fLen_str, if_pos (by omega)]
    simp -implicitDefEqProofs only [eB_def, eOp2_def, eFn_def, eCons_def, eNil_def, eV_def, List.getElem?_cons_zero, List.getElem?_cons_succ, ok_bind, this, lift_some, opRel_int, asB_bl]
    congr 1
    rw [Bool.eq_iff_iff, decide_eq_true_iff, decide_eq_true_iff]
    omega
  unfold i1
  by_cases h : o.length < k
  · rw [if_pos h]
    refine .yes (ht.trans (by rw [decide_eq_true h])) ?_
    unfold Nx
    rw [sDSet_def]
    have e : (eOp2 (opAdd true true) (eV 4) (eV 3)) [oD (ni k), oD W, dS K, oD (.str [c]), oD (.str o)] = .ok (.str (o ++ [c])) := by
      simp -implicitDefEqProofs only [eOp2_def, eV_def, List.getElem?_cons_zero, List.getElem?_cons_succ, ok_bind]
      rw [add_str (by rw [List.length_singleton]; omega)]; rfl
    rw [e]
    show (lift (dPut (K.map D.str) (tv K) (.str (o ++ [c])) (.inr (S (o ++ [c]))) (.bl true))).st _ _ = _
    rw [dPut_S hl]; rfl
  · rw [if_neg h]
    exact .no (ht.trans (by rw [decide_eq_false h])) .nil
theorem out_step {k lt c : Nat} (hk : k ≤ 3) (hc : c ∈ lets lt) (W : D) {K : List (List Nat)} (hn : K.Nodup) (hK : ∀ u ∈ K, u.length ≤ k ∧ ∀ c ∈ u, c ∈ lets lt) (y4 : Option O) :
    ∃ z4, Nx (sFor 4 (eIt true (eFn fListD (eCons (eL 2) eNil))) inB) [oD (ni k), oD W, dS K, oD (.str [c]), y4] [oD (ni k), oD W, dS (inn k c K K), oD (.str [c]), z4] := by
  obtain ⟨c', main, z4, rfl⟩ := forL_ex 4 inB (fun j e => ∃ z4, e = [oD (ni k), oD W, dS (inn k c K (K.take j)), oD (.str [c]), z4]) (K.map D.str) [oD (ni k), oD W, dS K, oD (.str [c]), y4] (by
    rintro j d e hd ⟨z4, rfl⟩
    rw [List.getElem?_map] at hd
    obtain ⟨q, hq, rfl⟩ := Option.map_eq_some_iff.mp hd
    obtain ⟨hj, rfl⟩ := List.getElem?_eq_some_iff.mp hq
    have hmem := List.getElem_mem hj
    have hlen : (inn k c K (K.take j)).length ≤ 81 := by
      refine few (lt := lt) hk (nodup_inn _ hn) fun u hu => ?_
      rcases (mem_inn _ _).mp hu with z | ⟨o, ho, hok, rfl⟩
      · exact hK u z
      · have := hK o (List.mem_of_mem_take ho)
        refine ⟨by rw [List.length_append, List.length_singleton]; omega, fun x hx => ?_⟩
        rcases List.mem_append.mp hx with z | z
        · exact this.2 x z
        · rw [List.mem_singleton.mp z]; exact hc
    have st := in_step (k := k) (lt := lt) (c := c) hk W (K := inn k c K (K.take j)) (by omega) (o := K[j]) (by have := (hK _ hmem).1; omega)
    refine ⟨_, st, oD (.str K[j]), ?_⟩
    have : inn k c K (K.take (j + 1)) = i1 k c (inn k c K (K.take j)) K[j] := by
      unfold inn
      rw [List.take_succ_eq_append_getElem hj, List.foldl_append]; rfl
    rw [this]) ⟨y4, rfl⟩
  rw [List.length_map, List.take_length] at main
  refine ⟨z4, .for ?_ main⟩
  show (lift (fListD [O.toD (.dic (K.map D.str) (tv K))]) >>= fun d => lift (asA true d)) = _
  have : O.toD (.dic (K.map D.str) (tv K)) = .dic (K.map D.str) (K.map fun _ => .bl true) := by
    rw [O.toD, O.toDs_map]
    unfold tv
    rw [List.map_map]
    congr 1
  rw [this]
  show lift (asA true (.lst (K.map D.str))) = _
  rw [asA_lst, if_pos (okElT _)]; rfl
theorem scat_spec {k lt : Nat} (hk : k ≤ 3) {w : List Nat} (hw : ∀ c ∈ w, c ∈ lets lt) (hl : w.length ≤ 1000) : Mscattered_words [ni k, .str w] = .ok (lS ((scat k w).mergeSort leK)) := by
  generalize hW : D.str w = W
  obtain ⟨c', main, z3, z4, rfl⟩ := forL_ex 3 (sFor 4 (eIt true (eFn fListD (eCons (eL 2) eNil))) inB) (fun j e => ∃ z3 z4, e = [oD (ni k), oD W, dS (scat k (w.take j)), z3, z4]) (w.map fun x => .str [x]) [oD (ni k), oD W, dS [[]], none, none] (by
    rintro j d e hd ⟨z3, z4, rfl⟩
    rw [List.getElem?_map] at hd
    obtain ⟨q, hq, rfl⟩ := Option.map_eq_some_iff.mp hd
    obtain ⟨hj, rfl⟩ := List.getElem?_eq_some_iff.mp hq
    obtain ⟨h1, h2, h3⟩ := lens (k := k) hk (w := w.take j) fun c hc => hw c (List.mem_of_mem_take hc)
    obtain ⟨u4, st⟩ := out_step (k := k) hk (hw _ (List.getElem_mem hj)) W h2 h3 z4
    refine ⟨_, st, oD (.str [w[j]]), u4, ?_⟩
    rw [List.take_succ_eq_append_getElem hj, scat_snoc]) ⟨none, none, rfl⟩
  rw [List.length_map, List.take_length] at main
  obtain ⟨h1, h2, h3⟩ := lens (k := k) hk hw
  unfold Mscattered_words Bscattered_words
  refine ret_of ?_
  show Ret _ [oD (ni k), oD W, none, none, none] _
  refine .seq (.setO (d := .dic ([[]].map D.str) (tv [[]])) rfl) (.seq (.for (ds := w.map fun x => .str [x]) ?_ main) (.ret ?_))
  · rw [← hW]
    show lift (asA true (.str w)) = _
    rw [asA_str, if_pos (by omega)]; rfl
  · have e : O.toD (.dic ((scat k w).map D.str) (tv (scat k w))) = .dic ((scat k w).map D.str) ((scat k w).map fun _ => .bl true) := by
      rw [O.toD, O.toDs_map]
      unfold tv
      rw [List.map_map]
      congr 1
    show ((lift (fListD [O.toD (.dic ((scat k w).map D.str) (tv (scat k w)))]) >>= fun d => R.ok [d]) >>= fun ds => lift (fSortK ds)) = _
    rw [e]
    show lift (fSortK [.lst ((scat k w).map D.str)]) = _
    have : fSortK [.lst ((scat k w).map D.str)] = some (lS ((scat k w).mergeSort leK)) := by
      show ((asSs ((scat k w).map D.str)).bind fun ss => if ss.all (fun s => decide (s.length ≤ 16777216)) then some (D.lst ((ss.mergeSort leK).map .str)) else none) = _
      rw [asSs_strs]
      show (if _ then _ else _) = _
      rw [if_pos (List.all_eq_true.mpr fun u hu => decide_eq_true (by have := (h3 u hu).1; omega))]
    rw [this]; rfl
theorem manner_spec : Mcheck_manner [.str [115, 99, 97, 116, 116, 101, 114, 101, 100]] = .ok .non := by rfl
theorem view_spec {k lt : Nat} (hk : k ≤ 3) {w : List Nat} (hw : ∀ c ∈ w, c ∈ lets lt) (hl : w.length ≤ 1000) : Mview [.str [115, 99, 97, 116, 116, 101, 114, 101, 100], ni k, ni lt, .str w] = .ok (tS ((scat k w).mergeSort leK)) := by
  have hs := scat_spec hk hw hl
  have tno : ∀ b : List Nat, Okw b → ([115, 99, 97, 116, 116, 101, 114, 101, 100] == b) = false → eB (eOp2 (opEq) (eV 0) (eC (.str b))) [oD (.str [115, 99, 97, 116, 116, 101, 114, 101, 100]), oD (ni k), oD (ni lt), oD (.str w)] = .ok false := by
    intro b hb h
    have := str_eq (a := [115, 99, 97, 116, 116, 101, 114, 101, 100]) (by unfold Okw; decide) hb
    rw [h] at this
    simp -implicitDefEqProofs only [eB_def, eOp2_def, eV_def, eC_def, List.getElem?_cons_zero, ok_bind, this, lift_some, asB_bl]
  have tyes : eB (eOp2 (opEq) (eV 0) (eC (.str [115, 99, 97, 116, 116, 101, 114, 101, 100]))) [oD (.str [115, 99, 97, 116, 116, 101, 114, 101, 100]), oD (ni k), oD (ni lt), oD (.str w)] = .ok true := by
    have := str_eq (a := [115, 99, 97, 116, 116, 101, 114, 101, 100]) (b := [115, 99, 97, 116, 116, 101, 114, 101, 100]) (by unfold Okw; decide) (by unfold Okw; decide)
    rw [beq_self_eq_true] at this
    simp -implicitDefEqProofs only [eB_def, eOp2_def, eV_def, eC_def, List.getElem?_cons_zero, ok_bind, this, lift_some, asB_bl]
  unfold Mview Bview
  refine ret_of ?_
  show Ret _ [oD (.str [115, 99, 97, 116, 116, 101, 114, 101, 100]), oD (ni k), oD (ni lt), oD (.str w)] _
  refine .seq (.expr (d := .non) ?_) (.seq (.no (tno _ (by unfold Okw; decide) (by decide)) .nil) (.seq (.no (tno _ (by unfold Okw; decide) (by decide)) .nil) (.seq (.no (tno _ (by unfold Okw; decide) (by decide)) .nil) (.seq (.no (tno _ (by unfold Okw; decide) (by decide)) .nil) (.fst (.yes tyes (.ret ?_)))))))
  · simp -implicitDefEqProofs only [eCall_def, eCons_def, eNil_def, eV_def, List.getElem?_cons_zero, ok_bind, manner_spec, noX_ok]
  · simp -implicitDefEqProofs only [eFn_def, eCall_def, eCons_def, eNil_def, eV_def, List.getElem?_cons_zero, List.getElem?_cons_succ, ok_bind, hs, noX_ok]
    show lift (fTuple true [.lst _]) = _
    rw [fTuple_lst, if_pos (okElT _)]; rfl
theorem plns_str : ∀ (n : Nat) (l : List (List Nat)), (∀ u ∈ l, Okw u) → D.plns n (l.map D.str) = true
  | n, [], _ => by rw [List.map_nil, D.plns]
  | n, u :: l, h => by
    have hu : u.all (· < 0x110000) = true := h u List.mem_cons_self
    rw [List.map_cons, D.plns, pln_str, hu, plns_str n l fun v hv => h v (List.mem_cons_of_mem _ hv)]; rfl
theorem alike_spec {k lt : Nat} (hk : k ≤ 3) {w z : List Nat} (hw : ∀ c ∈ w, c ∈ lets lt) (hz : ∀ c ∈ z, c ∈ lets lt) (hl : w.length ≤ 1000) (hm : z.length ≤ 1000) (h : Alk k w z) : Malike [.str [115, 99, 97, 116, 116, 101, 114, 101, 100], ni k, ni lt, .str w, .str z] = .ok (.bl true) := by
  have e1 := view_spec hk hw hl
  have e2 := view_spec hk hz hm
  obtain ⟨_, n1, m1⟩ := lens (k := k) hk hw
  obtain ⟨_, n2, m2⟩ := lens (k := k) hk hz
  have hp : (scat k w).Perm (scat k z) := by
    refine (List.perm_ext_iff_of_nodup n1 n2).mpr fun u => ?_
    rw [(scat_mem k [] _ w rfl).2 u, (scat_mem k [] _ z rfl).2 u]
    exact ⟨fun ⟨a, b⟩ => ⟨a, (h u a).mp b⟩, fun ⟨a, b⟩ => ⟨a, (h u a).mpr b⟩⟩
  rw [← sort_same hp] at e2
  have hpl : D.pln 64 (tS ((scat k w).mergeSort leK)) = true := by
    unfold tS
    rw [pln_tup]
    refine plns_str _ _ fun u hu => okw_lets (m1 u ?_).2
    exact (List.mergeSort_perm _ _).mem_iff.mp hu
  generalize tS ((scat k w).mergeSort leK) = T at e1 e2 hpl
  unfold Malike Balike
  refine ret_of (.ret ?_)
  show (eOp2 _ _ _) [oD (.str [115, 99, 97, 116, 116, 101, 114, 101, 100]), oD (ni k), oD (ni lt), oD (.str w), oD (.str z)] = _
  simp -implicitDefEqProofs only [eOp2_def, eCall_def, eCons_def, eNil_def, eV_def, List.getElem?_cons_zero, List.getElem?_cons_succ, ok_bind, e1, e2, noX_ok, opEq_self hpl, lift_some]
end GW

namespace GW
open PySem PySem.Spec PyProof.Rows L2 VS
theorem opNe_self {d : D} (h : D.pln 64 d = true) : opNe d d = some (.bl false) := by simp [opNe, h, eqv_self 64 d h]
theorem sm_tri {C : List Nat} {lt : Nat} (hC : ∀ c ∈ C, c ∈ lets lt) {t : Tri} (h : OkT C t) (n : Nat) : Sm (n + 1) (triD t) := by
  refine .tup _ (by simp) fun d hd => ?_
  rcases List.mem_cons.mp hd with rfl | hd
  · exact .str _ (okw_lets fun c hc => hC c (h.a c hc))
  · rcases List.mem_cons.mp hd with rfl | hd
    · exact .str _ (okw_lets fun c hc => hC c ((h.u c).mp hc))
    · rw [List.mem_singleton.mp hd]
      exact .str _ (okw_lets fun c hc => hC c (h.b c hc))
theorem sm_stp {lt : Nat} {s : Stp} (h : OkS lt s) (n : Nat) : Sm (n + 2) (stpD s) := by
  cases s with
  | lt k =>
    refine .tup _ (by simp) fun d hd => ?_
    rcases List.mem_cons.mp hd with rfl | hd
    · exact .str _ (by decide)
    · rw [List.mem_singleton.mp hd]; exact .int _
  | st x y =>
    obtain ⟨C, hC, hx, hy⟩ := h
    refine .tup _ (by simp) fun d hd => ?_
    rcases List.mem_cons.mp hd with rfl | hd
    · exact .str _ (by decide)
    · rcases List.mem_cons.mp hd with rfl | hd
      · exact sm_tri hC hx n
      · rw [List.mem_singleton.mp hd]; exact sm_tri hC hy n
theorem pln_tS {l : List (List Nat)} (h : ∀ u ∈ l, Okw u) : D.pln 64 (tS l) = true := by
  unfold tS
  rw [pln_tup]
  exact plns_str _ _ h
theorem two {l : List Int} (h : l.length = 3) : ∃ a b c, l = [a, b, c] := by
  match l, h with
  | [a, b, c], _ => exact ⟨a, b, c, rfl⟩
abbrev turnB : VS.Env → Rs := (sSeq (sSet 5 (eFn (fList true) (eCons (eV 3) eNil)))
    (sSeq (sSet 6 (eFn fTup (eCons (eCall MLmade (eCons (eV 3) (eCons (eC (.int 1)) (eCons (eV 4) eNil)))) (eCons (eCall MLmade (eCons (eV 3) (eCons (eC (.int 2)) (eCons (eV 4) eNil)))) eNil))))
    (sSeq (sIf (tOr' (tNot' (eTru (eCall MLsame (eCons (eCall Mbond_words (eCons (eV 5) (eCons (eV 4) eNil))) (eCons (eV 6) eNil))))) (tNot' (eTru (eCall MLsame (eCons (eV 5) (eCons (eV 3) eNil))))))
    (sRet (eC (.bl false)))
    sNil)
    (sIf (eB (eOp2 (opRel fun i j => decide (i < j)) (eV 4) (eC (.int 4))))
    (sSeq (sIf (eB (eOp2 (opNe) (eCall MLsubwords (eCons (eV 4) (eCons (eV 2) (eCons (eOp2 (opIx true) (eV 6) (eC (.int 0))) eNil)))) (eCall MLsubwords (eCons (eV 4) (eCons (eV 2) (eCons (eOp2 (opIx true) (eV 6) (eC (.int 1))) eNil))))))
    (sRet (eC (.bl false)))
    sNil)
    (sIf (eB (eOp2 (opIsntB) (eCall Malike (eCons (eC (.str [115, 99, 97, 116, 116, 101, 114, 101, 100])) (eCons (eV 4) (eCons (eV 2) (eCons (eOp2 (opIx true) (eV 6) (eC (.int 0))) (eCons (eOp2 (opIx true) (eV 6) (eC (.int 1))) eNil)))))) (eC (.bl true))))
    (sRet (eC (.bl false)))
    sNil))
    sNil))))
theorem turn_ok (Ns Sh : D) {lt : Nat} (h1 : 1 ≤ lt) (h3 : lt ≤ 3) {ss : List Stp} (hl : ss.length ≤ 4) (hss : ∀ s ∈ ss, OkS lt s) {n : Nat} (hn : n ≤ 4) (x5 x6 : Option O) :
    ∃ z5 z6, Nx turnB [oD Ns, oD Sh, oD (ni lt), oD (.lst (ss.map stpD)), oD (ni n), x5, x6] [oD Ns, oD Sh, oD (ni lt), oD (.lst (ss.map stpD)), oD (ni n), z5, z6] := by
  have m1 := made_spec (n := n) h3 true hn hss (by omega)
  have m2 := made_spec (n := n) h3 false hn hss (by omega)
  have bw := bond_spec (n := n) h3 hn hss (by omega)
  obtain ⟨w1, l1⟩ := mk_lets (n := n) h3 true hss
  obtain ⟨w2, l2⟩ := mk_lets (n := n) h3 false hss
  have al := fun k (hk : k ≤ n) => mk_alk (k := k) hk hss
  have lm := Nat.mul_le_mul hl (show 6 + n * 6 ≤ 30 by omega)
  have hsm : MLsame [.lst (ss.map stpD), .lst (ss.map stpD)] = .ok (.bl true) := Lsame_ok (.lst _ (by rw [List.length_map]; omega) fun d hd => by
    obtain ⟨s, hs, rfl⟩ := List.mem_map.mp hd
    exact sm_stp (hss s hs) 60)
  have hfl : fList true [.lst (ss.map stpD)] = some (.lst (ss.map stpD)) := by rw [fList_lst, if_pos (okElT _)]
  generalize D.lst (ss.map stpD) = SS at m1 m2 bw hsm hfl ⊢
  generalize mk true n ss = w at m1 bw w1 l1 al
  generalize mk false n ss = z at m2 bw w2 l2 al
  have m1 : MLmade [SS, .int 1, ni n] = .ok (.str w) := m1
  have m2 : MLmade [SS, .int 2, ni n] = .ok (.str z) := m2
  have okw := okw_lets w1
  have okz := okw_lets w2
  have hsd : MLsame [.tup [.str w, .str z], .tup [.str w, .str z]] = .ok (.bl true) := Lsame_ok (.tup _ (by simp) fun d hd => by
    rcases List.mem_cons.mp hd with rfl | hd
    · exact .str _ okw
    · rw [List.mem_singleton.mp hd]; exact .str _ okz)
  have d0 : opIx true (.tup [.str w, .str z]) (.int 0) = some (.str w) := rfl
  have d1 : opIx true (.tup [.str w, .str z]) (.int 1) = some (.str z) := rfl
  have dt : fTup [.str w, .str z] = some (.tup [.str w, .str z]) := rfl
  generalize D.tup [.str w, .str z] = DUE at bw hsd d0 d1 dt
  refine ⟨oD SS, oD DUE, .seq (.set (d := SS) ?_) (.seq (.set (d := DUE) ?_) (.seq (.no ?_ .nil) ?_))⟩
  · simp -implicitDefEqProofs only [eFn_def, eCons_def, eNil_def, eV_def, List.getElem?_cons_zero, List.getElem?_cons_succ, ok_bind, hfl, lift_some]
  · show (eFn _ _) [oD Ns, oD Sh, oD (ni lt), oD SS, oD (ni n), oD SS, x6] = _
    simp -implicitDefEqProofs only [eFn_def, eCall_def, eC_def, eCons_def, eNil_def, eV_def, List.getElem?_cons_zero, List.getElem?_cons_succ, ok_bind, m1, m2, noX_ok, dt, lift_some]
  · show (tOr' _ _) [oD Ns, oD Sh, oD (ni lt), oD SS, oD (ni n), oD SS, oD DUE] = _
    simp -implicitDefEqProofs only [tOr_def, tNot_def, eTru_def, eCall_def, eCons_def, eNil_def, eV_def, List.getElem?_cons_zero, List.getElem?_cons_succ, ok_bind, bw, noX_ok, hsd, hsm, truD_bl, lift_some]
    rfl
  · show Nx (sIf _ _ _) [oD Ns, oD Sh, oD (ni lt), oD SS, oD (ni n), oD SS, oD DUE] _
    have ht : (eB (eOp2 (opRel fun i j => decide (i < j)) (eV 4) (eC (.int 4)))) [oD Ns, oD Sh, oD (ni lt), oD SS, oD (ni n), oD SS, oD DUE] = .ok (decide (n < 4)) := by
      simp -implicitDefEqProofs only [eB_def, eOp2_def, eC_def, eV_def, List.getElem?_cons_zero, List.getElem?_cons_succ, ok_bind, opRel_int, lift_some, asB_bl]
      congr 1
      rw [Bool.eq_iff_iff, decide_eq_true_iff, decide_eq_true_iff]
      omega
    by_cases h4 : n < 4
    · refine .yes (ht.trans (by rw [decide_eq_true h4])) (.seq (.no ?_ .nil) (.no ?_ .nil))
      · have s1 := subwords_spec (k := n) (lt := lt) (by omega) okw (by omega)
        have s2 := subwords_spec (k := n) (lt := lt) (by omega) okz (by omega)
        rw [← subs_alk (lt := lt) (al n (Nat.le_refl n))] at s2
        have hp := pln_tS (l := subs n lt w) fun u hu => subsN_ok _ hu
        generalize tS (subs n lt w) = T at s1 s2 hp
        simp -implicitDefEqProofs only [eB_def, eOp2_def, eCall_def, eC_def, eCons_def, eNil_def, eV_def, List.getElem?_cons_zero, List.getElem?_cons_succ, ok_bind, d0, d1, lift_some, s1, s2, noX_ok, opNe_self hp, asB_bl]
      · have ak := alike_spec (k := n) (lt := lt) (by omega) w1 w2 (by omega) (by omega) (al n (Nat.le_refl n))
        simp -implicitDefEqProofs only [eB_def, eOp2_def, eCall_def, eC_def, eCons_def, eNil_def, eV_def, List.getElem?_cons_zero, List.getElem?_cons_succ, ok_bind, d0, d1, lift_some, ak, noX_ok]
        rfl
    · exact .no (ht.trans (by rw [decide_eq_false h4])) .nil
theorem law_ok (ns : List Int) : Mlaw [.lst (ns.map D.int)] = .ok (.bl true) := by
  obtain ⟨l0, e0, hl0, hx0⟩ := Ldraws_spec ns 0 3 5040 (by omega) (by omega) (by omega)
  obtain ⟨p, hp, hpl⟩ := nat_list hx0
  rw [hp] at e0
  rw [hl0] at hpl
  have s0 := pk (p := p) 0 (by omega)
  have s1 := pk (p := p) 1 (by omega)
  generalize p[0] = a at s0
  generalize p[1] = b at s1
  have ha3 : a % 3 < 3 := Nat.mod_lt _ (by omega)
  have hb5 : b % 5 < 5 := Nat.mod_lt _ (by omega)
  generalize hlt : 1 + a % 3 = lt
  have h1 : 1 ≤ lt := by omega
  have h3 : lt ≤ 3 := by omega
  obtain ⟨ss, e1, hsl, hss⟩ := drawn_spec ns (lt := lt) (cnt := b % 5) h1 h3 (by omega)
  generalize hNs : D.lst (ns.map D.int) = Ns at e0 e1 ⊢
  generalize D.lst (p.map ni) = Sh at e0 s0 s1
  have e0 : MLdraws [Ns, .int 0, .int 3, .int 5040] = .ok Sh := e0
  have e1 : MLdrawn_steps [Ns, .int 1, ni lt, ni (b % 5)] = .ok (.lst (ss.map stpD)) := e1
  obtain ⟨c', main, z4, z5, z6, rfl⟩ := forL_ex 4 turnB (fun j c => ∃ z4 z5 z6, c = [oD Ns, oD Sh, oD (ni lt), oD (.lst (ss.map stpD)), z4, z5, z6]) (([1, 2, 3, 4] : List Nat).map ni) [oD Ns, oD Sh, oD (ni lt), oD (.lst (ss.map stpD)), none, none, none] (by
    rintro j d c hd ⟨z4, z5, z6, rfl⟩
    rw [List.getElem?_map] at hd
    obtain ⟨n, hq, rfl⟩ := Option.map_eq_some_iff.mp hd
    have hn : n ≤ 4 := by
      have := List.mem_of_getElem? hq
      simp at this
      omega
    obtain ⟨u5, u6, hN⟩ := turn_ok Ns Sh h1 h3 hsl hss hn z5 z6
    exact ⟨_, hN, oD (ni n), u5, u6, rfl⟩) ⟨none, none, none, rfl⟩
  unfold Mlaw Blaw
  refine ret_of ?_
  show Ret _ [oD Ns, none, none, none, none, none, none] _
  refine .seq (.set (d := Sh) ?_) (.seq (.set (d := ni lt) ?_) (.seq (.set (d := .lst (ss.map stpD)) ?_) (.seq (.for (ds := ([1, 2, 3, 4] : List Nat).map ni) rfl main) (.ret rfl))))
  · simp -implicitDefEqProofs only [eCall_def, eCons_def, eNil_def, eV_def, eC_def, List.getElem?_cons_zero, ok_bind, e0, noX_ok]
  · show (eOp2 _ _ _) [oD Ns, oD Sh, none, none, none, none, none] = _
    simp -implicitDefEqProofs only [eOp2_def, eV_def, eC_def, List.getElem?_cons_zero, List.getElem?_cons_succ, ok_bind]
    rw [show opIx true Sh (.int 0) = _ from s0, lift_some, ok_bind, show opMod (ni a) (.int 3) = _ from nat_mod a 3 (by omega), lift_some, ok_bind, show opAdd true true (.int 1) (ni (a % 3)) = _ from add_nat 1 _, hlt, lift_some]
  · show (eCall _ _) [oD Ns, oD Sh, oD (ni lt), none, none, none, none] = _
    simp -implicitDefEqProofs only [eCall_def, eCons_def, eNil_def, eOp2_def, eV_def, eC_def, List.getElem?_cons_zero, List.getElem?_cons_succ, ok_bind]
    rw [show opIx true Sh (.int 1) = _ from s1, lift_some, ok_bind, show opMod (ni b) (.int 5) = _ from nat_mod b 5 (by omega), lift_some]
    simp -implicitDefEqProofs only [ok_bind, e1, noX_ok]
end GW

set_option maxHeartbeats 8000000
/-! the walk of law_k79_words_of_bonds, printed by vsgen.py -/
namespace GW
open PySem PySem.Spec PyProof.Rows L2 VS
def topS (i : Nat) : Stmt := PySem.Challenge.pw_viewedwords_k79_words_of_bonds.main.body.getD i (.Pass ⟨0, 0, 0, 0⟩)
theorem u1 {A : Around} {k : Nat} (hr : Room k A) : A.units + 1 < cLine := by have := hr.un; omega
theorem u65 {A : Around} {k : Nat} (hr : Room k A) : A.units + 65 < cLine := by have := hr.un; omega
/-! ### _law_number -/
abbrev sLnumber : Stmt := topS 24
abbrev nLnumber : List Str := ["script", "k", "number"]
theorem scLnumber : FnScope nLnumber ["script", "k"] (defScope sLnumber) := ⟨rfl, rfl, rfl, by decide +kernel, rfl, by decide +kernel, by decide +kernel⟩
theorem ndLnumber : (nLnumber : List Str).Nodup := scLnumber.nd
/-! ### _law_draws -/
abbrev sLdraws : Stmt := topS 25
abbrev nLdraws : List Str := ["script", "k", "count", "many", "number", "found", "at", "state", "other"]
theorem scLdraws : FnScope nLdraws ["script", "k", "count", "many"] (defScope sLdraws) := ⟨rfl, rfl, rfl, by decide +kernel, rfl, by decide +kernel, by decide +kernel⟩
theorem ndLdraws : (nLdraws : List Str).Nodup := scLdraws.nd
/-! ### _law_drawn_steps -/
abbrev sLdrawn_steps : Stmt := topS 29
abbrev nLdrawn_steps : List Str := ["script", "k", "letters", "count", "steps", "j", "picks", "chosen", "words", "side", "spare", "turned", "around", "index", "pick"]
theorem scLdrawn_steps : FnScope nLdrawn_steps ["script", "k", "letters", "count"] (defScope sLdrawn_steps) := ⟨rfl, rfl, rfl, by decide +kernel, rfl, by decide +kernel, by decide +kernel⟩
theorem ndLdrawn_steps : (nLdrawn_steps : List Str).Nodup := scLdrawn_steps.nd
/-! ### _law_made -/
abbrev sLmade : Stmt := topS 28
abbrev nLmade : List Str := ["steps", "side", "count", "word", "step"]
theorem scLmade : FnScope nLmade ["steps", "side", "count"] (defScope sLmade) := ⟨rfl, rfl, rfl, by decide +kernel, rfl, by decide +kernel, by decide +kernel⟩
theorem ndLmade : (nLmade : List Str).Nodup := scLmade.nd
/-! ### _law_same -/
abbrev sLsame : Stmt := topS 23
abbrev nLsame : List Str := ["told", "due", "k"]
theorem scLsame : FnScope nLsame ["told", "due"] (defScope sLsame) := ⟨rfl, rfl, rfl, by decide +kernel, rfl, by decide +kernel, by decide +kernel⟩
theorem ndLsame : (nLsame : List Str).Nodup := scLsame.nd
/-! ### _law_scattered -/
abbrev sLscattered : Stmt := topS 26
abbrev nLscattered : List Str := ["word", "text", "at", "letter"]
theorem scLscattered : FnScope nLscattered ["word", "text"] (defScope sLscattered) := ⟨rfl, rfl, rfl, by decide +kernel, rfl, by decide +kernel, by decide +kernel⟩
theorem ndLscattered : (nLscattered : List Str).Nodup := scLscattered.nd
/-! ### _law_subwords -/
abbrev sLsubwords : Stmt := topS 27
abbrev nLsubwords : List Str := ["k", "letters", "word", "found", "level", "j", "longer", "begun", "letter"]
theorem scLsubwords : FnScope nLsubwords ["k", "letters", "word"] (defScope sLsubwords) := ⟨rfl, rfl, rfl, by decide +kernel, rfl, by decide +kernel, by decide +kernel⟩
theorem ndLsubwords : (nLsubwords : List Str).Nodup := scLsubwords.nd
/-! ### check_manner -/
abbrev scheck_manner : Stmt := topS 11
abbrev ncheck_manner : List Str := ["manner"]
theorem sccheck_manner : FnScope ncheck_manner ["manner"] (defScope scheck_manner) := ⟨rfl, rfl, rfl, by decide +kernel, rfl, by decide +kernel, by decide +kernel⟩
theorem ndcheck_manner : (ncheck_manner : List Str).Nodup := sccheck_manner.nd
/-! ### counts_view -/
abbrev scounts_view : Stmt := topS 19
abbrev ncounts_view : List Str := ["k", "letters", "word", "letter"]
theorem sccounts_view : FnScope ncounts_view ["k", "letters", "word"] (defScope scounts_view) := ⟨rfl, rfl, rfl, by decide +kernel, rfl, by decide +kernel, by decide +kernel⟩
theorem ndcounts_view : (ncounts_view : List Str).Nodup := sccounts_view.nd
/-! ### last_letters -/
abbrev slast_letters : Stmt := topS 12
abbrev nlast_letters : List Str := ["k", "word"]
theorem sclast_letters : FnScope nlast_letters ["k", "word"] (defScope slast_letters) := ⟨rfl, rfl, rfl, by decide +kernel, rfl, by decide +kernel, by decide +kernel⟩
theorem ndlast_letters : (nlast_letters : List Str).Nodup := sclast_letters.nd
/-! ### ends_view -/
abbrev sends_view : Stmt := topS 14
abbrev nends_view : List Str := ["k", "word"]
theorem scends_view : FnScope nends_view ["k", "word"] (defScope sends_view) := ⟨rfl, rfl, rfl, by decide +kernel, rfl, by decide +kernel, by decide +kernel⟩
theorem ndends_view : (nends_view : List Str).Nodup := scends_view.nd
/-! ### stretches -/
abbrev sstretches : Stmt := topS 13
abbrev nstretches : List Str := ["k", "word", "start"]
theorem scstretches : FnScope nstretches ["k", "word"] (defScope sstretches) := ⟨rfl, rfl, rfl, by decide +kernel, rfl, by decide +kernel, by decide +kernel⟩
theorem ndstretches : (nstretches : List Str).Nodup := scstretches.nd
/-! ### slit_view -/
abbrev sslit_view : Stmt := topS 15
abbrev nslit_view : List Str := ["k", "word"]
theorem scslit_view : FnScope nslit_view ["k", "word"] (defScope sslit_view) := ⟨rfl, rfl, rfl, by decide +kernel, rfl, by decide +kernel, by decide +kernel⟩
theorem ndslit_view : (nslit_view : List Str).Nodup := scslit_view.nd
/-! ### without_repeats -/
abbrev swithout_repeats : Stmt := topS 16
abbrev nwithout_repeats : List Str := ["row", "found", "item"]
theorem scwithout_repeats : FnScope nwithout_repeats ["row"] (defScope swithout_repeats) := ⟨rfl, rfl, rfl, by decide +kernel, rfl, by decide +kernel, by decide +kernel⟩
theorem ndwithout_repeats : (nwithout_repeats : List Str).Nodup := scwithout_repeats.nd
/-! ### short_key -/
abbrev sshort_key : Stmt := topS 5
abbrev nshort_key : List Str := ["word"]
theorem scshort_key : FnScope nshort_key ["word"] (defScope sshort_key) := ⟨rfl, rfl, rfl, by decide +kernel, rfl, by decide +kernel, by decide +kernel⟩
theorem ndshort_key : (nshort_key : List Str).Nodup := scshort_key.nd
/-! ### scattered_words -/
abbrev sscattered_words : Stmt := topS 6
abbrev nscattered_words : List Str := ["k", "word", "found", "letter", "other"]
theorem scscattered_words : FnScope nscattered_words ["k", "word"] (defScope sscattered_words) := ⟨rfl, rfl, rfl, by decide +kernel, rfl, by decide +kernel, by decide +kernel⟩
theorem ndscattered_words : (nscattered_words : List Str).Nodup := scscattered_words.nd
/-! ### rising_view -/
abbrev srising_view : Stmt := topS 17
abbrev nrising_view : List Str := ["k", "word", "row", "length"]
theorem scrising_view : FnScope nrising_view ["k", "word"] (defScope srising_view) := ⟨rfl, rfl, rfl, by decide +kernel, rfl, by decide +kernel, by decide +kernel⟩
theorem ndrising_view : (nrising_view : List Str).Nodup := scrising_view.nd
/-! ### falling_view -/
abbrev sfalling_view : Stmt := topS 18
abbrev nfalling_view : List Str := ["k", "word", "row", "length"]
theorem scfalling_view : FnScope nfalling_view ["k", "word"] (defScope sfalling_view) := ⟨rfl, rfl, rfl, by decide +kernel, rfl, by decide +kernel, by decide +kernel⟩
theorem ndfalling_view : (nfalling_view : List Str).Nodup := scfalling_view.nd
/-! ### view -/
abbrev sview : Stmt := topS 20
abbrev nview : List Str := ["manner", "k", "letters", "word"]
theorem scview : FnScope nview ["manner", "k", "letters", "word"] (defScope sview) := ⟨rfl, rfl, rfl, by decide +kernel, rfl, by decide +kernel, by decide +kernel⟩
theorem ndview : (nview : List Str).Nodup := scview.nd
/-! ### alike -/
abbrev salike : Stmt := topS 21
abbrev nalike : List Str := ["manner", "k", "letters", "first", "second"]
theorem scalike : FnScope nalike ["manner", "k", "letters", "first", "second"] (defScope salike) := ⟨rfl, rfl, rfl, by decide +kernel, rfl, by decide +kernel, by decide +kernel⟩
theorem ndalike : (nalike : List Str).Nodup := scalike.nd
/-! ### bond_words -/
abbrev sbond_words : Stmt := topS 8
abbrev nbond_words : List Str := ["steps", "count", "one", "two", "step"]
theorem scbond_words : FnScope nbond_words ["steps", "count"] (defScope sbond_words) := ⟨rfl, rfl, rfl, by decide +kernel, rfl, by decide +kernel, by decide +kernel⟩
theorem ndbond_words : (nbond_words : List Str).Nodup := scbond_words.nd
/-! ### law -/
abbrev slaw : Stmt := topS 30
abbrev nlaw : List Str := ["script", "shape", "letters", "steps", "count", "given", "due"]
theorem sclaw : FnScope nlaw ["script"] (defScope slaw) := ⟨rfl, rfl, rfl, by decide +kernel, rfl, by decide +kernel, by decide +kernel⟩
theorem ndlaw : (nlaw : List Str).Nodup := sclaw.nd
/-! ### the text -/
structure Txt (K : PySem.W.Frag) (mg : Str → Option Value) : Prop where
  d_Lnumber : Def K mg "_law_number" sLnumber
  d_Ldraws : Def K mg "_law_draws" sLdraws
  d_Ldrawn_steps : Def K mg "_law_drawn_steps" sLdrawn_steps
  d_Lmade : Def K mg "_law_made" sLmade
  d_Lsame : Def K mg "_law_same" sLsame
  d_Lscattered : Def K mg "_law_scattered" sLscattered
  d_Lsubwords : Def K mg "_law_subwords" sLsubwords
  d_check_manner : Def K mg "check_manner" scheck_manner
  d_counts_view : Def K mg "counts_view" scounts_view
  d_last_letters : Def K mg "last_letters" slast_letters
  d_ends_view : Def K mg "ends_view" sends_view
  d_stretches : Def K mg "stretches" sstretches
  d_slit_view : Def K mg "slit_view" sslit_view
  d_without_repeats : Def K mg "without_repeats" swithout_repeats
  d_short_key : Def K mg "short_key" sshort_key
  d_scattered_words : Def K mg "scattered_words" sscattered_words
  d_rising_view : Def K mg "rising_view" srising_view
  d_falling_view : Def K mg "falling_view" sfalling_view
  d_view : Def K mg "view" sview
  d_alike : Def K mg "alike" salike
  d_bond_words : Def K mg "bond_words" sbond_words
  d_law : Def K mg "law" slaw
  z_abs : mg "abs" = none
  z_bool : mg "bool" = none
  z_int : mg "int" = none
  z_isinstance : mg "isinstance" = none
  z_len : mg "len" = none
  z_list : mg "list" = none
  z_max : mg "max" = none
  z_min : mg "min" = none
  z_range : mg "range" = none
  z_sorted : mg "sorted" = none
  z_str : mg "str" = none
  z_sum : mg "sum" = none
  z_tuple : mg "tuple" = none
  k_LETTERS : ∃ t, mg "LETTERS" = some (.str "abc" t)
  k_MANNERS : ∃ a od n sl t0 t1 t2 t3 t4 t5 t6 t7, mg "MANNERS" = some (.ref a) ∧ K.lookup a = some ⟨.type "tuple", od, .seq #[.str "last" t0, .str "first" t1, .str "ends" t2, .str "slit" t3, .str "scattered" t4, .str "rising" t5, .str "falling" t6, .str "counts" t7] n, sl⟩
variable {P : Program} {w : World} {K : PySem.W.Frag} {mg : Str → Option Value} {base : Heap}
theorem Txt.c_LETTERS {X : Cx} {W : VS.WX} {pos : Pos} (T : Txt X.K X.mg) (hg : Gl X "LETTERS") : PX X W true (.Name "LETTERS" pos) (eC (.str [97, 98, 99])) := by
  obtain ⟨t, h⟩ := T.k_LETTERS
  exact px_glob (v := .str (S [97, 98, 99])) (fun _ => .str _) h ⟨t, congrArg (fun z => Value.str z t) (by decide +kernel : ("abc" : Str) = S [97, 98, 99])⟩ hg
theorem Txt.c_MANNERS {X : Cx} {W : VS.WX} {pos : Pos} (T : Txt X.K X.mg) (hg : Gl X "MANNERS") : PX X W true (.Name "MANNERS" pos) (eC ((.tup [(.str [108, 97, 115, 116]), (.str [102, 105, 114, 115, 116]), (.str [101, 110, 100, 115]), (.str [115, 108, 105, 116]), (.str [115, 99, 97, 116, 116, 101, 114, 101, 100]), (.str [114, 105, 115, 105, 110, 103]), (.str [102, 97, 108, 108, 105, 110, 103]), (.str [99, 111, 117, 110, 116, 115])]))) := by
  obtain ⟨a, od, n, sl, t0, t1, t2, t3, t4, t5, t6, t7, h, hl⟩ := T.k_MANNERS
  exact px_glob (v := .ref a) (fun _ => rp_tupK hl (Nat.le_of_ble_eq_true rfl) (tk_cons (by decide +kernel) (tk_cons (by decide +kernel) (tk_cons (by decide +kernel) (tk_cons (by decide +kernel) (tk_cons (by decide +kernel) (tk_cons (by decide +kernel) (tk_cons (by decide +kernel) (tk_cons (by decide +kernel) (tk_nil)))))))))) h rfl hg
theorem okLnumber (T : Txt K mg)  : Cal P w K mg base 1 "_law_number" ["script", "k"] MLnumber :=
  cal_of T.d_Lnumber scLnumber (fun _ _ _ _ _ _ us hl => match us, hl with | [_, _], _ => rfl) fun f cdv A outer s H E hr =>
    (pxs_cons (pxs_set 2 (px_op op_addD ok_add (px_op (op_mul.or op_mulS) ok_mul (px_fn (cr_sum rfl) ok_sum T.z_sum (pxa_cons (px_v 0) pxa_nil)) px_int) (px_op (op_mul.or op_mulS) ok_mul px_int (px_op op_addD ok_add (px_v 1) px_int))) ndLnumber)
    (pxs_cons (pxs_if (pxt_cmp op_lt (ok_rel (f := fun i j => decide (i < j))) (px_v 1) (px_fn call_lenA ok_len T.z_len (pxa_cons (px_v 0) pxa_nil)) (nomark _))
    (pxs_one (pxs_set 2 (px_ix (px_v 0) (px_v 1)) ndLnumber))
    pxs_nil)
    (pxs_one (pxs_ret (px_fn call_abs ok_abs T.z_abs (pxa_cons (px_v 2) pxa_nil))))))
theorem okLdraws (T : Txt K mg) (CLnumber : Cal P w K mg base 1 "_law_number" ["script", "k"] MLnumber) : Cal P w K mg base 2 "_law_draws" ["script", "k", "count", "many"] MLdraws :=
  cal_of T.d_Ldraws scLdraws (fun _ _ _ _ _ _ us hl => match us, hl with | [_, _, _, _], _ => rfl) fun f cdv A outer s H E hr =>
    (pxs_cons (pxs_set 4 (px_callC CLnumber hr (by decide) (pxa_cons (px_v 0) (pxa_cons (px_v 1) pxa_nil)) (fun _ _ => (len_cons fun _ => (len_cons fun _ => len_nil)))) ndLdraws)
    (pxs_cons (pxs_setO 5 (pf_lst pxa_nil) ndLdraws)
    (pxs_cons (pxs_if (pxt_cmp op_ge (ok_rel (f := fun i j => decide (j ≤ i))) (px_v 4) (px_op op_pow ok_pow px_int px_int) (nomark _))
    (pxs_cons (pxs_set 4 (px_op op_sub ok_sub (px_v 4) (px_op op_pow ok_pow px_int px_int)) ndLdraws)
    (pxs_cons (pxs_for 6 PassesOwn.never rfl (src_r1 (b' := true) T.z_range (px_v 2))
    (pxs_cons (pxs_app 5 (px_op op_mod ok_mod (px_v 4) (px_v 3)))
    (pxs_one (pxs_set 4 (px_op op_fdiv ok_div (px_v 4) (px_v 3)) ndLdraws))) ndLdraws)
    (pxs_one (pxs_fz 5 (pxs_ret (px_v 5))))))
    pxs_nil)
    (pxs_cons (pxs_set 7 (px_op op_addD ok_add (px_op op_mod ok_mod (px_v 4) px_int) px_int) ndLdraws)
    (pxs_cons (pxs_for 6 PassesOwn.never rfl (src_r1 (b' := true) T.z_range (px_v 2))
    (pxs_cons (pxs_set 7 (px_op op_mod ok_mod (px_op op_addD ok_add (px_op op_addD ok_add (px_op (op_mul.or op_mulS) ok_mul (px_v 7) px_int) (px_op (op_mul.or op_mulS) ok_mul px_int (px_v 6))) px_int) px_int) ndLdraws)
    (pxs_cons (pxs_set 8 (px_op op_mod ok_mod (px_op op_addD ok_add (px_op op_addD ok_add (px_op (op_mul.or op_mulS) ok_mul (px_v 7) (px_v 7)) (px_op (op_mul.or op_mulS) ok_mul px_int (px_v 6))) px_int) px_int) ndLdraws)
    (pxs_one (pxs_app 5 (px_op op_mod ok_mod (px_op op_fdiv ok_div (px_v 8) px_int) (px_v 3)))))) ndLdraws)
    (pxs_one (pxs_fz 5 (pxs_ret (px_v 5)))))))))
theorem okLdrawn_steps (T : Txt K mg) (CLdraws : Cal P w K mg base 2 "_law_draws" ["script", "k", "count", "many"] MLdraws) : Cal P w K mg base 3 "_law_drawn_steps" ["script", "k", "letters", "count"] MLdrawn_steps :=
  cal_of T.d_Ldrawn_steps scLdrawn_steps (fun _ _ _ _ _ _ us hl => match us, hl with | [_, _, _, _], _ => rfl) fun f cdv A outer s H E hr =>
    (pxs_cons (pxs_setO 4 (pf_lst pxa_nil) ndLdrawn_steps)
    (pxs_cons (pxs_for 5 PassesOwn.never rfl (src_r1 (b' := true) T.z_range (px_v 3))
    (pxs_cons (pxs_set 6 (px_callC CLdraws hr (by decide) (pxa_cons (px_v 0) (pxa_cons (px_op op_addD ok_add (px_v 1) (px_v 5)) (pxa_cons px_int (pxa_cons px_int pxa_nil)))) (fun _ _ => (len_cons fun _ => (len_cons fun _ => (len_cons fun _ => (len_cons fun _ => len_nil)))))) ndLdrawn_steps)
    (pxs_one (pxs_if (pxt_cmp (op_eqD hr.units) ok_eq (px_op op_mod ok_mod (px_ix (px_v 6) px_int) px_int) px_int (nomark _))
    (pxs_one (pxs_app 4 (px_tup (pxa_cons (px_str [108, 101, 116, 116, 101, 114]) (pxa_cons (px_op op_mod ok_mod (px_ix (px_v 6) px_int) (px_v 2)) pxa_nil)))))
    (pxs_cons (pxs_set 7 (px_lc 13 rfl ndLdrawn_steps (src_r1 (b' := true) T.z_range (px_v 2)) (blkOk_by (own := [("index", 13)]) (N := nLdrawn_steps) (by kernel_rfl)) (fun _ _ _ _ _ => pg_name (i := 13) ndLdrawn_steps rfl (by first | exact Or.inl rfl | exact Or.inr rfl)) (fun _ _ _ _ _ => (pxts_one (pxt_cmp (op_eqD hr.units) ok_eq (px_op op_and (ok_bit (f := Builtin.bitAnd)) (px_op op_shr ok_shr (px_op op_addD ok_add px_int (px_op op_mod ok_mod (px_ix (px_v 6) px_int) (px_op op_sub ok_sub (px_op op_shl ok_shl px_int (px_v 2)) px_int))) (px_v 13)) px_int) px_int (nomark _)))) (fun _ _ _ _ _ => (px_ix (px_str [97, 98, 99]) (px_v 13)))) ndLdrawn_steps)
    (pxs_cons (pxs_setO 8 (pf_lst pxa_nil) ndLdrawn_steps)
    (pxs_cons (pxs_for 9 PassesOwn.never rfl (src_r1 (b' := true) T.z_range px_int)
    (pxs_cons (pxs_setLc 10 14 rfl ndLdrawn_steps (sw_true rfl rfl rfl (by decide +kernel)) (src_any (px_sl (px_v 6) (pxo_some (px_op op_addD ok_add px_int (px_op (op_mul.or op_mulS) ok_mul px_int (px_v 9)))) (pxo_some (px_op op_addD ok_add px_int (px_op (op_mul.or op_mulS) ok_mul px_int (px_v 9)))))) (blkOk_by (own := [("pick", 14)]) (N := nLdrawn_steps) (by kernel_rfl)) (fun _ _ _ _ _ => pg_name (i := 14) ndLdrawn_steps rfl (by first | exact Or.inl rfl | exact Or.inr rfl)) (fun _ _ _ _ _ => pxts_nil) (fun _ _ _ _ _ => (px_ix (px_v 7) (px_op op_mod ok_mod (px_v 14) (px_fn call_lenA ok_len T.z_len (pxa_cons (px_v 7) pxa_nil))))))
    (pxs_cons (pxs_set 11 (px_step (px_v 7) (px_op op_sub ok_sub px_int (px_op (op_mul.or op_mulS) ok_mul px_int (px_op op_mod ok_mod (px_op op_fdiv ok_div (px_ix (px_v 6) px_int) (px_op op_addD ok_add px_int (px_v 9))) px_int)))) ndLdrawn_steps)
    (pxs_cons (pxs_set 12 (px_ms PySem.F.slot_str_join PySem.F.type_str_join mt_join ok_join (px_str []) (pxa_cons (px_v 10) pxa_nil)) ndLdrawn_steps)
    (pxs_one (pxs_app 8 (px_tup (pxa_cons (px_sl (px_v 12) pxo_no (pxo_some (px_op op_mod ok_mod (px_ix (px_v 6) px_int) px_int))) (pxa_cons (px_op op_addD ok_add (px_ms PySem.F.slot_str_join PySem.F.type_str_join mt_join ok_join (px_str []) (pxa_cons (px_v 11) pxa_nil)) (px_sl (px_v 12) (pxo_some px_int) (pxo_some (px_op op_addD ok_add px_int (px_op op_mod ok_mod (px_ix (px_v 6) px_int) px_int))))) (pxa_cons (px_sl (px_v 12) (pxo_some px_int) (pxo_some (px_op op_addD ok_add px_int (px_op op_mod ok_mod (px_ix (px_v 6) px_int) px_int)))) pxa_nil))))))))) ndLdrawn_steps)
    (pxs_one (pxs_app 4 (px_tup (pxa_cons (px_str [115, 101, 116]) (pxa_cons (px_ixo 8 px_int) (pxa_cons (px_ixo 8 px_int) pxa_nil)))))))))))) ndLdrawn_steps)
    (pxs_one (pxs_fz 4 (pxs_ret (px_v 4))))))
theorem okLmade (T : Txt K mg)  : Cal P w K mg base 1 "_law_made" ["steps", "side", "count"] MLmade :=
  cal_of T.d_Lmade scLmade (fun _ _ _ _ _ _ us hl => match us, hl with | [_, _, _], _ => rfl) fun f cdv A outer s H E hr =>
    (pxs_cons (pxs_set 3 (px_str []) ndLmade)
    (pxs_cons (pxs_for 4 PassesOwn.never rfl (src_any (px_v 0))
    (pxs_one (pxs_if (pxt_cmp (op_eqD hr.units) ok_eq (px_ix (px_v 4) px_int) (px_str [108, 101, 116, 116, 101, 114]) (nomark _))
    (pxs_one (pxs_set 3 (px_op op_addD ok_add (px_v 3) (px_ix (px_str [97, 98, 99]) (px_ix (px_v 4) px_int))) ndLmade))
    (pxs_one (pxs_set 3 (px_op op_addD ok_add (px_op op_addD ok_add (px_op op_addD ok_add (px_v 3) (px_ix (px_ix (px_v 4) (px_v 1)) px_int)) (px_op (op_mul.or op_mulS) ok_mul (px_ix (px_ix (px_v 4) (px_v 1)) px_int) (px_v 2))) (px_ix (px_ix (px_v 4) (px_v 1)) px_int)) ndLmade)))) ndLmade)
    (pxs_one (pxs_ret (px_v 3)))))
theorem okLsameN (T : Txt K mg)  : ∀ n, Cal P w K mg base (0 + n) "_law_same" ["told", "due"] (MLsameN n)
  | 0 => cal_stuck T.d_Lsame (fun _ _ _ _ _ _ us hl => match us, hl with | [_, _], _ => rfl)
  | n + 1 => by
    have CLsame := okLsameN T  n
    exact cal_of T.d_Lsame scLsame (fun _ _ _ _ _ _ us hl => match us, hl with | [_, _], _ => rfl) fun f cdv A outer s H E hr =>
    (pxs_cons (pxs_if (PXW.pt (pxw_or (pxt_truth (px_is .bool (px_v 1) T.z_isinstance T.z_bool)) (pxw_or1 (pxt_truth (px_is .bool (px_v 0) T.z_isinstance T.z_bool)))))
    (pxs_one (pxs_ret (px_and (px_is .bool (px_v 1) T.z_isinstance T.z_bool) (px_and (px_is .bool (px_v 0) T.z_isinstance T.z_bool) (px_one (px_cmp (op_eqD hr.units) ok_eq (px_v 0) (px_v 1) (nomark _)))))))
    pxs_nil)
    (pxs_cons (pxs_if (PXW.pt (pxw_or (pxt_cmp op_isN ok_is (px_v 1) px_non (nomark _)) (pxw_or1 (pxt_truth (px_is .int (px_v 1) T.z_isinstance T.z_int)))))
    (pxs_one (pxs_ret (px_and (px_cmp (op_eqD hr.units) ok_eq (px_v 0) (px_v 1) (nomark _)) (px_one (px_or (px_cmp op_isN ok_is (px_v 1) px_non (nomark _)) (px_one (px_is .int (px_v 0) T.z_isinstance T.z_int)))))))
    pxs_nil)
    (pxs_cons (pxs_if (pxt_truth (px_is .str (px_v 1) T.z_isinstance T.z_str))
    (pxs_one (pxs_ret (px_and (px_is .str (px_v 0) T.z_isinstance T.z_str) (px_one (px_cmp (op_eqD hr.units) ok_eq (px_v 0) (px_v 1) (nomark _))))))
    pxs_nil)
    (pxs_cons (pxs_if (PXW.pt (pxw_or (pxt_cmp (op_neD hr.units) ok_ne (px_is .list (px_v 1) T.z_isinstance T.z_list) (px_is .list (px_v 0) T.z_isinstance T.z_list) (nomark _)) (pxw_or1 (pxt_cmp (op_neD hr.units) ok_ne (px_is .tuple (px_v 1) T.z_isinstance T.z_tuple) (px_is .tuple (px_v 0) T.z_isinstance T.z_tuple) (nomark _)))))
    (pxs_one (pxs_ret px_bl))
    pxs_nil)
    (pxs_cons (pxs_if (pxt_cmp (op_neD hr.units) ok_ne (px_fn call_lenA ok_len T.z_len (pxa_cons (px_v 0) pxa_nil)) (px_fn call_lenA ok_len T.z_len (pxa_cons (px_v 1) pxa_nil)) (nomark _))
    (pxs_one (pxs_ret px_bl))
    pxs_nil)
    (pxs_cons (pxs_for 2 PassesOwn.never rfl (src_r1 (b' := true) T.z_range (px_fn call_lenA ok_len T.z_len (pxa_cons (px_v 1) pxa_nil)))
    (pxs_one (pxs_if (pxt_not (pxt_truth (px_callC CLsame hr (Nat.le_refl _) (pxa_cons (px_ix (px_v 0) (px_v 2)) (pxa_cons (px_ix (px_v 1) (px_v 2)) pxa_nil)) (fun _ _ => (len_cons fun _ => (len_cons fun _ => len_nil))))))
    (pxs_one (pxs_ret px_bl))
    pxs_nil)) ndLsame)
    (pxs_one (pxs_ret px_bl))))))))
theorem okLsame (T : Txt K mg)  : Cal P w K mg base 64 "_law_same" ["told", "due"] MLsame := okLsameN T  64
theorem okLscattered (T : Txt K mg)  : Cal P w K mg base 1 "_law_scattered" ["word", "text"] MLscattered :=
  cal_of T.d_Lscattered scLscattered (fun _ _ _ _ _ _ us hl => match us, hl with | [_, _], _ => rfl) fun f cdv A outer s H E hr =>
    (pxs_cons (pxs_set 2 px_int ndLscattered)
    (pxs_cons (pxs_for 3 PassesOwn.never rfl (src_any (px_v 1))
    (pxs_one (pxs_if (PXW.pt (pxw_and (pxt_cmp op_lt (ok_rel (f := fun i j => decide (i < j))) (px_v 2) (px_fn call_lenA ok_len T.z_len (pxa_cons (px_v 0) pxa_nil)) (nomark _)) (pxw_and1 (pxt_cmp (op_eqD hr.units) ok_eq (px_ix (px_v 0) (px_v 2)) (px_v 3) (nomark _)))))
    (pxs_one (pxs_set 2 (px_op op_addD ok_add (px_v 2) px_int) ndLscattered))
    pxs_nil)) ndLscattered)
    (pxs_one (pxs_ret (px_cmp (op_eqD hr.units) ok_eq (px_v 2) (px_fn call_lenA ok_len T.z_len (pxa_cons (px_v 0) pxa_nil)) (nomark _))))))
theorem okLsubwords (T : Txt K mg) (CLscattered : Cal P w K mg base 1 "_law_scattered" ["word", "text"] MLscattered) : Cal P w K mg base 2 "_law_subwords" ["k", "letters", "word"] MLsubwords :=
  cal_of T.d_Lsubwords scLsubwords (fun _ _ _ _ _ _ us hl => match us, hl with | [_, _, _], _ => rfl) fun f cdv A outer s H E hr =>
    (pxs_cons (pxs_set 3 (px_lst (pxa_cons (px_str []) pxa_nil)) ndLsubwords)
    (pxs_cons (pxs_set 4 (px_lst (pxa_cons (px_str []) pxa_nil)) ndLsubwords)
    (pxs_cons (pxs_for 5 PassesOwn.never rfl (src_r1 (b' := true) T.z_range (px_fn (call_min2 rfl) ok_min2 T.z_min (pxa_cons (px_v 0) (pxa_cons (px_fn call_lenA ok_len T.z_len (pxa_cons (px_v 2) pxa_nil)) pxa_nil))))
    (pxs_cons (pxs_setO 6 (pf_lst pxa_nil) ndLsubwords)
    (pxs_cons (pxs_for 7 PassesOwn.never rfl (src_any (px_v 4))
    (pxs_one (pxs_for 8 PassesOwn.never rfl (src_any (px_sl (px_str [97, 98, 99]) pxo_no (pxo_some (px_v 1))))
    (pxs_one (pxs_if (pxt_truth (px_callC CLscattered hr (by decide) (pxa_cons (px_op op_addD ok_add (px_v 7) (px_v 8)) (pxa_cons (px_v 2) pxa_nil)) (fun _ _ => (len_cons fun _ => (len_cons fun _ => len_nil)))))
    (pxs_one (pxs_app 6 (px_op op_addD ok_add (px_v 7) (px_v 8))))
    pxs_nil)) ndLsubwords)) ndLsubwords)
    (pxs_cons (pxs_set 3 (px_op op_addD ok_add (px_v 3) (px_l 6)) ndLsubwords)
    (pxs_one (pxs_fz 6 (pxs_set 4 (px_v 6) ndLsubwords)))))) ndLsubwords)
    (pxs_one (pxs_ret (px_ty call_tuple_of ok_tuple T.z_tuple (pxa_cons (px_v 3) pxa_nil)))))))
theorem okcheck_manner (T : Txt K mg)  : Cal P w K mg base 1 "check_manner" ["manner"] Mcheck_manner :=
  cal_of T.d_check_manner sccheck_manner (fun _ _ _ _ _ _ us hl => match us, hl with | [_], _ => rfl) fun f cdv A outer s H E hr =>
    (pxs_one (pxs_if (pxt_cmp (op_notInX (u65 hr)) ok_notInS (px_v 0) (T.c_MANNERS (by rfl)) (by rfl))
    (pxs_one pxs_no)
    pxs_nil))
theorem okcounts_view (T : Txt K mg)  : Cal P w K mg base 1 "counts_view" ["k", "letters", "word"] Mcounts_view :=
  cal_of T.d_counts_view sccounts_view (fun _ _ _ _ _ _ us hl => match us, hl with | [_, _, _], _ => rfl) fun f cdv A outer s H E hr =>
    (pxs_one pxs_no)
theorem oklast_letters (T : Txt K mg)  : Cal P w K mg base 1 "last_letters" ["k", "word"] Mlast_letters :=
  cal_of T.d_last_letters sclast_letters (fun _ _ _ _ _ _ us hl => match us, hl with | [_, _], _ => rfl) fun f cdv A outer s H E hr =>
    (pxs_one (pxs_ret (px_sl (px_v 1) (pxo_some (px_fn (call_max2 rfl) ok_max2 T.z_max (pxa_cons px_int (pxa_cons (px_op op_sub ok_sub (px_fn call_lenA ok_len T.z_len (pxa_cons (px_v 1) pxa_nil)) (px_v 0)) pxa_nil)))) pxo_no)))
theorem okends_view (T : Txt K mg) (Clast_letters : Cal P w K mg base 1 "last_letters" ["k", "word"] Mlast_letters) : Cal P w K mg base 2 "ends_view" ["k", "word"] Mends_view :=
  cal_of T.d_ends_view scends_view (fun _ _ _ _ _ _ us hl => match us, hl with | [_, _], _ => rfl) fun f cdv A outer s H E hr =>
    (pxs_cons (pxs_if (pxt_cmp op_lt (ok_rel (f := fun i j => decide (i < j))) (px_fn call_lenA ok_len T.z_len (pxa_cons (px_v 1) pxa_nil)) (px_v 0) (nomark _))
    (pxs_one (pxs_ret (px_v 1)))
    pxs_nil)
    (pxs_one (pxs_ret (px_tup (pxa_cons (px_sl (px_v 1) pxo_no (pxo_some (px_v 0))) (pxa_cons (px_callC Clast_letters hr (by decide) (pxa_cons (px_v 0) (pxa_cons (px_v 1) pxa_nil)) (fun _ _ => (len_cons fun _ => (len_cons fun _ => len_nil)))) pxa_nil))))))
theorem okstretches (T : Txt K mg)  : Cal P w K mg base 1 "stretches" ["k", "word"] Mstretches :=
  cal_of T.d_stretches scstretches (fun _ _ _ _ _ _ us hl => match us, hl with | [_, _], _ => rfl) fun f cdv A outer s H E hr =>
    (pxs_one pxs_no)
theorem okslit_view (T : Txt K mg) (Clast_letters : Cal P w K mg base 1 "last_letters" ["k", "word"] Mlast_letters) (Cstretches : Cal P w K mg base 1 "stretches" ["k", "word"] Mstretches) : Cal P w K mg base 2 "slit_view" ["k", "word"] Mslit_view :=
  cal_of T.d_slit_view scslit_view (fun _ _ _ _ _ _ us hl => match us, hl with | [_, _], _ => rfl) fun f cdv A outer s H E hr =>
    (pxs_cons (pxs_if (pxt_cmp (op_eqD hr.units) ok_eq (px_v 0) px_int (nomark _))
    (pxs_one (pxs_ret (px_str [])))
    pxs_nil)
    (pxs_cons (pxs_if (pxt_cmp op_lt (ok_rel (f := fun i j => decide (i < j))) (px_fn call_lenA ok_len T.z_len (pxa_cons (px_v 1) pxa_nil)) (px_v 0) (nomark _))
    (pxs_one (pxs_ret (px_v 1)))
    pxs_nil)
    (pxs_one (pxs_ret (px_tup (pxa_cons (px_sl (px_v 1) pxo_no (pxo_some (px_op op_sub ok_sub (px_v 0) px_int))) (pxa_cons (px_callC Clast_letters hr (by decide) (pxa_cons (px_op op_sub ok_sub (px_v 0) px_int) (pxa_cons (px_v 1) pxa_nil)) (fun _ _ => (len_cons fun _ => (len_cons fun _ => len_nil)))) (pxa_cons (px_callC Cstretches hr (by decide) (pxa_cons (px_v 0) (pxa_cons (px_v 1) pxa_nil)) (fun _ _ => (len_cons fun _ => (len_cons fun _ => len_nil)))) pxa_nil))))))))
theorem okwithout_repeats (T : Txt K mg)  : Cal P w K mg base 1 "without_repeats" ["row"] Mwithout_repeats :=
  cal_of T.d_without_repeats scwithout_repeats (fun _ _ _ _ _ _ us hl => match us, hl with | [_], _ => rfl) fun f cdv A outer s H E hr =>
    (pxs_cons (pxs_setO 1 (pf_lst pxa_nil) ndwithout_repeats)
    (pxs_cons (pxs_for 2 PassesOwn.never rfl (src_any (px_v 0))
    (pxs_one (pxs_if (PXW.pt (pxw_or (pxt_cmp (op_eqD hr.units) ok_eq (px_fn call_lenA ok_len T.z_len (pxa_cons (px_l 1) pxa_nil)) px_int (nomark _)) (pxw_or1 (pxt_cmp (op_neD hr.units) ok_ne (px_ixo 1 (px_neg px_int)) (px_v 2) (nomark _)))))
    (pxs_one (pxs_app 1 (px_v 2)))
    pxs_nil)) ndwithout_repeats)
    (pxs_one (pxs_ret (px_ty call_tuple_of ok_tuple T.z_tuple (pxa_cons (px_l 1) pxa_nil))))))
theorem okshort_key (T : Txt K mg)  : Cal P w K mg base 1 "short_key" ["word"] Mshort_key :=
  cal_of T.d_short_key scshort_key (fun _ _ _ _ _ _ us hl => match us, hl with | [_], _ => rfl) fun f cdv A outer s H E hr =>
    (pxs_one (pxs_ret (px_tup (pxa_cons (px_fn call_lenA ok_len T.z_len (pxa_cons (px_v 0) pxa_nil)) (pxa_cons (px_v 0) pxa_nil)))))
theorem okscattered_words (T : Txt K mg)  : Cal P w K mg base 1 "scattered_words" ["k", "word"] Mscattered_words :=
  cal_of T.d_scattered_words scscattered_words (fun _ _ _ _ _ _ us hl => match us, hl with | [_, _], _ => rfl) fun f cdv A outer s H E hr =>
    (pxs_cons (pxs_setO 2 (pf_d1 (kc_str []) vc_bl rfl fun _ => .bl _) ndscattered_words)
    (pxs_cons (pxs_for 3 PassesOwn.never rfl (src_any (px_v 1))
    (pxs_one (pxs_for 4 PassesOwn.never rfl (src_any (px_ty (call_listD rfl) ok_listD T.z_list (pxa_cons (px_l 2) pxa_nil)))
    (pxs_one (pxs_if (pxt_cmp op_lt (ok_rel (f := fun i j => decide (i < j))) (px_fn call_lenA ok_len T.z_len (pxa_cons (px_v 4) pxa_nil)) (px_v 0) (nomark _))
    (pxs_one (pxs_dset 2 (u1 hr) px_bl (px_op op_addD ok_add (px_v 4) (px_v 3))))
    pxs_nil)) ndscattered_words)) ndscattered_words)
    (pxs_one (pxs_ret (px_sortK T.d_short_key ⟨⟨_, _, _, _, _, _, _, _, rfl, rfl, rfl⟩⟩ T.z_len hr T.z_sorted (pxa_cons (px_ty (call_listD rfl) ok_listD T.z_list (pxa_cons (px_l 2) pxa_nil)) pxa_nil))))))
theorem okrising_view (T : Txt K mg) (Cscattered_words : Cal P w K mg base 1 "scattered_words" ["k", "word"] Mscattered_words) (Cwithout_repeats : Cal P w K mg base 1 "without_repeats" ["row"] Mwithout_repeats) : Cal P w K mg base 2 "rising_view" ["k", "word"] Mrising_view :=
  cal_of T.d_rising_view scrising_view (fun _ _ _ _ _ _ us hl => match us, hl with | [_, _], _ => rfl) fun f cdv A outer s H E hr =>
    (pxs_cons (pxs_setLc 2 3 rfl ndrising_view (sw_true rfl rfl rfl (by decide +kernel)) (src_r1 (b' := true) T.z_range (px_op op_addD ok_add (px_fn call_lenA ok_len T.z_len (pxa_cons (px_v 1) pxa_nil)) px_int)) (blkOk_by (own := [("length", 3)]) (N := nrising_view) (by kernel_rfl)) (fun _ _ _ _ _ => pg_name (i := 3) ndrising_view rfl (by first | exact Or.inl rfl | exact Or.inr rfl)) (fun _ _ _ _ _ => pxts_nil) (fun _ _ _ _ _ => (px_ty call_tuple_of ok_tuple T.z_tuple (pxa_cons (px_callC Cscattered_words hr (by decide) (pxa_cons (px_v 0) (pxa_cons (px_sl (px_v 1) pxo_no (pxo_some (px_v 3))) pxa_nil)) (fun _ _ => (len_cons fun _ => (len_cons fun _ => len_nil)))) pxa_nil))))
    (pxs_one (pxs_ret (px_callC Cwithout_repeats hr (by decide) (pxa_cons (px_v 2) pxa_nil) (fun _ _ => (len_cons fun _ => len_nil))))))
theorem okfalling_view (T : Txt K mg) (Cscattered_words : Cal P w K mg base 1 "scattered_words" ["k", "word"] Mscattered_words) (Cwithout_repeats : Cal P w K mg base 1 "without_repeats" ["row"] Mwithout_repeats) : Cal P w K mg base 2 "falling_view" ["k", "word"] Mfalling_view :=
  cal_of T.d_falling_view scfalling_view (fun _ _ _ _ _ _ us hl => match us, hl with | [_, _], _ => rfl) fun f cdv A outer s H E hr =>
    (pxs_cons (pxs_setLc 2 3 rfl ndfalling_view (sw_true rfl rfl rfl (by decide +kernel)) (src_r1 (b' := true) T.z_range (px_op op_addD ok_add (px_fn call_lenA ok_len T.z_len (pxa_cons (px_v 1) pxa_nil)) px_int)) (blkOk_by (own := [("length", 3)]) (N := nfalling_view) (by kernel_rfl)) (fun _ _ _ _ _ => pg_name (i := 3) ndfalling_view rfl (by first | exact Or.inl rfl | exact Or.inr rfl)) (fun _ _ _ _ _ => pxts_nil) (fun _ _ _ _ _ => (px_ty call_tuple_of ok_tuple T.z_tuple (pxa_cons (px_callC Cscattered_words hr (by decide) (pxa_cons (px_v 0) (pxa_cons (px_sl (px_v 1) (pxo_some (px_op op_sub ok_sub (px_fn call_lenA ok_len T.z_len (pxa_cons (px_v 1) pxa_nil)) (px_v 3))) pxo_no) pxa_nil)) (fun _ _ => (len_cons fun _ => (len_cons fun _ => len_nil)))) pxa_nil))))
    (pxs_one (pxs_ret (px_callC Cwithout_repeats hr (by decide) (pxa_cons (px_v 2) pxa_nil) (fun _ _ => (len_cons fun _ => len_nil))))))
theorem okview (T : Txt K mg) (Ccheck_manner : Cal P w K mg base 1 "check_manner" ["manner"] Mcheck_manner) (Clast_letters : Cal P w K mg base 1 "last_letters" ["k", "word"] Mlast_letters) (Cends_view : Cal P w K mg base 2 "ends_view" ["k", "word"] Mends_view) (Cslit_view : Cal P w K mg base 2 "slit_view" ["k", "word"] Mslit_view) (Cscattered_words : Cal P w K mg base 1 "scattered_words" ["k", "word"] Mscattered_words) (Crising_view : Cal P w K mg base 2 "rising_view" ["k", "word"] Mrising_view) (Cfalling_view : Cal P w K mg base 2 "falling_view" ["k", "word"] Mfalling_view) (Ccounts_view : Cal P w K mg base 1 "counts_view" ["k", "letters", "word"] Mcounts_view) : Cal P w K mg base 3 "view" ["manner", "k", "letters", "word"] Mview :=
  cal_of T.d_view scview (fun _ _ _ _ _ _ us hl => match us, hl with | [_, _, _, _], _ => rfl) fun f cdv A outer s H E hr =>
    (pxs_cons (pxs_expr (px_callC Ccheck_manner hr (by decide) (pxa_cons (px_v 0) pxa_nil) (fun _ _ => (len_cons fun _ => len_nil))))
    (pxs_cons (pxs_if (pxt_cmp (op_eqD hr.units) ok_eq (px_v 0) (px_str [108, 97, 115, 116]) (nomark _))
    (pxs_one (pxs_ret (px_callC Clast_letters hr (by decide) (pxa_cons (px_v 1) (pxa_cons (px_v 3) pxa_nil)) (fun _ _ => (len_cons fun _ => (len_cons fun _ => len_nil))))))
    pxs_nil)
    (pxs_cons (pxs_if (pxt_cmp (op_eqD hr.units) ok_eq (px_v 0) (px_str [102, 105, 114, 115, 116]) (nomark _))
    (pxs_one (pxs_ret (px_sl (px_v 3) pxo_no (pxo_some (px_v 1)))))
    pxs_nil)
    (pxs_cons (pxs_if (pxt_cmp (op_eqD hr.units) ok_eq (px_v 0) (px_str [101, 110, 100, 115]) (nomark _))
    (pxs_one (pxs_ret (px_callC Cends_view hr (by decide) (pxa_cons (px_v 1) (pxa_cons (px_v 3) pxa_nil)) (fun _ _ => (len_cons fun _ => (len_cons fun _ => len_nil))))))
    pxs_nil)
    (pxs_cons (pxs_if (pxt_cmp (op_eqD hr.units) ok_eq (px_v 0) (px_str [115, 108, 105, 116]) (nomark _))
    (pxs_one (pxs_ret (px_callC Cslit_view hr (by decide) (pxa_cons (px_v 1) (pxa_cons (px_v 3) pxa_nil)) (fun _ _ => (len_cons fun _ => (len_cons fun _ => len_nil))))))
    pxs_nil)
    (pxs_cons (pxs_if (pxt_cmp (op_eqD hr.units) ok_eq (px_v 0) (px_str [115, 99, 97, 116, 116, 101, 114, 101, 100]) (nomark _))
    (pxs_one (pxs_ret (px_ty call_tuple_of ok_tuple T.z_tuple (pxa_cons (px_callC Cscattered_words hr (by decide) (pxa_cons (px_v 1) (pxa_cons (px_v 3) pxa_nil)) (fun _ _ => (len_cons fun _ => (len_cons fun _ => len_nil)))) pxa_nil))))
    pxs_nil)
    (pxs_cons (pxs_if (pxt_cmp (op_eqD hr.units) ok_eq (px_v 0) (px_str [114, 105, 115, 105, 110, 103]) (nomark _))
    (pxs_one (pxs_ret (px_callC Crising_view hr (by decide) (pxa_cons (px_v 1) (pxa_cons (px_v 3) pxa_nil)) (fun _ _ => (len_cons fun _ => (len_cons fun _ => len_nil))))))
    pxs_nil)
    (pxs_cons (pxs_if (pxt_cmp (op_eqD hr.units) ok_eq (px_v 0) (px_str [102, 97, 108, 108, 105, 110, 103]) (nomark _))
    (pxs_one (pxs_ret (px_callC Cfalling_view hr (by decide) (pxa_cons (px_v 1) (pxa_cons (px_v 3) pxa_nil)) (fun _ _ => (len_cons fun _ => (len_cons fun _ => len_nil))))))
    pxs_nil)
    (pxs_one (pxs_ret (px_callC Ccounts_view hr (by decide) (pxa_cons (px_v 1) (pxa_cons (px_v 2) (pxa_cons (px_v 3) pxa_nil))) (fun _ _ => (len_cons fun _ => (len_cons fun _ => (len_cons fun _ => len_nil)))))))))))))))
theorem okalike (T : Txt K mg) (Cview : Cal P w K mg base 3 "view" ["manner", "k", "letters", "word"] Mview) : Cal P w K mg base 4 "alike" ["manner", "k", "letters", "first", "second"] Malike :=
  cal_of T.d_alike scalike (fun _ _ _ _ _ _ us hl => match us, hl with | [_, _, _, _, _], _ => rfl) fun f cdv A outer s H E hr =>
    (pxs_one (pxs_ret (px_cmp (op_eqD hr.units) ok_eq (px_callC Cview hr (by decide) (pxa_cons (px_v 0) (pxa_cons (px_v 1) (pxa_cons (px_v 2) (pxa_cons (px_v 3) pxa_nil)))) (fun _ _ => (len_cons fun _ => (len_cons fun _ => (len_cons fun _ => (len_cons fun _ => len_nil)))))) (px_callC Cview hr (by decide) (pxa_cons (px_v 0) (pxa_cons (px_v 1) (pxa_cons (px_v 2) (pxa_cons (px_v 4) pxa_nil)))) (fun _ _ => (len_cons fun _ => (len_cons fun _ => (len_cons fun _ => (len_cons fun _ => len_nil)))))) (nomark _))))
theorem okbond_words (T : Txt K mg)  : Cal P w K mg base 1 "bond_words" ["steps", "count"] Mbond_words :=
  cal_of T.d_bond_words scbond_words (fun _ _ _ _ _ _ us hl => match us, hl with | [_, _], _ => rfl) fun f cdv A outer s H E hr =>
    (pxs_cons (pxs_set 2 (px_str []) ndbond_words)
    (pxs_cons (pxs_set 3 (px_str []) ndbond_words)
    (pxs_cons (pxs_for 4 PassesOwn.never rfl (src_any (px_v 0))
    (pxs_one (pxs_if (pxt_cmp (op_eqD hr.units) ok_eq (px_ix (px_v 4) px_int) (px_str [108, 101, 116, 116, 101, 114]) (nomark _))
    (pxs_cons (pxs_set 2 (px_op op_addD ok_add (px_v 2) (px_ix (T.c_LETTERS (by rfl)) (px_ix (px_v 4) px_int))) ndbond_words)
    (pxs_one (pxs_set 3 (px_op op_addD ok_add (px_v 3) (px_ix (T.c_LETTERS (by rfl)) (px_ix (px_v 4) px_int))) ndbond_words)))
    (pxs_cons (pxs_set 2 (px_op op_addD ok_add (px_op op_addD ok_add (px_op op_addD ok_add (px_v 2) (px_ix (px_ix (px_v 4) px_int) px_int)) (px_op (op_mul.or op_mulS) ok_mul (px_ix (px_ix (px_v 4) px_int) px_int) (px_v 1))) (px_ix (px_ix (px_v 4) px_int) px_int)) ndbond_words)
    (pxs_one (pxs_set 3 (px_op op_addD ok_add (px_op op_addD ok_add (px_op op_addD ok_add (px_v 3) (px_ix (px_ix (px_v 4) px_int) px_int)) (px_op (op_mul.or op_mulS) ok_mul (px_ix (px_ix (px_v 4) px_int) px_int) (px_v 1))) (px_ix (px_ix (px_v 4) px_int) px_int)) ndbond_words))))) ndbond_words)
    (pxs_one (pxs_ret (px_tup (pxa_cons (px_v 2) (pxa_cons (px_v 3) pxa_nil))))))))
theorem oklaw {f : Addr} {fd : FuncData} (F : Fun K "law" "law" slaw f fd) (T : Txt K mg) (CLdraws : Cal P w K mg base 2 "_law_draws" ["script", "k", "count", "many"] MLdraws) (CLdrawn_steps : Cal P w K mg base 3 "_law_drawn_steps" ["script", "k", "letters", "count"] MLdrawn_steps) (CLmade : Cal P w K mg base 1 "_law_made" ["steps", "side", "count"] MLmade) (CLsame : Cal P w K mg base 64 "_law_same" ["told", "due"] MLsame) (Cbond_words : Cal P w K mg base 1 "bond_words" ["steps", "count"] Mbond_words) (CLsubwords : Cal P w K mg base 2 "_law_subwords" ["k", "letters", "word"] MLsubwords) (Calike : Cal P w K mg base 4 "alike" ["manner", "k", "letters", "first", "second"] Malike) : FnM P w K mg base 65 f fd ["script"] Mlaw :=
  fnm_of F sclaw fun cdv A outer s H E hr =>
    (pxs_cons (pxs_set 1 (px_callC CLdraws hr (by decide) (pxa_cons (px_v 0) (pxa_cons px_int (pxa_cons px_int (pxa_cons px_int pxa_nil)))) (fun _ _ => (len_cons fun _ => (len_cons fun _ => (len_cons fun _ => (len_cons fun _ => len_nil)))))) ndlaw)
    (pxs_cons (pxs_set 2 (px_op op_addD ok_add px_int (px_op op_mod ok_mod (px_ix (px_v 1) px_int) px_int)) ndlaw)
    (pxs_cons (pxs_set 3 (px_callC CLdrawn_steps hr (by decide) (pxa_cons (px_v 0) (pxa_cons px_int (pxa_cons (px_v 2) (pxa_cons (px_op op_mod ok_mod (px_ix (px_v 1) px_int) px_int) pxa_nil)))) (fun _ _ => (len_cons fun _ => (len_cons fun _ => (len_cons fun _ => (len_cons fun _ => len_nil)))))) ndlaw)
    (pxs_cons (pxs_for 4 PassesOwn.never rfl (src_r2 (b' := true) T.z_range px_int px_int)
    (pxs_cons (pxs_set 5 (px_ty (call_listA rfl) ok_list T.z_list (pxa_cons (px_v 3) pxa_nil)) ndlaw)
    (pxs_cons (pxs_set 6 (px_tup (pxa_cons (px_callC CLmade hr (by decide) (pxa_cons (px_v 3) (pxa_cons px_int (pxa_cons (px_v 4) pxa_nil))) (fun _ _ => (len_cons fun _ => (len_cons fun _ => (len_cons fun _ => len_nil))))) (pxa_cons (px_callC CLmade hr (by decide) (pxa_cons (px_v 3) (pxa_cons px_int (pxa_cons (px_v 4) pxa_nil))) (fun _ _ => (len_cons fun _ => (len_cons fun _ => (len_cons fun _ => len_nil))))) pxa_nil))) ndlaw)
    (pxs_cons (pxs_if (PXW.pt (pxw_or (pxt_not (pxt_truth (px_callC CLsame hr (by decide) (pxa_cons (px_callC Cbond_words hr (by decide) (pxa_cons (px_v 5) (pxa_cons (px_v 4) pxa_nil)) (fun _ _ => (len_cons fun _ => (len_cons fun _ => len_nil)))) (pxa_cons (px_v 6) pxa_nil)) (fun _ _ => (len_cons fun _ => (len_cons fun _ => len_nil)))))) (pxw_or1 (pxt_not (pxt_truth (px_callC CLsame hr (by decide) (pxa_cons (px_v 5) (pxa_cons (px_v 3) pxa_nil)) (fun _ _ => (len_cons fun _ => (len_cons fun _ => len_nil)))))))))
    (pxs_one (pxs_ret px_bl))
    pxs_nil)
    (pxs_one (pxs_if (pxt_cmp op_lt (ok_rel (f := fun i j => decide (i < j))) (px_v 4) px_int (nomark _))
    (pxs_cons (pxs_if (pxt_cmp (op_neD hr.units) ok_ne (px_callC CLsubwords hr (by decide) (pxa_cons (px_v 4) (pxa_cons (px_v 2) (pxa_cons (px_ix (px_v 6) px_int) pxa_nil))) (fun _ _ => (len_cons fun _ => (len_cons fun _ => (len_cons fun _ => len_nil))))) (px_callC CLsubwords hr (by decide) (pxa_cons (px_v 4) (pxa_cons (px_v 2) (pxa_cons (px_ix (px_v 6) px_int) pxa_nil))) (fun _ _ => (len_cons fun _ => (len_cons fun _ => (len_cons fun _ => len_nil))))) (nomark _))
    (pxs_one (pxs_ret px_bl))
    pxs_nil)
    (pxs_one (pxs_if (pxt_cmp op_notBl ok_isntB (px_callC Calike hr (by decide) (pxa_cons (px_str [115, 99, 97, 116, 116, 101, 114, 101, 100]) (pxa_cons (px_v 4) (pxa_cons (px_v 2) (pxa_cons (px_ix (px_v 6) px_int) (pxa_cons (px_ix (px_v 6) px_int) pxa_nil))))) (fun _ _ => (len_cons fun _ => (len_cons fun _ => (len_cons fun _ => (len_cons fun _ => (len_cons fun _ => len_nil))))))) px_bl (nomark _))
    (pxs_one (pxs_ret px_bl))
    pxs_nil)))
    pxs_nil))))) ndlaw)
    (pxs_one (pxs_ret px_bl))))))
theorem all {f : Addr} {fd : FuncData} (F : Fun K "law" "law" slaw f fd) (T : Txt K mg) : FnM P w K mg base 65 f fd ["script"] Mlaw := by
  have CLnumber := okLnumber (P := P) (w := w) (base := base) T 
  have CLdraws := okLdraws (P := P) (w := w) (base := base) T CLnumber
  have CLdrawn_steps := okLdrawn_steps (P := P) (w := w) (base := base) T CLdraws
  have CLmade := okLmade (P := P) (w := w) (base := base) T 
  have CLsame := okLsame (P := P) (w := w) (base := base) T 
  have CLscattered := okLscattered (P := P) (w := w) (base := base) T 
  have CLsubwords := okLsubwords (P := P) (w := w) (base := base) T CLscattered
  have Ccheck_manner := okcheck_manner (P := P) (w := w) (base := base) T 
  have Ccounts_view := okcounts_view (P := P) (w := w) (base := base) T 
  have Clast_letters := oklast_letters (P := P) (w := w) (base := base) T 
  have Cends_view := okends_view (P := P) (w := w) (base := base) T Clast_letters
  have Cstretches := okstretches (P := P) (w := w) (base := base) T 
  have Cslit_view := okslit_view (P := P) (w := w) (base := base) T Clast_letters Cstretches
  have Cwithout_repeats := okwithout_repeats (P := P) (w := w) (base := base) T 
  have Cshort_key := okshort_key (P := P) (w := w) (base := base) T 
  have Cscattered_words := okscattered_words (P := P) (w := w) (base := base) T 
  have Crising_view := okrising_view (P := P) (w := w) (base := base) T Cscattered_words Cwithout_repeats
  have Cfalling_view := okfalling_view (P := P) (w := w) (base := base) T Cscattered_words Cwithout_repeats
  have Cview := okview (P := P) (w := w) (base := base) T Ccheck_manner Clast_letters Cends_view Cslit_view Cscattered_words Crising_view Cfalling_view Ccounts_view
  have Calike := okalike (P := P) (w := w) (base := base) T Cview
  have Cbond_words := okbond_words (P := P) (w := w) (base := base) T 
  exact oklaw F T CLdraws CLdrawn_steps CLmade CLsame Cbond_words CLsubwords Calike
/-- the law, of the script alone -/
def spLaw (K : PySem.W.Frag) : Sp := fun vs H Q _ => ∃ (a : Addr) (ns : List Int), vs = [.ref a] ∧ SqL K H a (ns.map V.int) ∧ ns.length ≤ 63 ∧ Only H ∧ ∀ H', Q (.bl true) H'
theorem all_mk (hm : ∀ ns : List Int, ns.length ≤ 63 → Mlaw [.lst (ns.map D.int)] = .ok (.bl true)) {P : Program} {w : World} {K : PySem.W.Frag} {h : Heap} {mg : Str → Option Value} {fa : Addr} (X : K.In h) (G : h.Ns mainGlobals mg) (hfa : mg "law" = some (.ref fa))
    {f0 : Addr} {od0 an0 : Option Addr} {sl0 : Array (Option Value)} {oc0 kV0 dc0 pm0 cd0 ct0 : Value} {f1 : Addr} {od1 an1 : Option Addr} {sl1 : Array (Option Value)} {oc1 kV1 dc1 pm1 cd1 ct1 : Value} {f2 : Addr} {od2 an2 : Option Addr} {sl2 : Array (Option Value)} {oc2 kV2 dc2 pm2 cd2 ct2 : Value} {f3 : Addr} {od3 an3 : Option Addr} {sl3 : Array (Option Value)} {oc3 kV3 dc3 pm3 cd3 ct3 : Value} {f4 : Addr} {od4 an4 : Option Addr} {sl4 : Array (Option Value)} {oc4 kV4 dc4 pm4 cd4 ct4 : Value} {f5 : Addr} {od5 an5 : Option Addr} {sl5 : Array (Option Value)} {oc5 kV5 dc5 pm5 cd5 ct5 : Value} {f6 : Addr} {od6 an6 : Option Addr} {sl6 : Array (Option Value)} {oc6 kV6 dc6 pm6 cd6 ct6 : Value} {f7 : Addr} {od7 an7 : Option Addr} {sl7 : Array (Option Value)} {oc7 kV7 dc7 pm7 cd7 ct7 : Value} {f8 : Addr} {od8 an8 : Option Addr} {sl8 : Array (Option Value)} {oc8 kV8 dc8 pm8 cd8 ct8 : Value} {f9 : Addr} {od9 an9 : Option Addr} {sl9 : Array (Option Value)} {oc9 kV9 dc9 pm9 cd9 ct9 : Value} {f10 : Addr} {od10 an10 : Option Addr} {sl10 : Array (Option Value)} {oc10 kV10 dc10 pm10 cd10 ct10 : Value} {f11 : Addr} {od11 an11 : Option Addr} {sl11 : Array (Option Value)} {oc11 kV11 dc11 pm11 cd11 ct11 : Value} {f12 : Addr} {od12 an12 : Option Addr} {sl12 : Array (Option Value)} {oc12 kV12 dc12 pm12 cd12 ct12 : Value} {f13 : Addr} {od13 an13 : Option Addr} {sl13 : Array (Option Value)} {oc13 kV13 dc13 pm13 cd13 ct13 : Value} {f14 : Addr} {od14 an14 : Option Addr} {sl14 : Array (Option Value)} {oc14 kV14 dc14 pm14 cd14 ct14 : Value} {f15 : Addr} {od15 an15 : Option Addr} {sl15 : Array (Option Value)} {oc15 kV15 dc15 pm15 cd15 ct15 : Value} {f16 : Addr} {od16 an16 : Option Addr} {sl16 : Array (Option Value)} {oc16 kV16 dc16 pm16 cd16 ct16 : Value} {f17 : Addr} {od17 an17 : Option Addr} {sl17 : Array (Option Value)} {oc17 kV17 dc17 pm17 cd17 ct17 : Value} {f18 : Addr} {od18 an18 : Option Addr} {sl18 : Array (Option Value)} {oc18 kV18 dc18 pm18 cd18 ct18 : Value} {f19 : Addr} {od19 an19 : Option Addr} {sl19 : Array (Option Value)} {oc19 kV19 dc19 pm19 cd19 ct19 : Value} {f20 : Addr} {od20 an20 : Option Addr} {sl20 : Array (Option Value)} {oc20 kV20 dc20 pm20 cd20 ct20 : Value} {f21 : Addr} {od21 an21 : Option Addr} {sl21 : Array (Option Value)} {oc21 kV21 dc21 pm21 cd21 ct21 : Value} {t0 : Tok} {A1 : Addr} {D1 : Option Addr} {N1 : Nat} {S1 : Array (Option Value)} {t1_0 : Tok} {t1_1 : Tok} {t1_2 : Tok} {t1_3 : Tok} {t1_4 : Tok} {t1_5 : Tok} {t1_6 : Tok} {t1_7 : Tok}
    (a0 : PySem.W.nsIn K mainGlobals "_law_number" = some (some (.ref f0))) (l0 : K.lookup f0 = some ⟨oc0, od0, .func (PySem.W.fnOf "_law_number" "_law_number" (defArgs sLnumber) (defBody sLnumber) (defScope sLnumber) .none kV0 dc0 pm0 an0 cd0 ct0), sl0⟩) (c0 : PySem.W.codeIn K cd0 "_law_number" = true) (k0 : PySem.W.keepIn K (.ref f0) = true)
    (a1 : PySem.W.nsIn K mainGlobals "_law_draws" = some (some (.ref f1))) (l1 : K.lookup f1 = some ⟨oc1, od1, .func (PySem.W.fnOf "_law_draws" "_law_draws" (defArgs sLdraws) (defBody sLdraws) (defScope sLdraws) .none kV1 dc1 pm1 an1 cd1 ct1), sl1⟩) (c1 : PySem.W.codeIn K cd1 "_law_draws" = true) (k1 : PySem.W.keepIn K (.ref f1) = true)
    (a2 : PySem.W.nsIn K mainGlobals "_law_drawn_steps" = some (some (.ref f2))) (l2 : K.lookup f2 = some ⟨oc2, od2, .func (PySem.W.fnOf "_law_drawn_steps" "_law_drawn_steps" (defArgs sLdrawn_steps) (defBody sLdrawn_steps) (defScope sLdrawn_steps) .none kV2 dc2 pm2 an2 cd2 ct2), sl2⟩) (c2 : PySem.W.codeIn K cd2 "_law_drawn_steps" = true) (k2 : PySem.W.keepIn K (.ref f2) = true)
    (a3 : PySem.W.nsIn K mainGlobals "_law_made" = some (some (.ref f3))) (l3 : K.lookup f3 = some ⟨oc3, od3, .func (PySem.W.fnOf "_law_made" "_law_made" (defArgs sLmade) (defBody sLmade) (defScope sLmade) .none kV3 dc3 pm3 an3 cd3 ct3), sl3⟩) (c3 : PySem.W.codeIn K cd3 "_law_made" = true) (k3 : PySem.W.keepIn K (.ref f3) = true)
    (a4 : PySem.W.nsIn K mainGlobals "_law_same" = some (some (.ref f4))) (l4 : K.lookup f4 = some ⟨oc4, od4, .func (PySem.W.fnOf "_law_same" "_law_same" (defArgs sLsame) (defBody sLsame) (defScope sLsame) .none kV4 dc4 pm4 an4 cd4 ct4), sl4⟩) (c4 : PySem.W.codeIn K cd4 "_law_same" = true) (k4 : PySem.W.keepIn K (.ref f4) = true)
    (a5 : PySem.W.nsIn K mainGlobals "_law_scattered" = some (some (.ref f5))) (l5 : K.lookup f5 = some ⟨oc5, od5, .func (PySem.W.fnOf "_law_scattered" "_law_scattered" (defArgs sLscattered) (defBody sLscattered) (defScope sLscattered) .none kV5 dc5 pm5 an5 cd5 ct5), sl5⟩) (c5 : PySem.W.codeIn K cd5 "_law_scattered" = true) (k5 : PySem.W.keepIn K (.ref f5) = true)
    (a6 : PySem.W.nsIn K mainGlobals "_law_subwords" = some (some (.ref f6))) (l6 : K.lookup f6 = some ⟨oc6, od6, .func (PySem.W.fnOf "_law_subwords" "_law_subwords" (defArgs sLsubwords) (defBody sLsubwords) (defScope sLsubwords) .none kV6 dc6 pm6 an6 cd6 ct6), sl6⟩) (c6 : PySem.W.codeIn K cd6 "_law_subwords" = true) (k6 : PySem.W.keepIn K (.ref f6) = true)
    (a7 : PySem.W.nsIn K mainGlobals "check_manner" = some (some (.ref f7))) (l7 : K.lookup f7 = some ⟨oc7, od7, .func (PySem.W.fnOf "check_manner" "check_manner" (defArgs scheck_manner) (defBody scheck_manner) (defScope scheck_manner) .none kV7 dc7 pm7 an7 cd7 ct7), sl7⟩) (c7 : PySem.W.codeIn K cd7 "check_manner" = true) (k7 : PySem.W.keepIn K (.ref f7) = true)
    (a8 : PySem.W.nsIn K mainGlobals "counts_view" = some (some (.ref f8))) (l8 : K.lookup f8 = some ⟨oc8, od8, .func (PySem.W.fnOf "counts_view" "counts_view" (defArgs scounts_view) (defBody scounts_view) (defScope scounts_view) .none kV8 dc8 pm8 an8 cd8 ct8), sl8⟩) (c8 : PySem.W.codeIn K cd8 "counts_view" = true) (k8 : PySem.W.keepIn K (.ref f8) = true)
    (a9 : PySem.W.nsIn K mainGlobals "last_letters" = some (some (.ref f9))) (l9 : K.lookup f9 = some ⟨oc9, od9, .func (PySem.W.fnOf "last_letters" "last_letters" (defArgs slast_letters) (defBody slast_letters) (defScope slast_letters) .none kV9 dc9 pm9 an9 cd9 ct9), sl9⟩) (c9 : PySem.W.codeIn K cd9 "last_letters" = true) (k9 : PySem.W.keepIn K (.ref f9) = true)
    (a10 : PySem.W.nsIn K mainGlobals "ends_view" = some (some (.ref f10))) (l10 : K.lookup f10 = some ⟨oc10, od10, .func (PySem.W.fnOf "ends_view" "ends_view" (defArgs sends_view) (defBody sends_view) (defScope sends_view) .none kV10 dc10 pm10 an10 cd10 ct10), sl10⟩) (c10 : PySem.W.codeIn K cd10 "ends_view" = true) (k10 : PySem.W.keepIn K (.ref f10) = true)
    (a11 : PySem.W.nsIn K mainGlobals "stretches" = some (some (.ref f11))) (l11 : K.lookup f11 = some ⟨oc11, od11, .func (PySem.W.fnOf "stretches" "stretches" (defArgs sstretches) (defBody sstretches) (defScope sstretches) .none kV11 dc11 pm11 an11 cd11 ct11), sl11⟩) (c11 : PySem.W.codeIn K cd11 "stretches" = true) (k11 : PySem.W.keepIn K (.ref f11) = true)
    (a12 : PySem.W.nsIn K mainGlobals "slit_view" = some (some (.ref f12))) (l12 : K.lookup f12 = some ⟨oc12, od12, .func (PySem.W.fnOf "slit_view" "slit_view" (defArgs sslit_view) (defBody sslit_view) (defScope sslit_view) .none kV12 dc12 pm12 an12 cd12 ct12), sl12⟩) (c12 : PySem.W.codeIn K cd12 "slit_view" = true) (k12 : PySem.W.keepIn K (.ref f12) = true)
    (a13 : PySem.W.nsIn K mainGlobals "without_repeats" = some (some (.ref f13))) (l13 : K.lookup f13 = some ⟨oc13, od13, .func (PySem.W.fnOf "without_repeats" "without_repeats" (defArgs swithout_repeats) (defBody swithout_repeats) (defScope swithout_repeats) .none kV13 dc13 pm13 an13 cd13 ct13), sl13⟩) (c13 : PySem.W.codeIn K cd13 "without_repeats" = true) (k13 : PySem.W.keepIn K (.ref f13) = true)
    (a14 : PySem.W.nsIn K mainGlobals "short_key" = some (some (.ref f14))) (l14 : K.lookup f14 = some ⟨oc14, od14, .func (PySem.W.fnOf "short_key" "short_key" (defArgs sshort_key) (defBody sshort_key) (defScope sshort_key) .none kV14 dc14 pm14 an14 cd14 ct14), sl14⟩) (c14 : PySem.W.codeIn K cd14 "short_key" = true) (k14 : PySem.W.keepIn K (.ref f14) = true)
    (a15 : PySem.W.nsIn K mainGlobals "scattered_words" = some (some (.ref f15))) (l15 : K.lookup f15 = some ⟨oc15, od15, .func (PySem.W.fnOf "scattered_words" "scattered_words" (defArgs sscattered_words) (defBody sscattered_words) (defScope sscattered_words) .none kV15 dc15 pm15 an15 cd15 ct15), sl15⟩) (c15 : PySem.W.codeIn K cd15 "scattered_words" = true) (k15 : PySem.W.keepIn K (.ref f15) = true)
    (a16 : PySem.W.nsIn K mainGlobals "rising_view" = some (some (.ref f16))) (l16 : K.lookup f16 = some ⟨oc16, od16, .func (PySem.W.fnOf "rising_view" "rising_view" (defArgs srising_view) (defBody srising_view) (defScope srising_view) .none kV16 dc16 pm16 an16 cd16 ct16), sl16⟩) (c16 : PySem.W.codeIn K cd16 "rising_view" = true) (k16 : PySem.W.keepIn K (.ref f16) = true)
    (a17 : PySem.W.nsIn K mainGlobals "falling_view" = some (some (.ref f17))) (l17 : K.lookup f17 = some ⟨oc17, od17, .func (PySem.W.fnOf "falling_view" "falling_view" (defArgs sfalling_view) (defBody sfalling_view) (defScope sfalling_view) .none kV17 dc17 pm17 an17 cd17 ct17), sl17⟩) (c17 : PySem.W.codeIn K cd17 "falling_view" = true) (k17 : PySem.W.keepIn K (.ref f17) = true)
    (a18 : PySem.W.nsIn K mainGlobals "view" = some (some (.ref f18))) (l18 : K.lookup f18 = some ⟨oc18, od18, .func (PySem.W.fnOf "view" "view" (defArgs sview) (defBody sview) (defScope sview) .none kV18 dc18 pm18 an18 cd18 ct18), sl18⟩) (c18 : PySem.W.codeIn K cd18 "view" = true) (k18 : PySem.W.keepIn K (.ref f18) = true)
    (a19 : PySem.W.nsIn K mainGlobals "alike" = some (some (.ref f19))) (l19 : K.lookup f19 = some ⟨oc19, od19, .func (PySem.W.fnOf "alike" "alike" (defArgs salike) (defBody salike) (defScope salike) .none kV19 dc19 pm19 an19 cd19 ct19), sl19⟩) (c19 : PySem.W.codeIn K cd19 "alike" = true) (k19 : PySem.W.keepIn K (.ref f19) = true)
    (a20 : PySem.W.nsIn K mainGlobals "bond_words" = some (some (.ref f20))) (l20 : K.lookup f20 = some ⟨oc20, od20, .func (PySem.W.fnOf "bond_words" "bond_words" (defArgs sbond_words) (defBody sbond_words) (defScope sbond_words) .none kV20 dc20 pm20 an20 cd20 ct20), sl20⟩) (c20 : PySem.W.codeIn K cd20 "bond_words" = true) (k20 : PySem.W.keepIn K (.ref f20) = true)
    (a21 : PySem.W.nsIn K mainGlobals "law" = some (some (.ref f21))) (l21 : K.lookup f21 = some ⟨oc21, od21, .func (PySem.W.fnOf "law" "law" (defArgs slaw) (defBody slaw) (defScope slaw) .none kV21 dc21 pm21 an21 cd21 ct21), sl21⟩) (c21 : PySem.W.codeIn K cd21 "law" = true) (k21 : PySem.W.keepIn K (.ref f21) = true)
    (z0 : PySem.W.nsIn K mainGlobals "abs" = some none) (z1 : PySem.W.nsIn K mainGlobals "bool" = some none) (z2 : PySem.W.nsIn K mainGlobals "int" = some none) (z3 : PySem.W.nsIn K mainGlobals "isinstance" = some none) (z4 : PySem.W.nsIn K mainGlobals "len" = some none) (z5 : PySem.W.nsIn K mainGlobals "list" = some none) (z6 : PySem.W.nsIn K mainGlobals "max" = some none) (z7 : PySem.W.nsIn K mainGlobals "min" = some none) (z8 : PySem.W.nsIn K mainGlobals "range" = some none) (z9 : PySem.W.nsIn K mainGlobals "sorted" = some none) (z10 : PySem.W.nsIn K mainGlobals "str" = some none) (z11 : PySem.W.nsIn K mainGlobals "sum" = some none) (z12 : PySem.W.nsIn K mainGlobals "tuple" = some none)
    (q0 : PySem.W.nsIn K mainGlobals "LETTERS" = some (some (.str "abc" t0)))
    (q1 : PySem.W.nsIn K mainGlobals "MANNERS" = some (some (.ref A1))) (r1 : K.lookup A1 = some ⟨.type "tuple", D1, .seq #[.str "last" t1_0, .str "first" t1_1, .str "ends" t1_2, .str "slit" t1_3, .str "scattered" t1_4, .str "rising" t1_5, .str "falling" t1_6, .str "counts" t1_7] N1, S1⟩) :
    ∃ fd : FuncData, (∀ (s : Shared) (v : Value), BindsTo s fd ⟨[v], []⟩ [("script", v)]) ∧ ∀ base : Heap, K.In base → base.Ns mainGlobals mg → FnOk P w K mg base CX0 65 fa fd ["script"] (spLaw K) := by
  have e := hfa.symm.trans (PySem.W.mg_of X G a21)
  cases e
  have F := fun_mk (st := slaw) l21 c21 k21
  have T : Txt K mg := ⟨⟨⟨_, _, fun_mk (st := sLnumber) l0 c0 k0, PySem.W.mg_of X G a0⟩⟩, ⟨⟨_, _, fun_mk (st := sLdraws) l1 c1 k1, PySem.W.mg_of X G a1⟩⟩, ⟨⟨_, _, fun_mk (st := sLdrawn_steps) l2 c2 k2, PySem.W.mg_of X G a2⟩⟩, ⟨⟨_, _, fun_mk (st := sLmade) l3 c3 k3, PySem.W.mg_of X G a3⟩⟩, ⟨⟨_, _, fun_mk (st := sLsame) l4 c4 k4, PySem.W.mg_of X G a4⟩⟩, ⟨⟨_, _, fun_mk (st := sLscattered) l5 c5 k5, PySem.W.mg_of X G a5⟩⟩, ⟨⟨_, _, fun_mk (st := sLsubwords) l6 c6 k6, PySem.W.mg_of X G a6⟩⟩, ⟨⟨_, _, fun_mk (st := scheck_manner) l7 c7 k7, PySem.W.mg_of X G a7⟩⟩, ⟨⟨_, _, fun_mk (st := scounts_view) l8 c8 k8, PySem.W.mg_of X G a8⟩⟩, ⟨⟨_, _, fun_mk (st := slast_letters) l9 c9 k9, PySem.W.mg_of X G a9⟩⟩, ⟨⟨_, _, fun_mk (st := sends_view) l10 c10 k10, PySem.W.mg_of X G a10⟩⟩, ⟨⟨_, _, fun_mk (st := sstretches) l11 c11 k11, PySem.W.mg_of X G a11⟩⟩, ⟨⟨_, _, fun_mk (st := sslit_view) l12 c12 k12, PySem.W.mg_of X G a12⟩⟩, ⟨⟨_, _, fun_mk (st := swithout_repeats) l13 c13 k13, PySem.W.mg_of X G a13⟩⟩, ⟨⟨_, _, fun_mk (st := sshort_key) l14 c14 k14, PySem.W.mg_of X G a14⟩⟩, ⟨⟨_, _, fun_mk (st := sscattered_words) l15 c15 k15, PySem.W.mg_of X G a15⟩⟩, ⟨⟨_, _, fun_mk (st := srising_view) l16 c16 k16, PySem.W.mg_of X G a16⟩⟩, ⟨⟨_, _, fun_mk (st := sfalling_view) l17 c17 k17, PySem.W.mg_of X G a17⟩⟩, ⟨⟨_, _, fun_mk (st := sview) l18 c18 k18, PySem.W.mg_of X G a18⟩⟩, ⟨⟨_, _, fun_mk (st := salike) l19 c19 k19, PySem.W.mg_of X G a19⟩⟩, ⟨⟨_, _, fun_mk (st := sbond_words) l20 c20 k20, PySem.W.mg_of X G a20⟩⟩, ⟨⟨_, _, fun_mk (st := slaw) l21 c21 k21, PySem.W.mg_of X G a21⟩⟩, PySem.W.mg_none_of X G z0, PySem.W.mg_none_of X G z1, PySem.W.mg_none_of X G z2, PySem.W.mg_none_of X G z3, PySem.W.mg_none_of X G z4, PySem.W.mg_none_of X G z5, PySem.W.mg_none_of X G z6, PySem.W.mg_none_of X G z7, PySem.W.mg_none_of X G z8, PySem.W.mg_none_of X G z9, PySem.W.mg_none_of X G z10, PySem.W.mg_none_of X G z11, PySem.W.mg_none_of X G z12, ⟨_, PySem.W.mg_of X G q0⟩, ⟨_, _, _, _, _, _, _, _, _, _, _, _, PySem.W.mg_of X G q1, r1⟩⟩
  refine ⟨_, fun s v => .of_eq rfl, fun base _ _ => FnOk.imp (all F T) fun vs H Q E hsp => ?_⟩
  obtain ⟨a, ns, rfl, hS, hl, hO, q⟩ := hsp
  refine ⟨H, [.lst (ns.map D.int)], rfl, Same.refl _, fun _ _ e _ => e, .cons (.lst hS (RpL.ofInt ns)) .nil, ?_⟩
  rw [hm ns hl]
  intro v G' H' _ _ _ _ _ r
  cases r.blH
  exact q H'
end GW

open PySem PySem.W PyProof.Rows
set_option maxHeartbeats 0 in
theorem PySem.Challenge.cw_viewedwords_k79_words_of_bonds_holds : PySem.Challenge.rw_viewedwords_k79_words_of_bonds.Holds := by
  w_on; o_law; k_head; (case hw => w_witness2)
  k_fill
  refine L2.walk_of (l := PySem.Challenge.rw_viewedwords_k79_words_of_bonds) (n := 63) (k := 65) (x := "script") (CX := fun _ => L2.CX0) (sp := fun w => GW.spLaw _) rfl (by decide) rfl ⟨rfl, by decide, by decide⟩ (fun w h Y => PySem.W.kIn_of Y) ?F (fun _ _ a ns hl hO hS => ⟨a, ns, rfl, hS, hl, hO, fun _ => rfl⟩) (fun _ _ _ _ _ h => h)
  case F =>
    intro w mg fa h KX G hmg
    refine' GW.all_mk (fun ns _ => GW.law_ok ns) KX G hmg ?a0 ?l0 ?c0 ?k0 ?a1 ?l1 ?c1 ?k1 ?a2 ?l2 ?c2 ?k2 ?a3 ?l3 ?c3 ?k3 ?a4 ?l4 ?c4 ?k4 ?a5 ?l5 ?c5 ?k5 ?a6 ?l6 ?c6 ?k6 ?a7 ?l7 ?c7 ?k7 ?a8 ?l8 ?c8 ?k8 ?a9 ?l9 ?c9 ?k9 ?a10 ?l10 ?c10 ?k10 ?a11 ?l11 ?c11 ?k11 ?a12 ?l12 ?c12 ?k12 ?a13 ?l13 ?c13 ?k13 ?a14 ?l14 ?c14 ?k14 ?a15 ?l15 ?c15 ?k15 ?a16 ?l16 ?c16 ?k16 ?a17 ?l17 ?c17 ?k17 ?a18 ?l18 ?c18 ?k18 ?a19 ?l19 ?c19 ?k19 ?a20 ?l20 ?c20 ?k20 ?a21 ?l21 ?c21 ?k21 ?z0 ?z1 ?z2 ?z3 ?z4 ?z5 ?z6 ?z7 ?z8 ?z9 ?z10 ?z11 ?z12 ?q0 ?q1 ?r1
    (case a0 => k_is); (case l0 => k_is); (case c0 => k_is); (case k0 => k_is); (case a1 => k_is); (case l1 => k_is); (case c1 => k_is); (case k1 => k_is); (case a2 => k_is); (case l2 => k_is); (case c2 => k_is); (case k2 => k_is); (case a3 => k_is); (case l3 => k_is); (case c3 => k_is); (case k3 => k_is); (case a4 => k_is); (case l4 => k_is); (case c4 => k_is); (case k4 => k_is); (case a5 => k_is); (case l5 => k_is); (case c5 => k_is); (case k5 => k_is); (case a6 => k_is); (case l6 => k_is); (case c6 => k_is); (case k6 => k_is); (case a7 => k_is); (case l7 => k_is); (case c7 => k_is); (case k7 => k_is); (case a8 => k_is); (case l8 => k_is); (case c8 => k_is); (case k8 => k_is); (case a9 => k_is); (case l9 => k_is); (case c9 => k_is); (case k9 => k_is); (case a10 => k_is); (case l10 => k_is); (case c10 => k_is); (case k10 => k_is); (case a11 => k_is); (case l11 => k_is); (case c11 => k_is); (case k11 => k_is); (case a12 => k_is); (case l12 => k_is); (case c12 => k_is); (case k12 => k_is); (case a13 => k_is); (case l13 => k_is); (case c13 => k_is); (case k13 => k_is); (case a14 => k_is); (case l14 => k_is); (case c14 => k_is); (case k14 => k_is); (case a15 => k_is); (case l15 => k_is); (case c15 => k_is); (case k15 => k_is); (case a16 => k_is); (case l16 => k_is); (case c16 => k_is); (case k16 => k_is); (case a17 => k_is); (case l17 => k_is); (case c17 => k_is); (case k17 => k_is); (case a18 => k_is); (case l18 => k_is); (case c18 => k_is); (case k18 => k_is); (case a19 => k_is); (case l19 => k_is); (case c19 => k_is); (case k19 => k_is); (case a20 => k_is); (case l20 => k_is); (case c20 => k_is); (case k20 => k_is); (case a21 => k_is); (case l21 => k_is); (case c21 => k_is); (case k21 => k_is); (case z0 => k_is); (case z1 => k_is); (case z2 => k_is); (case z3 => k_is); (case z4 => k_is); (case z5 => k_is); (case z6 => k_is); (case z7 => k_is); (case z8 => k_is); (case z9 => k_is); (case z10 => k_is); (case z11 => k_is); (case z12 => k_is); (case q0 => k_is); (case q1 => k_is); (case r1 => k_is)

