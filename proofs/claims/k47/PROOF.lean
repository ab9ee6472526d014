import PyProof.Rows.All
import Wide.All
import OpenK.AllK
import Wide.FinOn
import HandS.ForMost
import HandS.Deep
import HandS.TupAny
import HandS.IsInst
import HandS.Replace
import HandS.Sort
import HandS.SortInts
import HandS.Conv
import HandS.More
import HandS.List
import HandS.Small
import HandS.Iter
import HandS.DictComp
import HandS.Style
import KE.SortKeyHeap
import HandS.SortKw
import HandS.Words
import KE.DataMinKey
import KE.DataCmp
import KE.KDictKeyed
import KE.KDictDisplayH
import HandS.TupLen
import KE.KDictWalk
import PySem.Challenge.RW_viewedwords_k47_words_on_ladders_counted
set_option Elab.async false
set_option linter.all false
set_option maxRecDepth 100000
set_option maxHeartbeats 4000000
/-! VS: values of Python as deep data, over the abstract heap of the hand layer. -/
namespace VS
open PySem PySem.Spec PyProof.Rows L2

/-! ### data -/
/-- a text by its codes -/
def S (l : List Nat) : Str := ⟨l.toArray⟩
inductive D where
  | non | bl (b : Bool) | int (i : Int) | str (l : List Nat)
  | tup (ds : List D) | lst (ds : List D)
  | dic (ks vs : List D) | dlk (ks vs : List D) | ndk (ks vs : List D) | nlk (ks vs : List D) | rng (lo hi : Int) | obj (C : Str) (fs : List Str) (vs : List D)
  deriving Inhabited
/-- a value, an error, or no word -/
inductive R (α : Type) where
  | ok (a : α) | ex (e : D) | stuck
def R.bind {α β : Type} (x : R α) (f : α → R β) : R β :=
  match x with
  | .ok a => f a
  | .ex e => .ex e
  | .stuck => .stuck
instance : Monad R where
  pure := .ok
  bind := R.bind
@[simp] theorem ok_bind {α β : Type} (a : α) (f : α → R β) : (R.ok a >>= f) = f a := rfl
@[simp] theorem ex_bind {α β : Type} (e : D) (f : α → R β) : ((R.ex e : R α) >>= f) = .ex e := rfl
@[simp] theorem stuck_bind {α β : Type} (f : α → R β) : ((R.stuck : R α) >>= f) = .stuck := rfl
@[simp] theorem pure_ok {α : Type} (a : α) : (pure a : R α) = .ok a := rfl

structure Wd where
  K : PySem.W.Frag
  mg : Str → Option Value
  w : World

mutual
/-- a key of a dict whose keys are tuples: what it is up to == -/
def D.nq : D → Option NestedKey
  | .non => some .none
  | .bl b => some (.num (if b then 1 else 0))
  | .int i => some (.num i)
  | .str l => some (.text (S l))
  | .tup ds => (D.nqs ds).map .tup
  | _ => none
def D.nqs : List D → Option (List NestedKey)
  | [] => some []
  | d :: ds => (D.nq d).bind fun k => (D.nqs ds).map (k :: ·)
end
/-- .. a tuple, not too deep -/
def D.nk : D → Option NestedKey
  | .tup ds => (D.nq (.tup ds)).bind fun k => if k.depth ≤ 8 then some k else none
  | _ => none
/-- a dict with these entries: key, where it stands, value -/
def dN (w : World) (a : Addr) (xs : List (NestedKey × Addr × Value)) : HO := .ext fun h => (a == sysModules) = false ∧ ∃ o es ep, h.get? a = some o ∧ o.ExactDict ∧ o.data = .dict es ep ∧ es.toList = xs.map fun x => ⟨x.1.hash w, .ref x.2.1, x.2.2⟩
/-- a range lo .. hi - 1 -/
def rngO (a : Addr) (lo hi : Int) : HO := .ext fun h => ∃ t u v, IsRange h a lo hi 1 t u v
/-- a key of a plain dict -/
def D.key : D → Option Key
  | .int i => some (.inl i)
  | .str l => some (.inr (S l))
  | _ => none

mutual
inductive Rp (E : Wd) (G : Hp) : V → D → Prop
  | non : Rp E G .non .non
  | bl (b : Bool) : Rp E G (.bl b) (.bl b)
  | int (i : Int) : Rp E G (.int i) (.int i)
  | str (l : List Nat) : Rp E G (.str (S l)) (.str l)
  | tup {a : Addr} {vs : List V} {ds : List D} : SqT E.K G a vs → RpL E G vs ds → Rp E G (.ref a) (.tup ds)
  | lst {a : Addr} {vs : List V} {ds : List D} : SqL E.K G a vs → RpL E G vs ds → Rp E G (.ref a) (.lst ds)
  | dic {a : Addr} {kvs : List (Key × V)} {ks ds : List D} : Rd G a (.dK kvs) → ks.map D.key = kvs.map (fun p => some p.1) → RpL E G (kvs.map (·.2)) ds → Rp E G (.ref a) (.dic ks ds)
  | dlk {a : Addr} {o : Obj} {kvs : List (Key × V)} {ks ds : List D} : G a = some (.frz o (.dK kvs)) → ks.map D.key = kvs.map (fun p => some p.1) → RpL E G (kvs.map (·.2)) ds → Rp E G (.ref a) (.dlk ks ds)
  | ndk {a : Addr} {xs : List (NestedKey × Addr × Value)} {vs : List V} {ks ds : List D} : Rd G a (dN E.w a xs) → ks.map D.nk = xs.map (fun x => some x.1) → (xs.map (·.1)).Nodup → Vals vs (xs.map fun x => x.2.2) → RpL E G (xs.map fun x => V.ref x.2.1) ks → RpL E G vs ds → Rp E G (.ref a) (.ndk ks ds)
  | nlk {a : Addr} {o : Obj} {xs : List (NestedKey × Addr × Value)} {vs : List V} {ks ds : List D} : G a = some (.frz o (dN E.w a xs)) → ks.map D.nk = xs.map (fun x => some x.1) → (xs.map (·.1)).Nodup → Vals vs (xs.map fun x => x.2.2) → RpL E G (xs.map fun x => V.ref x.2.1) ks → RpL E G vs ds → Rp E G (.ref a) (.nlk ks ds)
  | rng {a : Addr} {lo hi : Int} : G a = some (rngO a lo hi) → -(2 ^ 62) ≤ lo → lo < 2 ^ 62 → -(2 ^ 62) ≤ hi → hi < 2 ^ 62 → Rp E G (.ref a) (.rng lo hi)
  | obj {a C dx : Addr} {nm : Str} {fvs : List (Str × V)} {fs : List Str} {ds : List D} : G a = some (.ins C dx fvs) → E.mg nm = some (.ref C) → fs = fvs.map (·.1) → RpL E G (fvs.map (·.2)) ds → Rp E G (.ref a) (.obj nm fs ds)
inductive RpL (E : Wd) (G : Hp) : List V → List D → Prop
  | nil : RpL E G [] []
  | cons {v : V} {vs : List V} {d : D} {ds : List D} : Rp E G v d → RpL E G vs ds → RpL E G (v :: vs) (d :: ds)
end

section
variable {E : Wd} {G G' H H' : Hp}
theorem Same.rd (s : Same G G') {a : Addr} {u : HO} (h : Rd G a u) : Rd G' a u := by
  rcases h with h | ⟨o, h⟩
  · exact .inl (s a _ h)
  · exact .inr ⟨o, s a _ h⟩
theorem Same.sqL {K : PySem.W.Frag} (s : Same G G') {a : Addr} {xs : List V} (h : SqL K G a xs) : SqL K G' a xs := s.seq h
theorem Same.sqT {K : PySem.W.Frag} (s : Same G G') {a : Addr} {xs : List V} (h : SqT K G a xs) : SqT K G' a xs := by
  rcases h with h | h
  · exact .inl (Same.rd s h)
  · exact .inr h
mutual
theorem Rp.mono (s : Same G G') : ∀ {v : V} {d : D}, Rp E G v d → Rp E G' v d
  | _, _, .non => .non
  | _, _, .bl b => .bl b
  | _, _, .int i => .int i
  | _, _, .str l => .str l
  | _, _, .tup h r => .tup (Same.sqT s h) (RpL.mono s r)
  | _, _, .lst h r => .lst (Same.sqL s h) (RpL.mono s r)
  | _, _, .dic h e r => .dic (Same.rd s h) e (RpL.mono s r)
  | _, _, .dlk h e r => .dlk (s _ _ h) e (RpL.mono s r)
  | _, _, .ndk h e n y k r => .ndk (Same.rd s h) e n y (RpL.mono s k) (RpL.mono s r)
  | _, _, .nlk h e n y k r => .nlk (s _ _ h) e n y (RpL.mono s k) (RpL.mono s r)
  | _, _, .rng h h1 h2 h3 h4 => .rng (s _ _ h) h1 h2 h3 h4
  | _, _, .obj h e f r => .obj (s _ _ h) e f (RpL.mono s r)
theorem RpL.mono (s : Same G G') : ∀ {vs : List V} {ds : List D}, RpL E G vs ds → RpL E G' vs ds
  | _, _, .nil => .nil
  | _, _, .cons h r => .cons (Rp.mono s h) (RpL.mono s r)
end
theorem RpL.length {vs : List V} {ds : List D} (h : RpL E G vs ds) : vs.length = ds.length := by
  induction ds generalizing vs with
  | nil => cases h; rfl
  | cons d ds ih => cases h with | cons h r => simp [ih r]
theorem RpL.get {vs : List V} {ds : List D} (h : RpL E G vs ds) {i : Nat} {d : D} (e : ds[i]? = some d) : ∃ v, vs[i]? = some v ∧ Rp E G v d := by
  induction ds generalizing vs i with
  | nil => simp at e
  | cons d' ds ih =>
    cases h with
    | cons h r =>
      cases i with
      | zero => simp at e; subst e; exact ⟨_, rfl, h⟩
      | succ i => simp at e; obtain ⟨v, e1, e2⟩ := ih r e; exact ⟨v, by simpa using e1, e2⟩
theorem RpL.getV {vs : List V} {ds : List D} (h : RpL E G vs ds) {i : Nat} {v : V} (e : vs[i]? = some v) : ∃ d, ds[i]? = some d ∧ Rp E G v d := by
  induction ds generalizing vs i with
  | nil => cases h; simp at e
  | cons d' ds ih =>
    cases h with
    | cons h r =>
      cases i with
      | zero => simp at e; subst e; exact ⟨_, rfl, h⟩
      | succ i => simp at e; obtain ⟨v, e1, e2⟩ := ih r e; exact ⟨v, by simpa using e1, e2⟩
theorem RpL.append {vs ws : List V} {ds es : List D} (h : RpL E G vs ds) (k : RpL E G ws es) : RpL E G (vs ++ ws) (ds ++ es) := by
  induction ds generalizing vs with
  | nil => cases h; exact k
  | cons d ds ih => cases h with | cons h r => exact .cons h (ih r)
theorem RpL.take {vs : List V} {ds : List D} (h : RpL E G vs ds) (n : Nat) : RpL E G (vs.take n) (ds.take n) := by
  induction n generalizing vs ds with
  | zero => simp; exact .nil
  | succ n ih => cases h with
    | nil => simp; exact .nil
    | cons h r => simp; exact .cons h (ih r)
theorem RpL.drop {vs : List V} {ds : List D} (h : RpL E G vs ds) (n : Nat) : RpL E G (vs.drop n) (ds.drop n) := by
  induction n generalizing vs ds with
  | zero => simpa using h
  | succ n ih => cases h with
    | nil => simp; exact .nil
    | cons h r => simpa using ih r
theorem RpL.reverse {vs : List V} {ds : List D} (h : RpL E G vs ds) : RpL E G vs.reverse ds.reverse := by
  induction ds generalizing vs with
  | nil => cases h; exact .nil
  | cons d ds ih => cases h with | cons h r => rw [List.reverse_cons, List.reverse_cons]; exact (ih r).append (.cons h .nil)
theorem RpL.set {vs : List V} {ds : List D} (h : RpL E G vs ds) {v : V} {d : D} (r : Rp E G v d) (i : Nat) : RpL E G (vs.set i v) (ds.set i d) := by
  induction ds generalizing vs i with
  | nil => cases h; exact .nil
  | cons d' ds ih =>
    cases h with
    | cons h1 r1 => cases i with
      | zero => exact .cons r r1
      | succ i => exact .cons h1 (ih r1 i)
theorem RpL.int {vs : List V} {ns : List Int} (h : RpL E G vs (ns.map D.int)) : vs = ns.map V.int := by
  induction ns generalizing vs with
  | nil => cases h; rfl
  | cons n ns ih => cases h with | cons h r => cases h; simp [ih r]
theorem RpL.ofInt (ns : List Int) : RpL E G (ns.map V.int) (ns.map D.int) := by
  induction ns with
  | nil => exact .nil
  | cons n ns ih => exact .cons (.int n) ih

/-! ### owned trees -/
end
inductive O where
  | v (d : D) | lst (os : List O) | dic (ks : List D) (os : List O) | ndc (ks : List D) (os : List O) | obj (C : Str) (fs : List Str) (os : List O)
  deriving Inhabited
mutual
def O.toD : O → D
  | .v d => d
  | .lst os => .lst (O.toDs os)
  | .dic ks os => .dic ks (O.toDs os)
  | .ndc ks os => .ndk ks (O.toDs os)
  | .obj C fs os => .obj C fs (O.toDs os)
def O.toDs : List O → List D
  | [] => []
  | o :: os => O.toD o :: O.toDs os
end
@[simp] theorem O.toDs_map (os : List O) : O.toDs os = os.map O.toD := by
  induction os with
  | nil => rfl
  | cons o os ih => simp [O.toDs, ih]
mutual
inductive Own (E : Wd) (G H : Hp) : V → O → List Addr → Prop
  | v {v : V} {d : D} : Rp E G v d → Own E G H v (.v d) []
  | lst {a : Addr} {vs : List V} {os : List O} {fp : List Addr} : H a = some (.lst vs) → OwnL E G H vs os fp → Own E G H (.ref a) (.lst os) (a :: fp)
  | dic {a : Addr} {kvs : List (Key × V)} {ks : List D} {os : List O} {fp : List Addr} : H a = some (.dK kvs) → ks.map D.key = kvs.map (fun p => some p.1) → OwnL E G H (kvs.map (·.2)) os fp → Own E G H (.ref a) (.dic ks os) (a :: fp)
  | ndc {a : Addr} {xs : List (NestedKey × Addr × Value)} {vs : List V} {ks : List D} {os : List O} {fp : List Addr} : H a = some (dN E.w a xs) → ks.map D.nk = xs.map (fun x => some x.1) → (xs.map (·.1)).Nodup → Vals vs (xs.map fun x => x.2.2) → RpL E G (xs.map fun x => V.ref x.2.1) ks → OwnL E G H vs os fp → Own E G H (.ref a) (.ndc ks os) (a :: fp)
  | obj {a C dx : Addr} {nm : Str} {fvs : List (Str × V)} {fs : List Str} {os : List O} {fp : List Addr} : H a = some (.ins C dx fvs) → E.mg nm = some (.ref C) → fs = fvs.map (·.1) → OwnL E G H (fvs.map (·.2)) os fp → Own E G H (.ref a) (.obj nm fs os) (a :: fp)
inductive OwnL (E : Wd) (G H : Hp) : List V → List O → List Addr → Prop
  | nil : OwnL E G H [] [] []
  | cons {v : V} {vs : List V} {o : O} {os : List O} {fp fq : List Addr} : Own E G H v o fp → OwnL E G H vs os fq → OwnL E G H (v :: vs) (o :: os) (fp ++ fq)
end
section
variable {E : Wd} {G G' H H' : Hp}
/-- what is owned stays where its own objects stay -/
theorem Own.keep (s : Same G G') : ∀ {v : V} {o : O} {fp : List Addr}, Own E G H v o fp → (∀ p ∈ fp, ∀ u, H p = some u → H' p = some u) → Own E G' H' v o fp := by
  intro v o fp h
  refine Own.rec (motive_1 := fun v o fp _ => (∀ p ∈ fp, ∀ u, H p = some u → H' p = some u) → Own E G' H' v o fp) (motive_2 := fun vs os fp _ => (∀ p ∈ fp, ∀ u, H p = some u → H' p = some u) → OwnL E G' H' vs os fp) ?_ ?_ ?_ ?_ ?_ ?_ ?_ h
  · intro v d r k; exact .v (r.mono s)
  · intro a vs os fp h r ih k; exact .lst (k a List.mem_cons_self _ h) (ih fun p hp => k p (List.mem_cons_of_mem _ hp))
  · intro a kvs ks os fp h e r ih k; exact .dic (k a List.mem_cons_self _ h) e (ih fun p hp => k p (List.mem_cons_of_mem _ hp))
  · intro a xs vs ks os fp h e n y kk r ih k; exact .ndc (k a List.mem_cons_self _ h) e n y (kk.mono s) (ih fun p hp => k p (List.mem_cons_of_mem _ hp))
  · intro a C dx nm fvs fs os fp h e f r ih k; exact .obj (k a List.mem_cons_self _ h) e f (ih fun p hp => k p (List.mem_cons_of_mem _ hp))
  · intro k; exact .nil
  · intro v vs o os fp fq h r ih1 ih2 k; exact .cons (ih1 fun p hp => k p (List.mem_append_left _ hp)) (ih2 fun p hp => k p (List.mem_append_right _ hp))
theorem OwnL.keep (s : Same G G') : ∀ {vs : List V} {os : List O} {fp : List Addr}, OwnL E G H vs os fp → (∀ p ∈ fp, ∀ u, H p = some u → H' p = some u) → OwnL E G' H' vs os fp := by
  intro vs os fp h
  induction os generalizing vs fp with
  | nil => cases h; intro _; exact .nil
  | cons o os ih => cases h with | cons h r => intro k; exact .cons (h.keep s fun p hp => k p (List.mem_append_left _ hp)) (ih r fun p hp => k p (List.mem_append_right _ hp))
/-- an owned tree may be read as data -/
theorem Own.rp (s : Same G H) : ∀ {v : V} {o : O} {fp : List Addr}, Own E G H v o fp → (∀ p ∈ fp, ∀ u, H p = some u → H' p = some u) → Same G H' → Rp E H' v o.toD := by
  intro v o fp h
  refine Own.rec (motive_1 := fun v o fp _ => (∀ p ∈ fp, ∀ u, H p = some u → H' p = some u) → Same G H' → Rp E H' v o.toD) (motive_2 := fun vs os fp _ => (∀ p ∈ fp, ∀ u, H p = some u → H' p = some u) → Same G H' → RpL E H' vs (O.toDs os)) ?_ ?_ ?_ ?_ ?_ ?_ ?_ h
  · intro v d r k g; rw [O.toD]; exact r.mono g
  · intro a vs os fp h r ih k g; rw [O.toD]; exact .lst (.inl (.inl (k a List.mem_cons_self _ h))) (ih (fun p hp => k p (List.mem_cons_of_mem _ hp)) g)
  · intro a kvs ks os fp h e r ih k g; rw [O.toD]; exact .dic (.inl (k a List.mem_cons_self _ h)) e (ih (fun p hp => k p (List.mem_cons_of_mem _ hp)) g)
  · intro a xs vs ks os fp h e n y kk r ih k g; rw [O.toD]; exact .ndk (.inl (k a List.mem_cons_self _ h)) e n y (kk.mono g) (ih (fun p hp => k p (List.mem_cons_of_mem _ hp)) g)
  · intro a C dx nm fvs fs os fp h e f r ih k g; rw [O.toD]; exact .obj (k a List.mem_cons_self _ h) e f (ih (fun p hp => k p (List.mem_cons_of_mem _ hp)) g)
  · intro k g; rw [O.toDs]; exact .nil
  · intro v vs o os fp fq h r ih1 ih2 k g; rw [O.toDs]; exact .cons (ih1 (fun p hp => k p (List.mem_append_left _ hp)) g) (ih2 (fun p hp => k p (List.mem_append_right _ hp)) g)

/-! ### the names' values -/
end
abbrev Env := List (Option O)
inductive Cells (E : Wd) (G H : Hp) : Env → L2.St → List Addr → Prop
  | nil : Cells E G H [] [] []
  | no {c : Env} {σ : L2.St} {x : Option V} {fp : List Addr} : Cells E G H c σ fp → Cells E G H (none :: c) (x :: σ) fp
  | yes {c : Env} {σ : L2.St} {v : V} {o : O} {fp fq : List Addr} : Own E G H v o fp → Cells E G H c σ fq → Cells E G H (some o :: c) (some v :: σ) (fp ++ fq)
/-- the entry: the heap there, what is known there; the slots that stay; what is lent -/
structure Bs where
  H0 : Hp
  G0 : Hp
  pn : List (Nat × V)
  br : Addr → Prop
/-- a tuple, or one that is locked -/
def isT : HO → Bool
  | .tup _ => true
  | .frz _ (.tup _) => true
  | _ => false
structure Fine (B : Bs) (G H : Hp) : Prop where
  base : ∀ a o, B.H0 a = some o → ¬ B.br a → H a = some o
  there : ∀ a, H a = none → B.H0 a = none
  x : ∀ a, B.H0 a ≠ none → B.G0 a = none → G a = none
  le : Same G H
  tup : ∀ a u, H a = some u → isT u = true → G a = some u
structure Abs (E : Wd) (B : Bs) (G H : Hp) (c : Env) (σ : L2.St) (fp : List Addr) : Prop where
  fine : Fine B G H
  cells : Cells E G H c σ fp
  nd : fp.Nodup
  fresh : ∀ p ∈ fp, G p = none ∧ (B.H0 p = none ∨ B.br p)
  pin : ∀ q ∈ B.pn, σ[q.1]? = some (some q.2)
section
variable {E : Wd} {B : Bs} {G G' G'' H H' H'' : Hp} {c : Env} {σ : L2.St} {fp : List Addr}
theorem Cells.keep (s : Same G G') : ∀ {c : Env} {σ : L2.St} {fp : List Addr}, Cells E G H c σ fp → (∀ p ∈ fp, ∀ u, H p = some u → H' p = some u) → Cells E G' H' c σ fp
  | _, _, _, .nil, _ => .nil
  | _, _, _, .no h, k => .no (Cells.keep s h k)
  | _, _, _, .yes h r, k => .yes (h.keep s fun p hp => k p (List.mem_append_left _ hp)) (Cells.keep s r fun p hp => k p (List.mem_append_right _ hp))
theorem Cells.get : ∀ {c : Env} {σ : L2.St} {fp : List Addr} {i : Nat} {o : O}, Cells E G H c σ fp → c[i]? = some (some o) → ∃ v fq, σ[i]? = some (some v) ∧ Own E G H v o fq ∧ ∀ p ∈ fq, p ∈ fp
  | _, _, _, i, o, .nil, e => by simp at e
  | _, _, _, 0, o, .no h, e => by simp at e
  | _, _, _, i + 1, o, .no h, e => by
    obtain ⟨v, fq, e1, e2, e3⟩ := Cells.get (i := i) h (by simpa using e)
    exact ⟨v, fq, by simpa using e1, e2, e3⟩
  | _, _, _, 0, o, .yes h r, e => by simp at e; subst e; exact ⟨_, _, rfl, h, fun p hp => List.mem_append_left _ hp⟩
  | _, _, _, i + 1, o, .yes h r, e => by
    obtain ⟨v, fq, e1, e2, e3⟩ := Cells.get (i := i) r (by simpa using e)
    exact ⟨v, fq, by simpa using e1, e2, fun p hp => List.mem_append_right _ (e3 p hp)⟩
theorem Own.there : ∀ {v : V} {o : O} {fp : List Addr}, Own E G H v o fp → ∀ p ∈ fp, H p ≠ none := by
  intro v o fp h
  refine Own.rec (motive_1 := fun v o fp _ => ∀ p ∈ fp, H p ≠ none) (motive_2 := fun vs os fp _ => ∀ p ∈ fp, H p ≠ none) ?_ ?_ ?_ ?_ ?_ ?_ ?_ h
  · intro v d r p hp; cases hp
  · intro a vs os fp h r ih p hp
    rcases List.mem_cons.mp hp with z | z
    · rw [z, h]; exact fun z => nomatch z
    · exact ih p z
  · intro a kvs ks os fp h e r ih p hp
    rcases List.mem_cons.mp hp with z | z
    · rw [z, h]; exact fun z => nomatch z
    · exact ih p z
  · intro a xs vs ks os fp h e n y kk r ih p hp
    rcases List.mem_cons.mp hp with z | z
    · rw [z, h]; exact fun z => nomatch z
    · exact ih p z
  · intro a C dx nm fvs fs os fp h e f r ih p hp
    rcases List.mem_cons.mp hp with z | z
    · rw [z, h]; exact fun z => nomatch z
    · exact ih p z
  · intro p hp; cases hp
  · intro v vs o os fp fq h r ih1 ih2 p hp
    rcases List.mem_append.mp hp with z | z
    · exact ih1 p z
    · exact ih2 p z
theorem Cells.there : ∀ {c : Env} {σ : L2.St} {fp : List Addr}, Cells E G H c σ fp → ∀ p ∈ fp, H p ≠ none
  | _, _, _, .nil, p, hp => nomatch hp
  | _, _, _, .no h, p, hp => h.there p hp
  | _, _, _, .yes h r, p, hp => (List.mem_append.mp hp).elim (fun z => h.there p z) fun z => r.there p z
theorem Cells.length : ∀ {c : Env} {σ : L2.St} {fp : List Addr}, Cells E G H c σ fp → c.length = σ.length
  | _, _, _, .nil => rfl
  | _, _, _, .no h => by simp [h.length]
  | _, _, _, .yes _ h => by simp [h.length]
/-- a name is stored: what it had is forgotten -/
theorem Cells.set : ∀ {c : Env} {σ : L2.St} {fp : List Addr} {v : V} {o : O} {fq : List Addr} (i : Nat), Cells E G H c σ fp → Own E G H v o fq → fp.Nodup → fq.Nodup → (∀ p ∈ fq, p ∉ fp) → ∃ fr, Cells E G H (c.set i (some o)) (σ.set i (some v)) fr ∧ fr.Nodup ∧ ∀ p ∈ fr, p ∈ fp ∨ p ∈ fq
  | _, _, _, v, o, fq, i, .nil, h, n, m, d => ⟨[], .nil, List.nodup_nil, fun p hp => nomatch hp⟩
  | _, _, _, v, o, fq, 0, .no r, h, n, m, d => ⟨_, .yes h r, List.nodup_append.mpr ⟨m, n, fun a ha b hb e => d a ha (e ▸ hb)⟩, fun p hp => (List.mem_append.mp hp).symm⟩
  | _, _, _, v, o, fq, i + 1, .no r, h, n, m, d => by
    obtain ⟨fr, h1, h2, h3⟩ := Cells.set i r h n m d
    exact ⟨fr, .no h1, h2, h3⟩
  | _, _, _, v, o, fq, 0, .yes (fp := f1) (fq := f2) h' r, h, n, m, d => ⟨_, .yes h r, List.nodup_append.mpr ⟨m, (List.nodup_append.mp n).2.1, fun a ha b hb e => d a ha (List.mem_append_right _ (e ▸ hb))⟩, fun p hp => by
    rcases List.mem_append.mp hp with z | z
    · exact .inr z
    · exact .inl (List.mem_append_right _ z)⟩
  | _, _, _, v, o, fq, i + 1, .yes (fp := f1) (fq := f2) h' r, h, n, m, d => by
    obtain ⟨n1, n2, n3⟩ := List.nodup_append.mp n
    obtain ⟨fr, h1, h2, h3⟩ := Cells.set i r h n2 m fun p hp z => d p hp (List.mem_append_right _ z)
    refine ⟨_, .yes h' h1, List.nodup_append.mpr ⟨n1, h2, fun a ha b hb e => ?_⟩, fun p hp => ?_⟩
    · rcases h3 b hb with z | z
      · exact n3 a ha b z e
      · exact d b z (List.mem_append_left _ (e ▸ ha))
    · rcases List.mem_append.mp hp with z | z
      · exact .inl (List.mem_append_left _ z)
      · rcases h3 p z with z | z
        · exact .inl (List.mem_append_right _ z)
        · exact .inr z
theorem Fine.grow (f : Fine B G H) (s : Same H H') (t : ∀ a u, H' a = some u → isT u = true → G a = some u) : Fine B G H' := ⟨fun a o e n => s a o (f.base a o e n), fun a e => f.there a (s.free e), f.x, f.le.trans s, t⟩
/-- a new object that is known from now on -/
theorem Fine.new {p : Addr} {u : HO} (f : Fine B G H) (hp : H p = none) : Fine B (upd G p u) (upd H p u) := by
  refine ⟨fun a o e n => ?_, fun a e => ?_, fun a h1 h2 => ?_, fun a o e => ?_, fun a o e k => ?_⟩
  · rw [upd_ne (ne_of_none (f.base a o e n) hp)]; exact f.base a o e n
  · by_cases ha : a = p
    · subst ha; exact f.there a hp
    · rw [upd_ne ha] at e; exact f.there a e
  · have ha : a ≠ p := fun z => h1 (by rw [z]; exact f.there p hp)
    rw [upd_ne ha]; exact f.x a h1 h2
  · by_cases ha : a = p
    · subst ha; rw [upd_same] at e ⊢; exact e
    · rw [upd_ne ha] at e ⊢; exact f.le a o e
  · by_cases ha : a = p
    · subst ha; rw [upd_same] at e ⊢; exact e
    · rw [upd_ne ha] at e ⊢; exact f.tup a o e k
theorem same_upd {p : Addr} {u : HO} (hp : H p = none) : Same H (upd H p u) := fun b o e => by
  rw [upd_ne (ne_of_none e hp)]; exact e
theorem Fine.fresh (f : Fine B G H) {p : Addr} (hp : H p = none) : G p = none := f.le.free hp
theorem Abs.grow (A : Abs E B G H c σ fp) (s : Same H H') (t : ∀ a u, H' a = some u → isT u = true → G a = some u) : Abs E B G H' c σ fp :=
  ⟨A.fine.grow s t, A.cells.keep (Same.refl _) fun p _ u e => s p u e, A.nd, A.fresh, A.pin⟩
/-- a new object that is known from now on -/
theorem Abs.new {p : Addr} {u : HO} (A : Abs E B G H c σ fp) (hp : H p = none) : Abs E B (upd G p u) (upd H p u) c σ fp := by
  refine ⟨A.fine.new hp, A.cells.keep (same_upd (A.fine.fresh hp)) (fun q _ w e => same_upd hp q w e), A.nd, fun q hq => ?_, A.pin⟩
  have hne : q ≠ p := fun z => A.cells.there q hq (by rw [z]; exact hp)
  exact ⟨by rw [upd_ne hne]; exact (A.fresh q hq).1, (A.fresh q hq).2⟩
end
end VS

/-! VS: expressions. -/
namespace VS
open PySem PySem.Spec PyProof.Rows L2

abbrev WX := Value → Option Addr → L2.St → Hp → Prop
def vw (b : Bool) (G H : Hp) : Hp := if b then G else H
def XRep (E : Wd) (G : Hp) (cl : Value) (dx : Option Addr) : D → Prop
  | .obj nm fs ds => E.mg nm = some cl ∧ (fs = [] ∨ ∃ d xs, dx = some d ∧ G d = some (.xd xs) ∧ fs = xs.map (·.1) ∧ RpL E G (xs.map (·.2)) ds)
  | _ => False
def Res {α : Type} (E : Wd) (W : WX) (B : Bs) (c : Env) (σ : L2.St) (fp : List Addr) (G H : Hp) (r : R α) (P : α → Prop) : Prop :=
  match r with
  | .ok a => P a
  | .ex e => ∀ cl dx G' H', Same G G' → Same H H' → Abs E B G' H' c σ fp → XRep E G' cl dx e → W cl dx σ H'
  | .stuck => False
def Post (E : Wd) (B : Bs) (c : Env) (σ : L2.St) (fp : List Addr) (G H : Hp) (b : Bool) (Q : VK) (d : D) : Prop :=
  ∀ v G' H', Same G G' → Same H H' → Abs E B G' H' c σ fp → Rp E (vw b G' H') v d → Q v H'
def PostL (E : Wd) (B : Bs) (c : Env) (σ : L2.St) (fp : List Addr) (G H : Hp) (b : Bool) (Q : List V → Hp → Prop) (ds : List D) : Prop :=
  ∀ vs G' H', Same G G' → Same H H' → Abs E B G' H' c σ fp → RpL E (vw b G' H') vs ds → Q vs H'
def PostT (E : Wd) (B : Bs) (c : Env) (σ : L2.St) (fp : List Addr) (G H : Hp) (Q : Bool → Hp → Prop) (t : Bool) : Prop :=
  ∀ G' H', Same G G' → Same H H' → Abs E B G' H' c σ fp → Q t H'
def TX (E : Wd) (W : WX) (b : Bool) (g : Env → R D) : TE := fun σ H Q => ∃ B G c fp, Abs E B G H c σ fp ∧ Res E W B c σ fp G H (g c) (Post E B c σ fp G H b Q)
def TXA (E : Wd) (W : WX) (b : Bool) (g : Env → R (List D)) : TA := fun σ H Q => ∃ B G c fp, Abs E B G H c σ fp ∧ Res E W B c σ fp G H (g c) (PostL E B c σ fp G H b Q)
def TXT (E : Wd) (W : WX) (g : Env → R Bool) : TT := fun σ H Q => ∃ B G c fp, Abs E B G H c σ fp ∧ Res E W B c σ fp G H (g c) (PostT E B c σ fp G H Q)
abbrev Cx.wd (X : Cx) : Wd := ⟨X.K, X.mg, X.w⟩
/-- an expression that is worth g; b: it may be kept -/
def PX (X : Cx) (W : WX) (b : Bool) (e : Expr) (g : Env → R D) : Prop := PE X e (TX ⟨X.K, X.mg, X.w⟩ W b g)
def PXA (X : Cx) (W : WX) (b : Bool) (es : List Expr) (g : Env → R (List D)) : Prop := PA X es (TXA ⟨X.K, X.mg, X.w⟩ W b g)
def PXT (X : Cx) (W : WX) (e : Expr) (g : Env → R Bool) : Prop := PT X e (TXT ⟨X.K, X.mg, X.w⟩ W g)

section
variable {E : Wd} {W : WX} {B : Bs} {c : Env} {σ : L2.St} {fp : List Addr} {G G' G'' H H' H'' : Hp} {b : Bool} {v : V} {d : D}
theorem vw_rp (s : Same G H) (h : Rp E (vw b G H) v d) : Rp E H v d := by
  cases b with
  | true => exact h.mono s
  | false => exact h
theorem vw_mono (s : Same G G') (t : Same H H') (h : Rp E (vw b G H) v d) : Rp E (vw b G' H') v d := by
  cases b with
  | true => exact h.mono s
  | false => exact h.mono t
theorem vw_rpL {vs : List V} {ds : List D} (s : Same G H) (h : RpL E (vw b G H) vs ds) : RpL E H vs ds := by
  cases b with
  | true => exact h.mono s
  | false => exact h
theorem vw_monoL {vs : List V} {ds : List D} (s : Same G G') (t : Same H H') (h : RpL E (vw b G H) vs ds) : RpL E (vw b G' H') vs ds := by
  cases b with
  | true => exact h.mono s
  | false => exact h.mono t
theorem vw_of (h : Rp E G v d) (s : Same G H) : Rp E (vw b G H) v d := by
  cases b with
  | true => exact h
  | false => exact h.mono s
theorem vw_ofL {vs : List V} {ds : List D} (h : RpL E G vs ds) (s : Same G H) : RpL E (vw b G H) vs ds := by
  cases b with
  | true => exact h
  | false => exact h.mono s
theorem Res.grow {α : Type} {r : R α} {P P' : α → Prop} (h : Res E W B c σ fp G H r P) (s : Same G G') (t : Same H H') (hp : ∀ a, r = .ok a → P a → P' a) : Res E W B c σ fp G' H' r P' := by
  cases r with
  | ok a => exact hp a rfl h
  | ex e => exact fun cl dx G2 H2 s2 t2 A x => h cl dx G2 H2 (s.trans s2) (t.trans t2) A x
  | stuck => exact h
theorem Post.grow {Q : VK} (h : Post E B c σ fp G H b Q d) (s : Same G G') (t : Same H H') : Post E B c σ fp G' H' b Q d := fun v G2 H2 s2 t2 A r => h v G2 H2 (s.trans s2) (t.trans t2) A r
theorem PostL.grow {Q : List V → Hp → Prop} {ds : List D} (h : PostL E B c σ fp G H b Q ds) (s : Same G G') (t : Same H H') : PostL E B c σ fp G' H' b Q ds := fun v G2 H2 s2 t2 A r => h v G2 H2 (s.trans s2) (t.trans t2) A r
theorem PostT.grow {Q : Bool → Hp → Prop} {x : Bool} (h : PostT E B c σ fp G H Q x) (s : Same G G') (t : Same H H') : PostT E B c σ fp G' H' Q x := fun G2 H2 s2 t2 A => h G2 H2 (s.trans s2) (t.trans t2) A
/-- the value at once, nothing changed -/
theorem Post.here {Q : VK} (h : Post E B c σ fp G H b Q d) (A : Abs E B G H c σ fp) (r : Rp E (vw b G H) v d) : Q v H := h v G H (Same.refl _) (Same.refl _) A r
/-- a new object, known from now on -/
theorem Post.new {Q : VK} (h : Post E B c σ fp G H b Q d) (A : Abs E B G H c σ fp) {p : Addr} {u : HO} (hp : H p = none) (r : Same G (upd G p u) → Rp E (upd G p u) (.ref p) d) : Q (.ref p) (upd H p u) := by
  have s := same_upd (u := u) (A.fine.fresh hp)
  have A' := A.new (u := u) hp
  exact h (.ref p) _ _ s (same_upd hp) A' (vw_of (r s) A'.fine.le)

/-- one part, then the rest -/
theorem tx_seq {α : Type} {ga : Env → R D} {f : D → R α} {P : α → Prop} {Q' : VK} (A : Abs E B G H c σ fp) (h : Res E W B c σ fp G H (ga c >>= f) P)
    (k : ∀ d, ga c = .ok d → ∀ v G1 H1, Same G G1 → Same H H1 → Abs E B G1 H1 c σ fp → Rp E (vw b G1 H1) v d → Res E W B c σ fp G1 H1 (f d) P → Q' v H1) : TX E W b ga σ H Q' := by
  refine ⟨B, G, c, fp, A, ?_⟩
  cases e : ga c with
  | ok d =>
    rw [e] at h
    exact fun v G1 H1 s t A1 r => k d e v G1 H1 s t A1 r (Res.grow (r := f d) h s t fun _ _ z => z)
  | ex x => rw [e] at h; exact h
  | stuck => rw [e] at h; exact h
theorem txa_seq {α : Type} {ga : Env → R (List D)} {f : List D → R α} {P : α → Prop} {Q' : List V → Hp → Prop} (A : Abs E B G H c σ fp) (h : Res E W B c σ fp G H (ga c >>= f) P)
    (k : ∀ ds, ga c = .ok ds → ∀ vs G1 H1, Same G G1 → Same H H1 → Abs E B G1 H1 c σ fp → RpL E (vw b G1 H1) vs ds → Res E W B c σ fp G1 H1 (f ds) P → Q' vs H1) : TXA E W b ga σ H Q' := by
  refine ⟨B, G, c, fp, A, ?_⟩
  cases e : ga c with
  | ok d =>
    rw [e] at h
    exact fun v G1 H1 s t A1 r => k d e v G1 H1 s t A1 r (Res.grow (r := f d) h s t fun _ _ z => z)
  | ex x => rw [e] at h; exact h
  | stuck => rw [e] at h; exact h
theorem txt_seq {α : Type} {ga : Env → R Bool} {f : Bool → R α} {P : α → Prop} {Q' : Bool → Hp → Prop} (A : Abs E B G H c σ fp) (h : Res E W B c σ fp G H (ga c >>= f) P)
    (k : ∀ t, ga c = .ok t → ∀ G1 H1, Same G G1 → Same H H1 → Abs E B G1 H1 c σ fp → Res E W B c σ fp G1 H1 (f t) P → Q' t H1) : TXT E W ga σ H Q' := by
  refine ⟨B, G, c, fp, A, ?_⟩
  cases e : ga c with
  | ok d =>
    rw [e] at h
    exact fun G1 H1 s t A1 => k d e G1 H1 s t A1 (Res.grow (r := f d) h s t fun _ _ z => z)
  | ex x => rw [e] at h; exact h
  | stuck => rw [e] at h; exact h
end

/-! ### weakening -/
section
variable {X : Cx} {W : WX} {b : Bool} {e : Expr} {g : Env → R D}
theorem pe_mono {t t' : TE} (h : PE X e t) (k : ∀ σ H Q, t' σ H Q → t σ H Q) : PE X e t' := ⟨fun pins s σ H Q I q => h.run pins s σ H Q I (k σ H Q q)⟩
theorem pt_mono {t t' : TT} (h : PT X e t) (k : ∀ σ H Q, t' σ H Q → t σ H Q) : PT X e t' := ⟨fun pins s σ H Q I q => h.run pins s σ H Q I (k σ H Q q)⟩
theorem pa_mono {es : List Expr} {t t' : TA} (h : PA X es t) (k : ∀ σ H Q, t' σ H Q → t σ H Q) : PA X es t' := ⟨fun pos pins s σ H Q I q => h.run pos pins s σ H Q I (k σ H Q q)⟩
theorem PX.loan (h : PX X W true e g) : PX X W false e g := pe_mono h fun σ H Q ⟨B, G, c, fp, A, q⟩ => ⟨B, G, c, fp, A, q.grow (Same.refl _) (Same.refl _) fun d _ k v G1 H1 s t A1 r => k v G1 H1 s t A1 (r.mono A1.fine.le)⟩
end
mutual
/-- no list, no dict, no object within -/
def D.flat : D → Bool
  | .tup ds => D.flats ds
  | .lst _ | .dic _ _ | .dlk _ _ | .ndk _ _ | .nlk _ _ | .rng _ _ | .obj _ _ _ => false
  | _ => true
def D.flats : List D → Bool
  | [] => true
  | d :: ds => D.flat d && D.flats ds
end
@[simp] theorem flat_non : D.flat .non = true := rfl
@[simp] theorem flat_bl (b : Bool) : D.flat (.bl b) = true := rfl
@[simp] theorem flat_int (i : Int) : D.flat (.int i) = true := rfl
@[simp] theorem flat_str (l : List Nat) : D.flat (.str l) = true := rfl
@[simp] theorem flat_tup (ds : List D) : D.flat (.tup ds) = D.flats ds := by rw [D.flat]
@[simp] theorem flat_lst (ds : List D) : D.flat (.lst ds) = false := by rw [D.flat]
@[simp] theorem flats_nil : D.flats [] = true := by rw [D.flats]
@[simp] theorem flats_cons (d : D) (ds : List D) : D.flats (d :: ds) = (D.flat d && D.flats ds) := by rw [D.flats]
theorem flats_all (ds : List D) : D.flats ds = ds.all D.flat := by
  induction ds with
  | nil => simp
  | cons d ds ih => simp [ih]
section
variable {E : Wd} {B : Bs} {c : Env} {σ : L2.St} {fp : List Addr} {G H : Hp}
/-- what has no list, dict or object within is known -/
theorem Rp.down (f : Fine B G H) : ∀ {v : V} {d : D}, Rp E H v d → d.flat = true → Rp E G v d := by
  intro v d h
  refine Rp.rec (motive_1 := fun v d _ => d.flat = true → Rp E G v d) (motive_2 := fun vs ds _ => D.flats ds = true → RpL E G vs ds) ?_ ?_ ?_ ?_ ?_ ?_ ?_ ?_ ?_ ?_ ?_ ?_ ?_ ?_ h
  · intro _; exact .non
  · intro b _; exact .bl b
  · intro i _; exact .int i
  · intro l _; exact .str l
  · intro a vs ds hs r ih k
    rw [flat_tup] at k
    refine .tup ?_ (ih k)
    rcases hs with (hs | ⟨o, hs⟩) | hs
    · exact .inl (.inl (f.tup a _ hs rfl))
    · exact .inl (.inr ⟨o, f.tup a _ hs rfl⟩)
    · exact .inr hs
  · intro a vs ds hs r ih k; simp at k
  · intro a kvs ks ds hs e r ih k; simp [D.flat] at k
  · intro a o kvs ks ds hs e r ih k; simp [D.flat] at k
  · intro a xs vs ks ds hs e n y kk r ih1 ih2 k; simp [D.flat] at k
  · intro a o xs vs ks ds hs e n y kk r ih1 ih2 k; simp [D.flat] at k
  · intro a lo hi hs h1 h2 h3 h4 k; simp [D.flat] at k
  · intro a C dx nm fvs fs ds h1 h2 h3 r ih k; simp [D.flat] at k
  · intro _; exact .nil
  · intro v vs d ds h r i1 i2 k
    simp at k
    exact .cons (i1 k.1) (i2 k.2)
end
section
variable {X : Cx} {W : WX} {b : Bool} {e : Expr} {g : Env → R D}
def eFlat (g : Env → R D) : Env → R D := fun c => g c >>= fun d => if d.flat then .ok d else .stuck
theorem PX.flat (h : PX X W b e g) : PX X W true e (eFlat g) := pe_mono h fun σ H Q ⟨B, G, c, fp, A, q⟩ => by
  refine ⟨B, G, c, fp, A, ?_⟩
  unfold eFlat at q
  cases e : g c with
  | stuck => rw [e] at q; exact q
  | ex x => rw [e] at q; exact q
  | ok d =>
    rw [e] at q
    by_cases hf : d.flat = true
    · have q' : Res _ W B c σ fp G H (if d.flat = true then R.ok d else R.stuck) (Post _ B c σ fp G H true Q) := q
      rw [if_pos hf] at q'
      intro v G1 H1 s t A1 r
      exact q' v G1 H1 s t A1 ((vw_rp A1.fine.le r).down A1.fine hf)
    · have q' : Res _ W B c σ fp G H (if d.flat = true then R.ok d else R.stuck) (Post _ B c σ fp G H true Q) := q
      rw [if_neg hf] at q'
      exact q'.elim
end
end VS

/-! VS: expressions, the rules. -/
namespace VS
open PySem PySem.Spec PyProof.Rows L2

def lift {α : Type} : Option α → R α
  | some a => .ok a
  | none => .stuck
@[simp] theorem lift_some {α : Type} (a : α) : lift (some a) = R.ok a := rfl
@[simp] theorem lift_none {α : Type} : lift (none : Option α) = R.stuck := rfl
theorem Res.lift {α : Type} {E : Wd} {W : WX} {B : Bs} {c : Env} {σ : L2.St} {fp : List Addr} {G H : Hp} {o : Option α} {P : α → Prop} (h : Res E W B c σ fp G H (lift o) P) : ∃ a, o = some a ∧ P a := by
  cases o with
  | some a => exact ⟨a, rfl, h⟩
  | none => exact h.elim

/-! ### names, constants -/
def eV (i : Nat) : Env → R D := fun c => match c[i]? with
  | some (some (.v d)) => .ok d
  | _ => .stuck
def eL (i : Nat) : Env → R D := fun c => match c[i]? with
  | some (some o) => .ok o.toD
  | _ => .stuck
def eC (d : D) : Env → R D := fun _ => .ok d
section
variable {X : Cx} {W : WX} {b b' b1 b2 : Bool} {e a : Expr} {pos : Pos}
theorem px_v (i : Nat) {x : Str} (hN : X.N[i]? = some x := by rfl) (hv : Vis X.env.scope x := by first | exact Or.inl rfl | exact Or.inr (Or.inl rfl) | exact Or.inr (Or.inr rfl)) (hd : (x == ("__debug__" : Str)) = false := by decide)
    (hcd : (x == ("__classdict__" : Str)) = false := by decide) : PX X W true (.Name x pos) (eV i) := pe_mono (pe_var hN hv hd hcd) fun σ H Q ⟨B, G, c, fp, A, q⟩ => by
  unfold eV at q
  split at q
  · rename_i d e
    obtain ⟨v, fq, e1, e2, e3⟩ := A.cells.get e
    cases e2 with
    | v r => exact ⟨v, e1, q.here A r⟩
  · exact q.elim
theorem px_l (i : Nat) {x : Str} (hN : X.N[i]? = some x := by rfl) (hv : Vis X.env.scope x := by first | exact Or.inl rfl | exact Or.inr (Or.inl rfl) | exact Or.inr (Or.inr rfl)) (hd : (x == ("__debug__" : Str)) = false := by decide)
    (hcd : (x == ("__classdict__" : Str)) = false := by decide) : PX X W false (.Name x pos) (eL i) := pe_mono (pe_var hN hv hd hcd) fun σ H Q ⟨B, G, c, fp, A, q⟩ => by
  unfold eL at q
  split at q
  · rename_i o e
    obtain ⟨v, fq, e1, e2, e3⟩ := A.cells.get e
    exact ⟨v, e1, q.here A (e2.rp A.fine.le (fun _ _ _ z => z) A.fine.le)⟩
  · exact q.elim
theorem px_c {t : TE} {v : V} {d : D} (h : PE X e t) (k : ∀ σ H Q, Q v H → t σ H Q) (r : ∀ G, Rp ⟨X.K, X.mg, X.w⟩ G v d) : PX X W true e (eC d) := pe_mono h fun σ H Q ⟨B, G, c, fp, A, q⟩ => k _ _ _ (Post.here q A (r _))
theorem px_int {i : Int} {j : Nat} : PX X W true (.Constant (.int i) j pos) (eC (.int i)) := px_c pe_int (fun _ _ _ q => q) fun _ => .int i
theorem px_bl {t : Bool} {j : Nat} : PX X W true (.Constant (.bool t) j pos) (eC (.bl t)) := px_c pe_bl (fun _ _ _ q => q) fun _ => .bl t
theorem px_non {j : Nat} : PX X W true (.Constant .none j pos) (eC .non) := px_c pe_non (fun _ _ _ q => q) fun _ => .non
theorem px_str {x : Str} {j : Nat} (l : List Nat) (h : x = S l := by decide +kernel) : PX X W true (.Constant (.str x) j pos) (eC (.str l)) := by
  subst h
  exact px_c pe_str (fun _ _ _ q => q) fun _ => .str l
theorem px_glob {x : Str} {v : V} {u : Value} {d : D} (r : ∀ G, Rp ⟨X.K, X.mg, X.w⟩ G v d) (hm : X.mg x = some u) (rv : RelV v u) (hg : Gl X x := by rfl) (hd : (x == ("__debug__" : Str)) = false := by decide) : PX X W true (.Name x pos) (eC d) :=
  px_c (pe_glob hg hm rv hd) (fun _ _ _ q => q) r

/-! ### parts one behind the other -/
def eNil : Env → R (List D) := fun _ => .ok []
def eCons (g : Env → R D) (gs : Env → R (List D)) : Env → R (List D) := fun c => g c >>= fun d => gs c >>= fun ds => .ok (d :: ds)
theorem pxa_nil : PXA X W b [] eNil := pa_mono pa_nil fun σ H Q ⟨B, G, c, fp, A, q⟩ => q [] G H (Same.refl _) (Same.refl _) A .nil
theorem pxa_cons {es : List Expr} {g : Env → R D} {gs : Env → R (List D)} (h : PX X W b e g) (hr : PXA X W b es gs) (hs : starEach (e :: es) X.env = (false, eval e X.env) :: starEach es X.env := by rfl) : PXA X W b (e :: es) (eCons g gs) :=
  pa_mono (pa_cons h hr hs) fun σ H Q ⟨B, G, c, fp, A, q⟩ => tx_seq A q fun d e v G1 H1 s1 t1 A1 r1 q1 => txa_seq A1 q1 fun ds e2 vs G2 H2 s2 t2 A2 r2 q2 =>
    q2 (v :: vs) G2 H2 (s1.trans s2) (t1.trans t2) A2 (.cons (vw_mono s2 t2 r1) r2)
/-- what a call of a built-in is worth, by values -/
def CallOk (E : Wd) (r : List V → Hp → VK → Prop) (b b' : Bool) (f : List D → Option D) : Prop :=
  ∀ {B : Bs} {G H : Hp} {c : Env} {σ : L2.St} {fp : List Addr} {vs : List V} {ds : List D} {d : D} {Q : VK}, Abs E B G H c σ fp → RpL E (vw b G H) vs ds → f ds = some d → Post E B c σ fp G H b' Q d → r vs H Q
def Op2Ok (E : Wd) (r : R2) (b1 b2 b' : Bool) (f : D → D → Option D) : Prop :=
  ∀ {B : Bs} {G H : Hp} {c : Env} {σ : L2.St} {fp : List Addr} {x y : V} {dx dy d : D} {Q : VK}, Abs E B G H c σ fp → Rp E (vw b1 G H) x dx → Rp E (vw b2 G H) y dy → f dx dy = some d → Post E B c σ fp G H b' Q d → r x y H Q
def eFn (f : List D → Option D) (gs : Env → R (List D)) : Env → R D := fun c => gs c >>= fun ds => lift (f ds)
def eOp2 (f : D → D → Option D) (ga gb : Env → R D) : Env → R D := fun c => ga c >>= fun x => gb c >>= fun y => lift (f x y)
theorem tx_op2 {r : R2} {f : D → D → Option D} (hr : Op2Ok ⟨X.K, X.mg, X.w⟩ r b1 b2 b' f) {ga gb : Env → R D} : ∀ σ H Q, TX ⟨X.K, X.mg, X.w⟩ W b' (eOp2 f ga gb) σ H Q → tOp r (TX ⟨X.K, X.mg, X.w⟩ W b1 ga) (TX ⟨X.K, X.mg, X.w⟩ W b2 gb) σ H Q :=
  fun σ H Q ⟨B, G, c, fp, A, q⟩ => tx_seq A q fun d e v G1 H1 s1 t1 A1 r1 q1 => tx_seq A1 q1 fun d2 e2 v2 G2 H2 s2 t2 A2 r2 q2 => by
    obtain ⟨d3, e3, p3⟩ := Res.lift q2
    exact hr A2 (vw_mono s2 t2 r1) r2 e3 (p3.grow (s1.trans s2) (t1.trans t2))
theorem px_op {op : Operator} {r : R2} {f : D → D → Option D} (ho : OpR X (binaryOp op) r) (hr : Op2Ok ⟨X.K, X.mg, X.w⟩ r b1 b2 b' f) {eb : Expr} {ga gb : Env → R D} (ha : PX X W b1 a ga) (hb : PX X W b2 eb gb) : PX X W b' (.BinOp a op eb pos) (eOp2 f ga gb) :=
  pe_mono (pe_op ho ha hb) (tx_op2 hr)
theorem px_cmp {op : CmpOp} {r : R2} {f : D → D → Option D} (ho : OpR X (compareOp op) r) (hr : Op2Ok ⟨X.K, X.mg, X.w⟩ r b1 b2 b' f) {eb : Expr} {ga gb : Env → R D} (ha : PX X W b1 a ga) (hb : PX X W b2 eb gb) (hm : behindInMarks op eb = false) : PX X W b' (.Compare a [op] [eb] pos) (eOp2 f ga gb) :=
  pe_mono (pe_cmpR ho ha hb hm) (tx_op2 hr)
def asB : D → Option Bool
  | .bl t => some t
  | _ => none
def eB (g : Env → R D) : Env → R Bool := fun c => g c >>= fun d => lift (asB d)
theorem asB_rp {E : Wd} {G : Hp} {v : V} {d : D} {t : Bool} (h : Rp E G v d) (e : asB d = some t) : v = .bl t := by
  cases d <;> simp [asB] at e
  subst e
  cases h
  rfl
theorem tx_test {g : Env → R D} : ∀ σ H Q, TXT ⟨X.K, X.mg, X.w⟩ W (eB g) σ H Q → tTest (TX ⟨X.K, X.mg, X.w⟩ W b g) σ H Q :=
  fun σ H Q ⟨B, G, c, fp, A, q⟩ => tx_seq A q fun d e v G1 H1 s1 t1 A1 r1 q1 => by
    obtain ⟨t, e3, p3⟩ := Res.lift q1
    exact ⟨t, asB_rp r1 e3, p3 G1 H1 s1 t1 A1⟩
theorem pxt_cmp {op : CmpOp} {r : R2} {f : D → D → Option D} (ho : OpR X (compareOp op) r) (hr : Op2Ok ⟨X.K, X.mg, X.w⟩ r b1 b2 true f) {eb : Expr} {ga gb : Env → R D} (ha : PX X W b1 a ga) (hb : PX X W b2 eb gb) (hm : behindInMarks op eb = false) : PXT X W (.Compare a [op] [eb] pos) (eB (eOp2 f ga gb)) :=
  pt_mono (pt_cmpR ho ha hb hm) fun σ H Q q => by
    obtain ⟨x, y, z⟩ := (⟨tx_test (b := true) σ H Q q, trivial, trivial⟩ : _ ∧ True ∧ True)
    have x' : TX ⟨X.K, X.mg, X.w⟩ W true (eOp2 f ga gb) σ H (fun x H' => ∃ k, x = .bl k ∧ Q k H') := x
    exact tx_op2 hr σ H _ x'
theorem pxt_val {g : Env → R D} (h : PX X W b e g) (he : ∀ whole, isTrue e X.env whole = (do let v ← whole; standAt e.pos; holding [v] (truthy v)) := by intro _; rfl) : PXT X W e (eB g) :=
  pt_mono (pt_val h he) fun σ H Q q => tx_test σ H Q q
/-- truth of other values -/
def truD : D → Option Bool
  | .non => some false
  | .bl t => some t
  | .int i => some (i != 0)
  | .str l => if l.length ≤ 16777216 then some (!l.isEmpty) else none
  | .tup ds => some (!ds.isEmpty)
  | .lst ds => some (!ds.isEmpty)
  | _ => none
def eTru (g : Env → R D) : Env → R Bool := fun c => g c >>= fun d => lift (truD d)
theorem RpL.isEmpty {E : Wd} {G : Hp} {vs : List V} {ds : List D} (h : RpL E G vs ds) : vs.isEmpty = ds.isEmpty := by
  cases h <;> rfl
theorem pxt_truth {g : Env → R D} (h : PX X W b e g) (he : ∀ whole, isTrue e X.env whole = (do let v ← whole; standAt e.pos; holding [v] (truthy v)) := by intro _; rfl) : PXT X W e (eTru g) :=
  pt_mono (pt_truth h he) fun σ H Q ⟨B, G, c, fp, A, q⟩ => tx_seq A q fun d e v G1 H1 s1 t1 A1 r1 q1 => by
    obtain ⟨t, e3, p3⟩ := Res.lift q1
    have r2 := vw_rp A1.fine.le r1
    refine ⟨t, ?_, p3 G1 H1 s1 t1 A1⟩
    cases r2 with
    | non => cases e3; rfl
    | bl b => cases e3; rfl
    | int i => cases e3; rfl
    | str l =>
      simp only [truD] at e3
      split at e3
      · rename_i hl
        cases e3
        refine ⟨by show l.toArray.size ≤ _; rw [sizeLine_eq]; simpa using hl, ?_⟩
        show (!l.isEmpty) = ((l.toArray.size : Int) != 0)
        cases l <;> simp
        omega
      · cases e3
    | tup hs r => cases e3; exact .inr (.inl ⟨_, hs, by rw [r.isEmpty]⟩)
    | lst hs r => cases e3; exact .inl ⟨_, hs, by rw [r.isEmpty]⟩
    | dic _ _ _ => cases e3
    | dlk _ _ _ => cases e3
    | ndk _ _ _ _ _ _ => cases e3
    | nlk _ _ _ _ _ _ => cases e3
    | rng _ _ _ _ _ => cases e3
    | obj _ _ _ _ => cases e3

/-! ### and, or, not, if else -/
def tAnd' (g k : Env → R Bool) : Env → R Bool := fun c => g c >>= fun t => if t then k c else .ok false
def tOr' (g k : Env → R Bool) : Env → R Bool := fun c => g c >>= fun t => if t then .ok true else k c
def tNot' (g : Env → R Bool) : Env → R Bool := fun c => g c >>= fun t => .ok (!t)
def PXW (X : Cx) (W : WX) (e : Expr) (g : Env → R Bool) : Prop := PW X e (TXT ⟨X.K, X.mg, X.w⟩ W g)
theorem pw_mono {t t' : TT} (h : PW X e t) (k : ∀ σ H Q, t' σ H Q → t σ H Q) : PW X e t' := ⟨fun wh pins s σ H Q I q => h.run wh pins s σ H Q I (k σ H Q q)⟩
theorem PXW.pt {g : Env → R Bool} (h : PXW X W e g) : PXT X W e g := PW.pt h
variable {g k : Env → R Bool} {rest : List Expr}
theorem pxw_and1 (h : PXT X W a g) : PXW X W (.BoolOp .And [a] pos) g := pw_and1 h
theorem pxw_or1 (h : PXT X W a g) : PXW X W (.BoolOp .Or [a] pos) g := pw_or1 h
theorem pxw_and {eb : Expr} (h : PXT X W a g) (h2 : PXW X W (.BoolOp .And (eb :: rest) pos) k) : PXW X W (.BoolOp .And (a :: eb :: rest) pos) (tAnd' g k) :=
  pw_mono (pw_and h h2) fun σ H Q ⟨B, G, c, fp, A, q⟩ => txt_seq A q fun t e G1 H1 s1 t1 A1 q1 => by
    cases t with
    | true => exact ⟨B, G1, c, fp, A1, Res.grow (r := k c) q1 (Same.refl _) (Same.refl _) fun x _ z => z.grow s1 t1⟩
    | false => exact q1 G1 H1 s1 t1 A1
theorem pxw_or {eb : Expr} (h : PXT X W a g) (h2 : PXW X W (.BoolOp .Or (eb :: rest) pos) k) : PXW X W (.BoolOp .Or (a :: eb :: rest) pos) (tOr' g k) :=
  pw_mono (pw_or h h2) fun σ H Q ⟨B, G, c, fp, A, q⟩ => txt_seq A q fun t e G1 H1 s1 t1 A1 q1 => by
    cases t with
    | false => exact ⟨B, G1, c, fp, A1, Res.grow (r := k c) q1 (Same.refl _) (Same.refl _) fun x _ z => z.grow s1 t1⟩
    | true => exact q1 G1 H1 s1 t1 A1
theorem pxt_not (h : PXT X W a g) : PXT X W (.UnaryOp .Not a pos) (tNot' g) :=
  pt_mono (pt_not h) fun σ H Q ⟨B, G, c, fp, A, q⟩ => txt_seq A q fun t e G1 H1 s1 t1 A1 q1 => q1 G1 H1 s1 t1 A1
/-- as values -/
def eAnd (ga gb : Env → R D) : Env → R D := fun c => ga c >>= fun d => lift (asB d) >>= fun t => if t then gb c else .ok (.bl false)
def eOr (ga gb : Env → R D) : Env → R D := fun c => ga c >>= fun d => lift (asB d) >>= fun t => if t then .ok (.bl true) else gb c
def eNot (ga : Env → R D) : Env → R D := fun c => ga c >>= fun d => lift (asB d) >>= fun t => .ok (.bl !t)
theorem px_one {op : BoolOp} {ga : Env → R D} (h : PX X W b a ga) : PX X W b (.BoolOp op [a] pos) ga := pe_one h
theorem px_and {eb : Expr} {ga gb : Env → R D} (h : PX X W b1 a ga) (h2 : PX X W true (.BoolOp .And (eb :: rest) pos) gb) : PX X W true (.BoolOp .And (a :: eb :: rest) pos) (eAnd ga gb) :=
  pe_mono (pe_and h h2) fun σ H Q ⟨B, G, c, fp, A, q⟩ => tx_seq A q fun d e v G1 H1 s1 t1 A1 r1 q1 => by
    cases hd : asB d with
    | none => rw [hd] at q1; exact q1.elim
    | some t =>
      rw [hd] at q1
      refine ⟨t, asB_rp r1 hd, ?_⟩
      cases t with
      | true => exact ⟨B, G1, c, fp, A1, Res.grow (r := gb c) q1 (Same.refl _) (Same.refl _) fun x _ z => z.grow s1 t1⟩
      | false => exact q1 _ G1 H1 s1 t1 A1 (.bl false)
theorem px_or {eb : Expr} {ga gb : Env → R D} (h : PX X W b1 a ga) (h2 : PX X W true (.BoolOp .Or (eb :: rest) pos) gb) : PX X W true (.BoolOp .Or (a :: eb :: rest) pos) (eOr ga gb) :=
  pe_mono (pe_or h h2) fun σ H Q ⟨B, G, c, fp, A, q⟩ => tx_seq A q fun d e v G1 H1 s1 t1 A1 r1 q1 => by
    cases hd : asB d with
    | none => rw [hd] at q1; exact q1.elim
    | some t =>
      rw [hd] at q1
      refine ⟨t, asB_rp r1 hd, ?_⟩
      cases t with
      | false => exact ⟨B, G1, c, fp, A1, Res.grow (r := gb c) q1 (Same.refl _) (Same.refl _) fun x _ z => z.grow s1 t1⟩
      | true => exact q1 _ G1 H1 s1 t1 A1 (.bl true)
theorem px_not {ga : Env → R D} (h : PX X W b1 a ga) : PX X W true (.UnaryOp .Not a pos) (eNot ga) :=
  pe_mono (pe_not h) fun σ H Q ⟨B, G, c, fp, A, q⟩ => tx_seq A q fun d e v G1 H1 s1 t1 A1 r1 q1 => by
    cases hd : asB d with
    | none => rw [hd] at q1; exact q1.elim
    | some t =>
      rw [hd] at q1
      exact ⟨t, asB_rp r1 hd, q1 _ G1 H1 s1 t1 A1 (.bl _)⟩
def eIf (g : Env → R Bool) (ga gb : Env → R D) : Env → R D := fun c => g c >>= fun t => if t then ga c else gb c
theorem px_if {ec eb : Expr} {ga gb : Env → R D} (hc : PXT X W ec g) (ha : PX X W b a ga) (hb : PX X W b eb gb) : PX X W b (.IfExp ec a eb pos) (eIf g ga gb) :=
  pe_mono (pe_ifExp hc ha hb) fun σ H Q ⟨B, G, c, fp, A, q⟩ => txt_seq A q fun t e G1 H1 s1 t1 A1 q1 => by
    cases t with
    | true => exact ⟨B, G1, c, fp, A1, Res.grow (r := ga c) q1 (Same.refl _) (Same.refl _) fun x _ z => z.grow s1 t1⟩
    | false => exact ⟨B, G1, c, fp, A1, Res.grow (r := gb c) q1 (Same.refl _) (Same.refl _) fun x _ z => z.grow s1 t1⟩

/-! ### calls of built-ins -/
theorem tx_fn {r : List V → Hp → VK → Prop} {f : List D → Option D} (hr : CallOk ⟨X.K, X.mg, X.w⟩ r b b' f) {gs : Env → R (List D)} : ∀ σ H Q, TX ⟨X.K, X.mg, X.w⟩ W b' (eFn f gs) σ H Q → tCB r (TXA ⟨X.K, X.mg, X.w⟩ W b gs) σ H Q :=
  fun σ H Q ⟨B, G, c, fp, A, q⟩ => txa_seq A q fun ds e vs G1 H1 s1 t1 A1 r1 q1 => by
    obtain ⟨d3, e3, p3⟩ := Res.lift q1
    exact hr A1 r1 e3 (p3.grow s1 t1)
theorem px_fn {id : String} {x : Str} {r : List V → Hp → VK → Prop} {f : List D → Option D} {e : Expr} {es : List Expr} {gs : Env → R (List D)} {p : Pos} (hc : CallR X (.builtin id) r) (hr : CallOk ⟨X.K, X.mg, X.w⟩ r b b' f) (hm : X.mg x = none) (ha : PXA X W b (e :: es) gs) (hg : Gl X x := by rfl) (hv : bootBuiltins x = some (.builtin id) := by decide +kernel)
    (hn : x ≠ "__name__" := by decide) (hdb : (x == ("__debug__" : Str)) = false := by decide) (he : starEach (e :: es) X.env = (false, eval e X.env) :: starEach es X.env := by rfl) (hpl : (backTo pos (starEach es X.env)).any (·.1) = false := by rfl) :
    PX X W b' (.Call (.Name x p) (e :: es) [] pos) (eFn f gs) := pe_mono (pe_callB hc hg hm hv ha hn hdb he hpl) (tx_fn hr)
theorem px_ty {T : String} {x : Str} {r : List V → Hp → VK → Prop} {f : List D → Option D} {e : Expr} {es : List Expr} {gs : Env → R (List D)} {p : Pos} (hc : CallR X (.type T) r) (hr : CallOk ⟨X.K, X.mg, X.w⟩ r b b' f) (hm : X.mg x = none) (ha : PXA X W b (e :: es) gs) (hg : Gl X x := by rfl) (hv : bootBuiltins x = some (.type T) := by decide +kernel)
    (hn : x ≠ "__name__" := by decide) (hdb : (x == ("__debug__" : Str)) = false := by decide) (he : starEach (e :: es) X.env = (false, eval e X.env) :: starEach es X.env := by rfl) (hpl : (backTo pos (starEach es X.env)).any (·.1) = false := by rfl) :
    PX X W b' (.Call (.Name x p) (e :: es) [] pos) (eFn f gs) := pe_mono (pe_callTy hc hg hm hv ha hn hdb he hpl) (tx_fn hr)
/-! ### displays -/
def fTup (ds : List D) : Option D := if ds.length ≤ 16777216 then some (.tup ds) else none
def fLst (ds : List D) : Option D := if ds.length ≤ 16777216 then some (.lst ds) else none
theorem sz_ok {n : Nat} (h : n ≤ 16777216) : n ≤ sizeLine := by rw [sizeLine_eq]; exact h
theorem px_tup {es : List Expr} {x1 : _} {gs : Env → R (List D)} (h : PXA X W true es gs) : PX X W true (.Tuple es x1 pos) (eFn fTup gs) :=
  pe_mono (pe_tup h) fun σ H Q ⟨B, G, c, fp, A, q⟩ => txa_seq A q fun ds e vs G1 H1 s1 t1 A1 r1 q1 => by
    obtain ⟨d3, e3, p3⟩ := Res.lift q1
    unfold fTup at e3
    split at e3
    · cases e3
      rename_i hl
      refine ⟨sz_ok (by rw [r1.length]; exact hl), fun p hp => (p3.grow s1 t1).new A1 hp fun s => .tup (.inl (.inl upd_same)) (r1.mono s)⟩
    · cases e3
theorem px_lst {es : List Expr} {gs : Env → R (List D)} (h : PXA X W true es gs) : PX X W true (.List es pos) (eFn fLst gs) :=
  pe_mono (pe_lst h) fun σ H Q ⟨B, G, c, fp, A, q⟩ => txa_seq A q fun ds e vs G1 H1 s1 t1 A1 r1 q1 => by
    obtain ⟨d3, e3, p3⟩ := Res.lift q1
    unfold fLst at e3
    split at e3
    · cases e3
      rename_i hl
      refine ⟨sz_ok (by rw [r1.length]; exact hl), fun p hp => (p3.grow s1 t1).new A1 hp fun s => .lst (.inl (.inl upd_same)) (r1.mono s)⟩
    · cases e3
end
end VS

/-! VS: operators. -/
namespace VS
open PySem PySem.Spec PyProof.Rows L2

/-! ### items that may be kept -/
def okEl (b : Bool) (ds : List D) : Bool := b || D.flats ds
def okE (b : Bool) (d : D) : Bool := b || D.flat d
@[simp] theorem okEl_t (ds : List D) : okEl true ds = true := rfl
@[simp] theorem okE_t (d : D) : okE true d = true := rfl
@[simp] theorem okEl_f (ds : List D) : okEl false ds = D.flats ds := rfl
@[simp] theorem okE_f (d : D) : okE false d = D.flat d := rfl
section
variable {E : Wd} {B : Bs} {c : Env} {σ : L2.St} {fp : List Addr} {G H : Hp} {b : Bool}
theorem Rp.known (f : Fine B G H) {v : V} {d : D} (r : Rp E (vw b G H) v d) (k : okE b d = true) : Rp E G v d := by
  cases b with
  | true => exact r
  | false => exact Rp.down f r k
theorem RpL.down (f : Fine B G H) : ∀ {vs : List V} {ds : List D}, RpL E H vs ds → D.flats ds = true → RpL E G vs ds
  | _, [], r, _ => by cases r; exact .nil
  | _, d :: ds, r, k => by
    cases r with
    | cons h r =>
      simp at k
      exact .cons (Rp.down f h k.1) (RpL.down f r k.2)
theorem RpL.known (f : Fine B G H) {vs : List V} {ds : List D} (r : RpL E (vw b G H) vs ds) (k : okEl b ds = true) : RpL E G vs ds := by
  cases b with
  | true => exact r
  | false => exact RpL.down f r k
end
@[simp] theorem vw_t (G H : Hp) : vw true G H = G := rfl
@[simp] theorem vw_f (G H : Hp) : vw false G H = H := rfl
theorem same_vw {G H : Hp} (b : Bool) (s : Same G H) : Same (vw b G H) H := by
  cases b with
  | true => exact s
  | false => exact Same.refl _
/-- a list as it may be read in the heap -/
theorem Rp.lstH {E : Wd} {G H : Hp} {b : Bool} {v : V} {ds : List D} (r : Rp E (vw b G H) v (.lst ds)) (s : Same G H) : ∃ a vs, v = .ref a ∧ SqL E.K H a vs ∧ RpL E (vw b G H) vs ds := by
  cases r with
  | lst h r => exact ⟨_, _, rfl, Same.sqL (same_vw b s) h, r⟩
theorem Rp.tupH {E : Wd} {G H : Hp} {b : Bool} {v : V} {ds : List D} (r : Rp E (vw b G H) v (.tup ds)) (s : Same G H) : ∃ a vs, v = .ref a ∧ SqT E.K H a vs ∧ RpL E (vw b G H) vs ds := by
  cases r with
  | tup h r => exact ⟨_, _, rfl, Same.sqT (same_vw b s) h, r⟩
theorem Rp.intH {E : Wd} {G : Hp} {v : V} {i : Int} (r : Rp E G v (.int i)) : v = .int i := by cases r; rfl
theorem Rp.strH {E : Wd} {G : Hp} {v : V} {l : List Nat} (r : Rp E G v (.str l)) : v = .str (S l) := by cases r; rfl
theorem Rp.blH {E : Wd} {G : Hp} {v : V} {t : Bool} (r : Rp E G v (.bl t)) : v = .bl t := by cases r; rfl
@[simp] theorem S_len (l : List Nat) : (S l).length = l.length := by show l.toArray.size = _; simp
@[simp] theorem S_list (l : List Nat) : (S l).cps.toList = l := rfl
theorem S_app (a b : List Nat) : S a ++ S b = S (a ++ b) := by
  show (⟨a.toArray ++ b.toArray⟩ : Str) = ⟨(a ++ b).toArray⟩
  simp
theorem S_inj {a b : List Nat} : S a = S b ↔ a = b := ⟨fun h => by
  have e : a.toArray = b.toArray := congrArg Str.cps h
  simpa using e, fun h => by rw [h]⟩

/-! ### + -/
def opAdd (b1 b2 : Bool) : D → D → Option D
  | .int i, .int j => some (.int (i + j))
  | .str a, .str b => if a.length + b.length ≤ 16777216 then some (.str (a ++ b)) else none
  | .lst a, .lst b => if a.length + b.length ≤ 16777216 ∧ okEl b1 a = true ∧ okEl b2 b = true then some (.lst (a ++ b)) else none
  | .tup a, .tup b => if a.length + b.length ≤ 16777216 ∧ okEl b1 a = true ∧ okEl b2 b = true then some (.tup (a ++ b)) else none
  | _, _ => none
def rCatR (K : PySem.W.Frag) : R2 := fun x y H Q => ∃ l b xs zs, x = .ref l ∧ y = .ref b ∧ SqL K H l xs ∧ SqL K H b zs ∧ xs.length + zs.length ≤ sizeLine ∧ ∀ p, H p = none → Q (.ref p) (upd H p (.lst (xs ++ zs)))
section
variable {X : Cx} {W : WX} {b b' b1 b2 : Bool}
theorem lst_of {P : Program} {w : World} {H : Hp} {h : Heap} {a : Addr} {xs : List V} (r : Rd H a (.lst xs)) (x : HOk P w H h) : xs.length ≤ sizeLine ∧ ∃ (its : List Value) (n : Nat), Vals xs its ∧ h.get? a = some { cls := .type "list", data := .seq its.toArray n } := r.ok x
theorem op_catR : OpR X (binaryOp .Add) (rCatR X.K) := by
  intro pins s σ H x y v u Q I rx ry h
  obtain ⟨l, b, xs, zs, rfl, rfl, hH, hB, hz, q⟩ := h
  cases rx
  cases ry
  obtain ⟨its, r1, p1, z1⟩ := I.list hH
  obtain ⟨its2, r2, p2, z2⟩ := I.list hB
  have l1 := r1.length
  have l2 := r2.length
  obtain ⟨⟨cls, dd, data, sl⟩, ho, hc, n, hd⟩ := id p1.isList
  obtain ⟨⟨cls2, dd2, data2, sl2⟩, ho2, hc2, n2, hd2⟩ := id p2.isList
  simp only at hc hd hc2 hd2
  subst hc hd hc2 hd2
  have ea : its.toArray ++ its2.toArray = (its ++ its2).toArray := by simp
  refine concat_meets ⟨_, ho, rfl⟩ ⟨_, ho2, rfl⟩ noFill_list_add seq_list_add PySem.F.slot_list_add PySem.F.entry_list_add (PySem.F.args_list_add_2 _ _) (list_addW l b its.toArray its2.toArray n n2 dd dd2 sl sl2 (by rw [List.size_toArray, List.size_toArray]; omega)) ⟨ho, ho2, ?_⟩
  rw [ea]
  exact ⟨.ref _, _, I.lnew (t' := s.toks) (r1.append r2) (by rw [List.length_append]; omega), rfl, q _ I.fresh⟩
def rAddD (K : PySem.W.Frag) : R2 := fun x y H Q => (rI0 fun i j => V.int (i + j)) x y H Q ∨ (∃ i j, x = .str i ∧ y = .str j ∧ i.length + j.length ≤ sizeLine ∧ Q (.str (i ++ j)) H) ∨ rCatR K x y H Q ∨ rCatA K x y H Q
theorem op_addD : OpR X (binaryOp .Add) (rAddD X.K) := op_add.or (op_add_str.or (op_catR.or op_catA))
theorem ok_add : Op2Ok ⟨X.K, X.mg, X.w⟩ (rAddD X.K) b1 b2 true (opAdd b1 b2) := by
  intro B G H c σ fp x y dx dy d Q A rx ry e p
  unfold opAdd at e
  split at e
  · cases e
    exact .inl ⟨_, _, rx.intH, ry.intH, p.here A (.int _)⟩
  · split at e
    · cases e
      rename_i hl
      refine .inr (.inl ⟨_, _, rx.strH, ry.strH, by rw [S_len, S_len, sizeLine_eq]; exact hl, ?_⟩)
      rw [S_app]
      exact p.here A (.str _)
    · cases e
  · split at e
    · cases e
      rename_i hl
      obtain ⟨hl, k1, k2⟩ := hl
      obtain ⟨a1, vs, rfl, h1, r1⟩ := rx.lstH A.fine.le
      obtain ⟨a2, ws, rfl, h2, r2⟩ := ry.lstH A.fine.le
      have g1 := RpL.known A.fine r1 k1
      have g2 := RpL.known A.fine r2 k2
      refine .inr (.inr (.inl ⟨_, _, _, _, rfl, rfl, h1, h2, by rw [g1.length, g2.length, sizeLine_eq]; exact hl, fun q hq => p.new A hq fun s => .lst (.inl (.inl upd_same)) ((g1.append g2).mono s)⟩))
    · cases e
  · split at e
    · cases e
      rename_i hl
      obtain ⟨hl, k1, k2⟩ := hl
      obtain ⟨a1, vs, rfl, h1, r1⟩ := rx.tupH A.fine.le
      obtain ⟨a2, ws, rfl, h2, r2⟩ := ry.tupH A.fine.le
      have g1 := RpL.known A.fine r1 k1
      have g2 := RpL.known A.fine r2 k2
      have d1 : SqT X.K G a1 vs := by
        rcases h1 with (z | ⟨o, z⟩) | z
        · exact .inl (.inl (A.fine.tup _ _ z rfl))
        · exact .inl (.inr ⟨o, A.fine.tup _ _ z rfl⟩)
        · exact .inr z
      have d2 : SqT X.K G a2 ws := by
        rcases h2 with (z | ⟨o, z⟩) | z
        · exact .inl (.inl (A.fine.tup _ _ z rfl))
        · exact .inl (.inr ⟨o, A.fine.tup _ _ z rfl⟩)
        · exact .inr z
      refine .inr (.inr (.inr ⟨_, _, _, _, rfl, rfl, h1, h2, by rw [g1.length, g2.length, sizeLine_eq]; exact hl, fun z => ?_, fun z1 z2 => ?_, fun _ _ q hq => p.new A hq fun s => .tup (.inl (.inl upd_same)) ((g1.append g2).mono s)⟩))
      · subst z
        cases g1
        exact p.here A (.tup d2 (by simpa using g2))
      · subst z2
        cases g2
        exact p.here A (.tup d1 (by simpa using g1))
    · cases e
  · cases e

/-! ### the others, of ints (and texts) -/
def opSub : D → D → Option D
  | .int i, .int j => some (.int (i - j))
  | _, _ => none
theorem ok_sub : Op2Ok ⟨X.K, X.mg, X.w⟩ (rI0 fun i j => V.int (i - j)) b1 b2 true opSub := by
  intro B G H c σ fp x y dx dy d Q A rx ry e p
  unfold opSub at e
  split at e
  · cases e
    exact ⟨_, _, rx.intH, ry.intH, p.here A (.int _)⟩
  · cases e
def opMul : D → D → Option D
  | .int i, .int j => if (-(2 ^ 64) < i ∧ i < 2 ^ 64) ∨ (-(2 ^ 64) < j ∧ j < 2 ^ 64) then some (.int (i * j)) else none
  | .str l, .int j => if -(2 ^ 63) ≤ j ∧ j < 2 ^ 63 ∧ l.length * j.toNat ≤ 16777216 then some (.str (List.replicate j.toNat l).flatten) else none
  | _, _ => none
def rMulS : R2 := fun x y H Q => ∃ l j, x = .str (S l) ∧ y = .int j ∧ (-(2 ^ 63) ≤ j ∧ j < 2 ^ 63 ∧ l.length * j.toNat ≤ 16777216) ∧ Q (.str (S (List.replicate j.toNat l).flatten)) H
theorem rep_flat (l : List Nat) : ∀ (n : Nat) (acc : List Nat), (List.replicate n l.toArray).foldl (· ++ ·) acc.toArray = (acc ++ (List.replicate n l).flatten).toArray
  | 0, acc => by simp
  | n + 1, acc => by
    rw [List.replicate_succ, List.foldl_cons]
    have e : acc.toArray ++ l.toArray = (acc ++ l).toArray := by simp
    rw [e, rep_flat l n]
    simp [List.replicate_succ]
theorem op_mulS : OpR X (binaryOp .Mult) rMulS := by
  intro pins s σ H x y v u Q I rx ry h
  obtain ⟨l, j, rfl, rfl, ⟨h1, h2, h3⟩, q⟩ := h
  obtain ⟨t, rfl⟩ := rx
  obtain ⟨t', rfl⟩ := ry
  refine PySem.P.mul_str (by simp; omega) (fun n1 n2 => ?_) (fun n1 n2 => ?_) ?_
  · intro z
    have hpos : 0 < j := by omega
    have k : ((S l).length : Int) * j ≤ 16777216 := by
      rw [S_len]
      have e : ((l.length * j.toNat : Nat) : Int) = (l.length : Int) * j := by
        rw [Int.natCast_mul, Int.toNat_of_nonneg (by omega)]
      omega
    have w : ((S l).length : Int) ≤ (2 ^ 63 - 1) / j := by
      refine (Int.le_ediv_iff_mul_le hpos).mpr ?_
      omega
    omega
  · show decide _ = false
    rw [S_len, sizeLine_eq]
    simp
    omega
  · by_cases n1 : j < 1
    · rw [if_pos n1]
      have e : j.toNat = 0 := by omega
      rw [e] at q
      refine ⟨by decide, ⟨.str Str.empty, H, I.tok _, ⟨_, rfl⟩, ?_⟩⟩
      simpa [S, Str.empty] using q
    · rw [if_neg n1]
      split
      · rename_i hz
        refine ⟨.str (S l), H, I, ⟨_, rfl⟩, ?_⟩
        simp at hz
        rcases hz with hz | hz
        · subst hz
          simpa using q
        · subst hz
          simpa using q
      · have e := rep_flat l j.toNat []
        simp only [List.nil_append] at e
        have e2 : (⟨(List.replicate j.toNat (S l).cps).foldl (· ++ ·) #[]⟩ : Str) = S (List.replicate j.toNat l).flatten := by
          show (⟨_⟩ : Str) = ⟨_⟩
          rw [← e]
          rfl
        rw [e2]
        refine ⟨?_, ⟨.str (S (List.replicate j.toNat l).flatten), H, I.tok _, ⟨_, rfl⟩, q⟩⟩
        rw [S_len, sizeLine_eq]
        simp
        rw [Nat.mul_comm]; exact h3
theorem ok_mul : Op2Ok ⟨X.K, X.mg, X.w⟩ (fun x y H Q => (rI CMul fun i j => V.int (i * j)) x y H Q ∨ rMulS x y H Q) b1 b2 true opMul := by
  intro B G H c σ fp x y dx dy d Q A rx ry e p
  unfold opMul at e
  split at e
  · split at e
    · cases e
      rename_i hc
      exact .inl ⟨_, _, rx.intH, ry.intH, hc, p.here A (.int _)⟩
    · cases e
  · split at e
    · cases e
      rename_i hc
      exact .inr ⟨_, _, rx.strH, ry.intH, hc, p.here A (.str _)⟩
    · cases e
  · cases e
def opMod : D → D → Option D
  | .int i, .int j => if 0 < j then some (.int (i % j)) else none
  | _, _ => none
theorem ok_mod : Op2Ok ⟨X.K, X.mg, X.w⟩ (rI (fun _ j => 0 < j) fun i j => V.int (i % j)) b1 b2 true opMod := by
  intro B G H c σ fp x y dx dy d Q A rx ry e p
  unfold opMod at e
  split at e
  · split at e
    · cases e
      rename_i hc
      exact ⟨_, _, rx.intH, ry.intH, hc, p.here A (.int _)⟩
    · cases e
  · cases e
def opDiv : D → D → Option D
  | .int i, .int j => if 0 < j ∧ j < 1073741824 then some (.int (i / j)) else none
  | _, _ => none
theorem ok_div : Op2Ok ⟨X.K, X.mg, X.w⟩ (rI CDiv fun i j => V.int (i / j)) b1 b2 true opDiv := by
  intro B G H c σ fp x y dx dy d Q A rx ry e p
  unfold opDiv at e
  split at e
  · split at e
    · cases e
      rename_i hc
      exact ⟨_, _, rx.intH, ry.intH, hc, p.here A (.int _)⟩
    · cases e
  · cases e
def opPow : D → D → Option D
  | .int i, .int j => if 0 ≤ j ∧ j ≤ 1000000 ∧ i.natAbs < 2 ^ 64 then some (.int (i ^ j.toNat)) else none
  | _, _ => none
theorem ok_pow : Op2Ok ⟨X.K, X.mg, X.w⟩ (rI CPow fun i j => V.int (i ^ j.toNat)) b1 b2 true opPow := by
  intro B G H c σ fp x y dx dy d Q A rx ry e p
  unfold opPow at e
  split at e
  · split at e
    · cases e
      rename_i hc
      exact ⟨_, _, rx.intH, ry.intH, hc, p.here A (.int _)⟩
    · cases e
  · cases e
def opShl : D → D → Option D
  | .int i, .int j => if 0 ≤ j ∧ j ≤ 1000000 ∧ i.natAbs < 2 ^ 64 then some (.int (i * 2 ^ j.toNat)) else none
  | _, _ => none
theorem ok_shl : Op2Ok ⟨X.K, X.mg, X.w⟩ (rI CPow fun i j => V.int (i * 2 ^ j.toNat)) b1 b2 true opShl := by
  intro B G H c σ fp x y dx dy d Q A rx ry e p
  unfold opShl at e
  split at e
  · split at e
    · cases e
      rename_i hc
      exact ⟨_, _, rx.intH, ry.intH, hc, p.here A (.int _)⟩
    · cases e
  · cases e
def opShr : D → D → Option D
  | .int i, .int j => if 0 ≤ j then some (.int (i / 2 ^ j.toNat)) else none
  | _, _ => none
theorem ok_shr : Op2Ok ⟨X.K, X.mg, X.w⟩ (rI (fun _ j => 0 ≤ j) fun i j => V.int (i / 2 ^ j.toNat)) b1 b2 true opShr := by
  intro B G H c σ fp x y dx dy d Q A rx ry e p
  unfold opShr at e
  split at e
  · split at e
    · cases e
      rename_i hc
      exact ⟨_, _, rx.intH, ry.intH, hc, p.here A (.int _)⟩
    · cases e
  · cases e
def opBit (f : Int → Int → Int) : D → D → Option D
  | .int i, .int j => some (.int (f i j))
  | _, _ => none
theorem ok_bit {f : Int → Int → Int} : Op2Ok ⟨X.K, X.mg, X.w⟩ (rI0 fun i j => V.int (f i j)) b1 b2 true (opBit f) := by
  intro B G H c σ fp x y dx dy d Q A rx ry e p
  unfold opBit at e
  split at e
  · cases e
    exact ⟨_, _, rx.intH, ry.intH, p.here A (.int _)⟩
  · cases e
/-- < and its kin, of ints -/
def opRel (f : Int → Int → Bool) : D → D → Option D
  | .int i, .int j => some (.bl (f i j))
  | _, _ => none
theorem ok_rel {f : Int → Int → Bool} : Op2Ok ⟨X.K, X.mg, X.w⟩ (rI0 fun i j => V.bl (f i j)) b1 b2 true (opRel f) := by
  intro B G H c σ fp x y dx dy d Q A rx ry e p
  unfold opRel at e
  split at e
  · cases e
    exact ⟨_, _, rx.intH, ry.intH, p.here A (.bl _)⟩
  · cases e
end
end VS

/-! VS: equality, membership, items, slices. -/
namespace VS
open PySem PySem.Spec PyProof.Rows L2

mutual
def D.py : D → PyData
  | .non => .none
  | .bl b => .bool b
  | .int i => .int i
  | .str l => .str (S l)
  | .tup ds => .tuple (D.pys ds)
  | .lst ds => .list (D.pys ds)
  | .dic _ _ => .none
  | .dlk _ _ => .none
  | .ndk _ _ => .none
  | .nlk _ _ => .none
  | .rng _ _ => .none
  | .obj _ _ _ => .none
def D.pys : List D → List PyData
  | [] => []
  | d :: ds => D.py d :: D.pys ds
end
mutual
/-- data that == may meet: no dict, no object; at most n deep -/
def D.pln : Nat → D → Bool
  | _, .non => true
  | _, .bl _ => true
  | _, .int _ => true
  | _, .str l => l.all (· < 0x110000)
  | 0, .tup _ => false
  | 0, .lst _ => false
  | n + 1, .tup ds => D.plns n ds
  | n + 1, .lst ds => D.plns n ds
  | _, .dic _ _ => false
  | _, .dlk _ _ => false
  | _, .ndk _ _ => false
  | _, .nlk _ _ => false
  | _, .rng _ _ => false
  | _, .obj _ _ _ => false
def D.plns : Nat → List D → Bool
  | _, [] => true
  | n, d :: ds => D.pln n d && D.plns n ds
end
mutual
/-- == -/
def D.eqv : D → D → Bool
  | .non, .non => true
  | .bl a, .bl b => a == b
  | .bl a, .int j => (if a then 1 else 0) == j
  | .int i, .bl b => i == (if b then 1 else 0)
  | .int i, .int j => i == j
  | .str x, .str y => x == y
  | .tup xs, .tup ys => D.eqvs xs ys
  | .lst xs, .lst ys => D.eqvs xs ys
  | _, _ => false
def D.eqvs : List D → List D → Bool
  | [], [] => true
  | x :: xs, y :: ys => D.eqv x y && D.eqvs xs ys
  | _, _ => false
end
mutual
theorem D.lay : ∀ (n : Nat) (d : D), D.pln n d = true → d.py.canLay0 = true ∧ d.py.depth ≤ n
  | n, .non, _ => by simp [D.py, PyData.canLay0, PyData.depth]
  | n, .bl _, _ => by simp [D.py, PyData.canLay0, PyData.depth]
  | n, .int _, _ => by simp [D.py, PyData.canLay0, PyData.depth]
  | n, .str l, h => by
    simp only [D.py, PyData.canLay0, PyData.depth]
    refine ⟨?_, Nat.zero_le _⟩
    rw [D.pln] at h
    show (l.toArray).all _ = true
    rw [← Array.all_toList]
    exact h
  | 0, .tup _, h => by simp [D.pln] at h
  | 0, .lst _, h => by simp [D.pln] at h
  | n + 1, .tup ds, h => by
    rw [D.pln] at h
    obtain ⟨h1, h2⟩ := D.lays n ds h
    simp only [D.py, PyData.canLay0, PyData.depth]
    exact ⟨h1, by omega⟩
  | n + 1, .lst ds, h => by
    rw [D.pln] at h
    obtain ⟨h1, h2⟩ := D.lays n ds h
    simp only [D.py, PyData.canLay0, PyData.depth]
    exact ⟨h1, by omega⟩
  | n, .dic _ _, h => by simp [D.pln] at h
  | n, .dlk _ _, h => by simp [D.pln] at h
  | n, .ndk _ _, h => by simp [D.pln] at h
  | n, .nlk _ _, h => by simp [D.pln] at h
  | n, .rng _ _, h => by simp [D.pln] at h
  | n, .obj _ _ _, h => by simp [D.pln] at h
theorem D.lays : ∀ (n : Nat) (ds : List D), D.plns n ds = true → PyData.canLayAll0 (D.pys ds) = true ∧ PyData.depthAll (D.pys ds) ≤ n
  | n, [], _ => by simp [D.pys, PyData.canLayAll0, PyData.depthAll]
  | n, d :: ds, h => by
    rw [D.plns] at h
    simp at h
    obtain ⟨h1, h2⟩ := D.lay n d h.1
    obtain ⟨h3, h4⟩ := D.lays n ds h.2
    simp only [D.pys, PyData.canLayAll0, PyData.depthAll]
    exact ⟨by simp [h1, h3], by omega⟩
end
theorem D.shaped {n : Nat} {d : D} (hn : n ≤ 64) (h : D.pln n d = true) : SeqAt.shaped d.py = true := by
  obtain ⟨h1, h2⟩ := D.lay n d h
  unfold SeqAt.shaped
  rw [h1]
  simp
  omega
mutual
theorem D.eqv_py : ∀ (n m : Nat) (d e : D), D.pln n d = true → D.pln m e = true → PyData.eqv d.py e.py = D.eqv d e
  | n, m, .tup xs, .tup ys, h, k => by
    cases n with
    | zero => simp [D.pln] at h
    | succ n => cases m with
      | zero => simp [D.pln] at k
      | succ m =>
        rw [D.pln] at h k
        simp only [D.py, PyData.eqv, D.eqv]
        exact D.eqvs_py n m xs ys h k
  | n, m, .lst xs, .lst ys, h, k => by
    cases n with
    | zero => simp [D.pln] at h
    | succ n => cases m with
      | zero => simp [D.pln] at k
      | succ m =>
        rw [D.pln] at h k
        simp only [D.py, PyData.eqv, D.eqv]
        exact D.eqvs_py n m xs ys h k
  | n, m, .non, e, h, k => by cases e <;> simp_all [D.py, PyData.eqv, D.eqv, D.pln]
  | n, m, .bl _, e, h, k => by cases e <;> simp_all [D.py, PyData.eqv, D.eqv, D.pln]
  | n, m, .int _, e, h, k => by cases e <;> simp_all [D.py, PyData.eqv, D.eqv, D.pln]
  | n, m, .str a, .str b, h, k => by
    simp only [D.py, PyData.eqv, D.eqv]
    by_cases e : a = b
    · subst e; simp
    · have e2 : ¬ S a = S b := fun z => e (S_inj.mp z)
      rw [beq_eq_false_iff_ne.mpr e, beq_eq_false_iff_ne.mpr e2]
  | n, m, .str _, .non, h, k => by simp [D.py, PyData.eqv, D.eqv]
  | n, m, .str _, .bl _, h, k => by simp [D.py, PyData.eqv, D.eqv]
  | n, m, .str _, .int _, h, k => by simp [D.py, PyData.eqv, D.eqv]
  | n, m, .str _, .tup _, h, k => by simp [D.py, PyData.eqv, D.eqv]
  | n, m, .str _, .lst _, h, k => by simp [D.py, PyData.eqv, D.eqv]
  | n, m, _, .dic _ _, h, k => by simp [D.pln] at k
  | n, m, _, .dlk _ _, h, k => by simp [D.pln] at k
  | n, m, _, .ndk _ _, h, k => by simp [D.pln] at k
  | n, m, _, .nlk _ _, h, k => by simp [D.pln] at k
  | n, m, _, .rng _ _, h, k => by simp [D.pln] at k
  | n, m, _, .obj _ _ _, h, k => by simp [D.pln] at k
  | n, m, .dic _ _, _, h, k => by simp [D.pln] at h
  | n, m, .dlk _ _, _, h, k => by simp [D.pln] at h
  | n, m, .ndk _ _, _, h, k => by simp [D.pln] at h
  | n, m, .nlk _ _, _, h, k => by simp [D.pln] at h
  | n, m, .rng _ _, _, h, k => by simp [D.pln] at h
  | n, m, .obj _ _ _, _, h, k => by simp [D.pln] at h
  | n, m, .tup _, .non, h, k => by simp [D.py, PyData.eqv, D.eqv]
  | n, m, .tup _, .bl _, h, k => by simp [D.py, PyData.eqv, D.eqv]
  | n, m, .tup _, .int _, h, k => by simp [D.py, PyData.eqv, D.eqv]
  | n, m, .tup _, .str _, h, k => by simp [D.py, PyData.eqv, D.eqv]
  | n, m, .tup _, .lst _, h, k => by simp [D.py, PyData.eqv, D.eqv]
  | n, m, .lst _, .non, h, k => by simp [D.py, PyData.eqv, D.eqv]
  | n, m, .lst _, .bl _, h, k => by simp [D.py, PyData.eqv, D.eqv]
  | n, m, .lst _, .int _, h, k => by simp [D.py, PyData.eqv, D.eqv]
  | n, m, .lst _, .str _, h, k => by simp [D.py, PyData.eqv, D.eqv]
  | n, m, .lst _, .tup _, h, k => by simp [D.py, PyData.eqv, D.eqv]
theorem D.eqvs_py : ∀ (n m : Nat) (xs ys : List D), D.plns n xs = true → D.plns m ys = true → PyData.eqvAll (D.pys xs) (D.pys ys) = D.eqvs xs ys
  | n, m, [], [], _, _ => by simp [D.pys, PyData.eqvAll, D.eqvs]
  | n, m, [], y :: ys, _, _ => by simp [D.pys, PyData.eqvAll, D.eqvs]
  | n, m, x :: xs, [], _, _ => by simp [D.pys, PyData.eqvAll, D.eqvs]
  | n, m, x :: xs, y :: ys, h, k => by
    rw [D.plns] at h k
    simp at h k
    simp only [D.pys, PyData.eqvAll, D.eqvs]
    rw [D.eqv_py n m x y h.1 k.1, D.eqvs_py n m xs ys h.2 k.2]
end
@[simp] theorem D.pys_map (ds : List D) : D.pys ds = ds.map D.py := by
  induction ds with
  | nil => rfl
  | cons d ds ih => rw [D.pys, ih]; rfl
theorem plns_all (n : Nat) (ds : List D) : D.plns n ds = ds.all (D.pln n) := by
  induction ds with
  | nil => rfl
  | cons d ds ih => rw [D.plns, ih]; rfl

section
variable {E : Wd} {G : Hp}
mutual
theorem Rp.dp : ∀ (n : Nat) (d : D) (v : V), Rp E G v d → D.pln n d = true → Dp E.K G v d.py
  | n, .non, _, h, _ => by cases h; exact .non
  | n, .bl b, _, h, _ => by cases h; exact .bl b
  | n, .int i, _, h, _ => by cases h; exact .int i
  | n, .str l, _, h, _ => by cases h; exact .str _
  | 0, .tup ds, _, h, k => by simp [D.pln] at k
  | 0, .lst ds, _, h, k => by simp [D.pln] at k
  | n + 1, .tup ds, _, h, k => by
    cases h with
    | tup h r => rw [D.py]; exact .tup h (RpL.dp n ds _ r (by rw [D.pln] at k; exact k))
  | n + 1, .lst ds, _, h, k => by
    cases h with
    | lst h r => rw [D.py]; exact .lst h (RpL.dp n ds _ r (by rw [D.pln] at k; exact k))
  | n, .dic _ _, _, h, k => by simp [D.pln] at k
  | n, .dlk _ _, _, h, k => by simp [D.pln] at k
  | n, .ndk _ _, _, h, k => by simp [D.pln] at k
  | n, .nlk _ _, _, h, k => by simp [D.pln] at k
  | n, .rng _ _, _, h, k => by simp [D.pln] at k
  | n, .obj _ _ _, _, h, k => by simp [D.pln] at k
theorem RpL.dp : ∀ (n : Nat) (ds : List D) (vs : List V), RpL E G vs ds → D.plns n ds = true → DpAll E.K G vs (D.pys ds)
  | n, [], _, h, _ => by cases h; exact .nil
  | n, d :: ds, _, h, k => by
    cases h with
    | cons h r =>
      rw [D.plns] at k
      simp at k
      rw [D.pys]
      exact .cons (Rp.dp n d _ h k.1) (RpL.dp n ds _ r k.2)
end
end
section
variable {X : Cx} {W : WX} {b b' b1 b2 : Bool}
def opEq : D → D → Option D := fun d e => if D.pln 64 d && D.pln 64 e then some (.bl (D.eqv d e)) else none
def opNe : D → D → Option D := fun d e => if D.pln 64 d && D.pln 64 e then some (.bl (!D.eqv d e)) else none
theorem ok_eq : Op2Ok ⟨X.K, X.mg, X.w⟩ (rEqD X.K) b1 b2 true opEq := by
  intro B G H c σ fp x y dx dy d Q A rx ry e p
  unfold opEq at e
  split at e
  · cases e
    rename_i hc
    simp at hc
    exact ⟨_, _, Rp.dp 64 _ _ (vw_rp A.fine.le rx) hc.1, Rp.dp 64 _ _ (vw_rp A.fine.le ry) hc.2, D.shaped (Nat.le_refl _) hc.1, D.shaped (Nat.le_refl _) hc.2, by rw [D.eqv_py 64 64 _ _ hc.1 hc.2]; exact p.here A (.bl _)⟩
  · cases e
theorem ok_ne : Op2Ok ⟨X.K, X.mg, X.w⟩ (rNeD X.K) b1 b2 true opNe := by
  intro B G H c σ fp x y dx dy d Q A rx ry e p
  unfold opNe at e
  split at e
  · cases e
    rename_i hc
    simp at hc
    exact ⟨_, _, Rp.dp 64 _ _ (vw_rp A.fine.le rx) hc.1, Rp.dp 64 _ _ (vw_rp A.fine.le ry) hc.2, D.shaped (Nat.le_refl _) hc.1, D.shaped (Nat.le_refl _) hc.2, by rw [D.eqv_py 64 64 _ _ hc.1 hc.2]; exact p.here A (.bl _)⟩
  · cases e
/-! ### is None -/
def D.isNon : D → Bool
  | .non => true
  | _ => false
def opIs : D → D → Option D
  | d, .non => some (.bl d.isNon)
  | _, _ => none
def opIsnt : D → D → Option D
  | d, .non => some (.bl (!d.isNon))
  | _, _ => none
theorem rp_non {E : Wd} {G : Hp} {v : V} {d : D} (r : Rp E G v d) : decide (v = .non) = d.isNon := by cases r <;> simp [D.isNon]
theorem ok_is : Op2Ok ⟨X.K, X.mg, X.w⟩ (fun x y H Q => y = .non ∧ Q (.bl (decide (x = .non))) H) b1 b2 true opIs := by
  intro B G H c σ fp x y dx dy d Q A rx ry e p
  unfold opIs at e
  split at e
  · cases e
    refine ⟨by cases ry; rfl, ?_⟩
    rw [rp_non rx]
    exact p.here A (.bl _)
  · cases e
theorem ok_isnt : Op2Ok ⟨X.K, X.mg, X.w⟩ (fun x y H Q => y = .non ∧ Q (.bl (!decide (x = .non))) H) b1 b2 true opIsnt := by
  intro B G H c σ fp x y dx dy d Q A rx ry e p
  unfold opIsnt at e
  split at e
  · cases e
    refine ⟨by cases ry; rfl, ?_⟩
    rw [rp_non rx]
    exact p.here A (.bl _)
  · cases e
/-! ### in -/
def inD : D → D → Option Bool
  | .str x, .str l => some (!(Builtin.Str.occurrences (S l) (S x) 0 l.length 1).isEmpty)
  | d, .lst ds => if D.pln 64 d && D.pln 64 (.lst ds) then some (ds.any fun z => D.eqv z d) else none
  | d, .tup ds => if D.pln 64 d && D.pln 64 (.tup ds) then some (ds.any fun z => D.eqv z d) else none
  | d, .dic ks _ => match d.key with
    | some k => some (ks.any fun z => z.key == some k)
    | none => none
  | _, _ => none
def opIn : D → D → Option D := fun d e => (inD d e).map D.bl
def opNotIn : D → D → Option D := fun d e => (inD d e).map fun t => D.bl !t
def rInA (K : PySem.W.Frag) (neg : Bool) : R2 := fun x y H Q => ∃ d ds, Dp K H x d ∧ (Dp K H y (.list ds) ∨ Dp K H y (.tuple ds)) ∧ SeqAt.shaped d = true ∧ SeqAt.shaped (.list ds) = true ∧ Q (.bl (if neg then !(ds.any fun z => PyData.eqv z d) else ds.any fun z => PyData.eqv z d)) H
theorem op_inA (hu : X.A.units + 65 < cLine) : OpR X (compareOp .In) (rInA X.K false) := by
  intro pins s σ H x y v u Q I rx ry h
  obtain ⟨d, ds, hd, he, sd, se, q⟩ := h
  obtain ⟨as, r1⟩ := Dp.reads I d x v hd rx
  rcases he with he | he
  · obtain ⟨bs, r2⟩ := Dp.reads I (.list ds) y u he ry
    exact SeqAt.in_list_reads r2 r1 (SeqAt.canLay_of_shaped se) (SeqAt.canLay_of_shaped sd) (room_in_shaped sd hu) ⟨.bl _, H, I, rfl, q⟩
  · obtain ⟨bs, r2⟩ := Dp.reads I (.tuple ds) y u he ry
    exact SeqAt.in_tuple_reads r2 r1 (SeqAt.canLay_of_shaped se) (SeqAt.canLay_of_shaped sd) (room_in_shaped sd hu) ⟨.bl _, H, I, rfl, q⟩
theorem op_notInA (hu : X.A.units + 65 < cLine) : OpR X (compareOp .NotIn) (rInA X.K true) := by
  intro pins s σ H x y v u Q I rx ry h
  obtain ⟨d, ds, hd, he, sd, se, q⟩ := h
  obtain ⟨as, r1⟩ := Dp.reads I d x v hd rx
  rcases he with he | he
  · obtain ⟨bs, r2⟩ := Dp.reads I (.list ds) y u he ry
    exact SeqAt.notIn_list_reads r2 r1 (SeqAt.canLay_of_shaped se) (SeqAt.canLay_of_shaped sd) (room_in_shaped sd hu) ⟨.bl _, H, I, rfl, q⟩
  · obtain ⟨bs, r2⟩ := Dp.reads I (.tuple ds) y u he ry
    exact SeqAt.notIn_tuple_reads r2 r1 (SeqAt.canLay_of_shaped se) (SeqAt.canLay_of_shaped sd) (room_in_shaped sd hu) ⟨.bl _, H, I, rfl, q⟩
def rStrIn (neg : Bool) : R2 := fun x y H Q => ∃ i j, x = .str i ∧ y = .str j ∧ Q (.bl (if neg then !(!(Builtin.Str.occurrences j i 0 j.length 1).isEmpty) else !(Builtin.Str.occurrences j i 0 j.length 1).isEmpty)) H
def rInX (K : PySem.W.Frag) (neg : Bool) : R2 := fun x y H Q => rStrIn neg x y H Q ∨ rInA K neg x y H Q
theorem op_inX (hu : X.A.units + 65 < cLine) : OpR X (compareOp .In) (rInX X.K false) := OpR.or op_in_str (op_inA hu)
theorem op_notInX (hu : X.A.units + 65 < cLine) : OpR X (compareOp .NotIn) (rInX X.K true) := OpR.or op_notin_str (op_notInA hu)
/-- membership but in a dict -/
def inS : D → D → Option Bool
  | .str x, .str l => some (!(Builtin.Str.occurrences (S l) (S x) 0 l.length 1).isEmpty)
  | d, .lst ds => if D.pln 64 d && D.pln 64 (.lst ds) then some (ds.any fun z => D.eqv z d) else none
  | d, .tup ds => if D.pln 64 d && D.pln 64 (.tup ds) then some (ds.any fun z => D.eqv z d) else none
  | _, _ => none
theorem any_py {n : Nat} {d : D} {ds : List D} (h : D.pln 64 d = true) (k : D.plns n ds = true) : ((D.pys ds).any fun z => PyData.eqv z d.py) = ds.any fun z => D.eqv z d := by
  rw [plns_all] at k
  rw [D.pys_map, List.any_map]
  induction ds with
  | nil => rfl
  | cons x ds ih =>
    simp at k
    rw [List.any_cons, List.any_cons, ih (by simpa using k.2)]
    show (PyData.eqv x.py d.py || _) = _
    rw [D.eqv_py n 64 x d k.1 h]
theorem ok_inX {neg : Bool} : Op2Ok ⟨X.K, X.mg, X.w⟩ (rInX X.K neg) b1 b2 true (fun d e => (inS d e).map fun t => D.bl (if neg then !t else t)) := by
  intro B G H c σ fp x y dx dy d Q A rx ry e p
  have rx' := vw_rp A.fine.le rx
  have ry' := vw_rp A.fine.le ry
  obtain ⟨t, ht, rfl⟩ := Option.map_eq_some_iff.mp e
  clear e
  unfold inS at ht
  split at ht
  · cases ht
    refine .inl ⟨_, _, rx'.strH, ry'.strH, ?_⟩
    rw [S_len]
    exact p.here A (.bl _)
  · split at ht
    · cases ht
      rename_i es hc
      simp only [Bool.and_eq_true] at hc
      obtain ⟨h1, h2⟩ := hc
      have h3 : D.plns 63 es = true := by rw [D.pln] at h2; exact h2
      have hd := Rp.dp 64 _ _ ry' h2
      rw [D.py] at hd
      have hs := D.shaped (Nat.le_refl _) h2
      rw [D.py] at hs
      refine .inr ⟨_, _, Rp.dp 64 _ _ rx' h1, .inl hd, D.shaped (Nat.le_refl _) h1, hs, ?_⟩
      rw [any_py h1 h3]
      exact p.here A (.bl _)
    · cases ht
  · split at ht
    · cases ht
      rename_i es hc
      simp only [Bool.and_eq_true] at hc
      obtain ⟨h1, h2⟩ := hc
      have h3 : D.plns 63 es = true := by rw [D.pln] at h2; exact h2
      have hd := Rp.dp 64 _ _ ry' h2
      rw [D.py] at hd
      have hs : SeqAt.shaped (PyData.list (D.pys es)) = true := by
        have z := D.shaped (Nat.le_refl 64) h2
        rw [D.py] at z
        unfold SeqAt.shaped at z ⊢
        simp only [PyData.canLay0, PyData.depth] at z ⊢
        exact z
      refine .inr ⟨_, _, Rp.dp 64 _ _ rx' h1, .inr hd, D.shaped (Nat.le_refl _) h1, hs, ?_⟩
      rw [any_py h1 h3]
      exact p.here A (.bl _)
    · cases ht
  · cases ht
def opInS : D → D → Option D := fun d e => (inS d e).map fun t => D.bl t
def opNotInS : D → D → Option D := fun d e => (inS d e).map fun t => D.bl (!t)
theorem ok_inS : Op2Ok ⟨X.K, X.mg, X.w⟩ (rInX X.K false) b1 b2 true opInS := ok_inX (neg := false)
theorem ok_notInS : Op2Ok ⟨X.K, X.mg, X.w⟩ (rInX X.K true) b1 b2 true opNotInS := ok_inX (neg := true)

/-! ### items -/
def opIx (b : Bool) : D → D → Option D
  | .lst ds, .int i => (atI ds i).bind fun d => if okE b d then some d else none
  | .tup ds, .int i => (atI ds i).bind fun d => if okE b d then some d else none
  | .str l, .int i => if l.length ≤ 16777216 then (atI l i).map fun x => .str [x] else none
  | _, _ => none
theorem RpL.at {E : Wd} {G : Hp} {vs : List V} {ds : List D} (h : RpL E G vs ds) {i : Int} {d : D} (e : atI ds i = some d) : ∃ v, atI vs i = some v ∧ Rp E G v d := by
  unfold atI at e ⊢
  rw [h.length]
  cases k : ixN ds.length i with
  | none => rw [k] at e; cases e
  | some j =>
    rw [k] at e
    exact h.get e
theorem ok_ix : Op2Ok ⟨X.K, X.mg, X.w⟩ (rIx X.K) b b2 true (opIx b) := by
  intro B G H c σ fp x y dx dy d Q A rx ry e p
  unfold opIx at e
  split at e
  · rename_i ds i
    cases hk : atI ds i with
    | none => rw [hk] at e; cases e
    | some d' =>
      rw [hk] at e
      have e : (if okE b d' then some d' else none) = some d := e
      split at e
      · cases e
        rename_i hok
        obtain ⟨a, vs, rfl, h1, r1⟩ := rx.lstH A.fine.le
        obtain ⟨v, hv, rv⟩ := r1.at hk
        exact .inl ⟨_, _, _, _, rfl, ry.intH, h1, hv, p.here A (rv.known A.fine hok)⟩
      · cases e
  · rename_i ds i
    cases hk : atI ds i with
    | none => rw [hk] at e; cases e
    | some d' =>
      rw [hk] at e
      have e : (if okE b d' then some d' else none) = some d := e
      split at e
      · cases e
        rename_i hok
        obtain ⟨a, vs, rfl, h1, r1⟩ := rx.tupH A.fine.le
        obtain ⟨v, hv, rv⟩ := r1.at hk
        exact .inr (.inl ⟨_, _, _, _, rfl, ry.intH, h1, hv, p.here A (rv.known A.fine hok)⟩)
      · cases e
  · rename_i l i
    split at e
    · rename_i hl
      cases hk : atI l i with
      | none => rw [hk] at e; cases e
      | some z =>
        rw [hk] at e
        cases e
        refine .inr (.inr ⟨_, _, z, rx.strH, ry.intH, by rw [S_len, sizeLine_eq]; exact hl, hk, ?_⟩)
        exact p.here A (.str [z])
    · cases e
  · cases e
theorem px_ix {a eb : Expr} {pos : Pos} {ga gb : Env → R D} (ha : PX X W b a ga) (hb : PX X W b2 eb gb) (hs : PlainIx eb := by exact fun _ _ => rfl) : PX X W true (.Subscript a eb pos) (eOp2 (opIx b) ga gb) :=
  pe_mono (pe_ix ix_seq ha hb hs) (tx_op2 ok_ix)

/-! ### slices -/
def eO (g : Env → R D) : Env → R (Option Int) := fun c => g c >>= fun d => match d with
  | .int i => .ok (some i)
  | _ => .stuck
def eNoO : Env → R (Option Int) := fun _ => .ok none
def PostO (E : Wd) (B : Bs) (c : Env) (σ : L2.St) (fp : List Addr) (G H : Hp) (Q : Option Int → Hp → Prop) (t : Option Int) : Prop :=
  ∀ G' H', Same G G' → Same H H' → Abs E B G' H' c σ fp → Q t H'
def TXO (E : Wd) (W : WX) (g : Env → R (Option Int)) : TO := fun σ H Q => ∃ B G c fp, Abs E B G H c σ fp ∧ Res E W B c σ fp G H (g c) (PostO E B c σ fp G H Q)
def PXO (X : Cx) (W : WX) (e : Option Expr) (g : Env → R (Option Int)) : Prop := PO X e (TXO ⟨X.K, X.mg, X.w⟩ W g)
theorem po_mono {e : Option Expr} {t t' : TO} (h : PO X e t) (k : ∀ σ H Q, t' σ H Q → t σ H Q) : PO X e t' := ⟨fun pins s σ H Q I q => h.run pins s σ H Q I (k σ H Q q)⟩
theorem pxo_no : PXO X W none eNoO := po_mono po_none fun σ H Q ⟨B, G, c, fp, A, q⟩ => q G H (Same.refl _) (Same.refl _) A
theorem pxo_some {e : Expr} {g : Env → R D} (h : PX X W b e g) : PXO X W (some e) (eO g) := po_mono (po_some h) fun σ H Q ⟨B, G, c, fp, A, q⟩ => tx_seq A q fun d e v G1 H1 s1 t1 A1 r1 q1 => by
  cases d with
  | int i => exact ⟨i, r1.intH, q1 G1 H1 s1 t1 A1⟩
  | _ => exact q1.elim
theorem txo_seq {α : Type} {E : Wd} {W : WX} {B : Bs} {c : Env} {σ : L2.St} {fp : List Addr} {G H : Hp} {ga : Env → R (Option Int)} {f : Option Int → R α} {P : α → Prop} {Q' : Option Int → Hp → Prop} (A : Abs E B G H c σ fp) (h : Res E W B c σ fp G H (ga c >>= f) P)
    (k : ∀ t, ga c = .ok t → ∀ G1 H1, Same G G1 → Same H H1 → Abs E B G1 H1 c σ fp → Res E W B c σ fp G1 H1 (f t) P → Q' t H1) : TXO E W ga σ H Q' := by
  refine ⟨B, G, c, fp, A, ?_⟩
  cases e : ga c with
  | ok d =>
    rw [e] at h
    exact fun G1 H1 s t A1 => k d e G1 H1 s t A1 (Res.grow (r := f d) h s t fun _ _ z => z)
  | ex x => rw [e] at h; exact h
  | stuck => rw [e] at h; exact h
/-- the part of a list between two places -/
def cutD {α : Type} (xs : List α) (lo hi : Option Int) : List α := (xs.drop (HT.sIx xs.length 0 lo)).take (HT.sIx xs.length xs.length hi - HT.sIx xs.length 0 lo)
def opSl (b : Bool) (d : D) (lo hi : Option Int) : Option D :=
  match d with
  | .lst ds => if okEl b (cutD ds lo hi) then some (.lst (cutD ds lo hi)) else none
  | .tup ds => if okEl b (cutD ds lo hi) then some (.tup (cutD ds lo hi)) else none
  | .str l => if l.length ≤ 16777216 then some (.str (cutD l lo hi)) else none
  | _ => none
def eSl (b : Bool) (g : Env → R D) (gl gh : Env → R (Option Int)) : Env → R D := fun c => g c >>= fun d => gl c >>= fun lo => gh c >>= fun hi => lift (opSl b d lo hi)
def rSlX' (K : PySem.W.Frag) : V → Option Int → Option Int → Hp → VK → Prop := fun x lo hi H Q => rSlL K x lo hi H Q ∨ rSlA K x lo hi H Q ∨ rSlS x lo hi H Q
theorem sl_X : SlR X (rSlX' X.K) := sl_list.or (sl_tupA.or sl_str)
theorem RpL.cut {E : Wd} {G : Hp} {vs : List V} {ds : List D} (h : RpL E G vs ds) (lo hi : Option Int) : RpL E G (cutV vs lo hi) (cutD ds lo hi) := by
  unfold cutV cutD
  rw [h.length]
  exact (h.drop _).take _
theorem cut_whole {α : Type} {xs : List α} {lo hi : Option Int} (h : HT.sIx xs.length 0 lo = 0 ∧ HT.sIx xs.length xs.length hi = xs.length) : cutD xs lo hi = xs := by
  unfold cutD
  rw [h.1, h.2]
  simp
theorem ok_sl {B : Bs} {G H : Hp} {c : Env} {σ : L2.St} {fp : List Addr} {x : V} {d d' : D} {lo hi : Option Int} {Q : VK} (A : Abs ⟨X.K, X.mg, X.w⟩ B G H c σ fp) (rx : Rp ⟨X.K, X.mg, X.w⟩ (vw b G H) x d) (e : opSl b d lo hi = some d') (p : Post ⟨X.K, X.mg, X.w⟩ B c σ fp G H true Q d') : rSlX' X.K x lo hi H Q := by
  unfold opSl at e
  split at e
  · split at e
    · cases e
      rename_i hok
      obtain ⟨a, vs, rfl, h1, r1⟩ := rx.lstH A.fine.le
      exact .inl ⟨_, _, rfl, h1, fun q hq => p.new A hq fun s => .lst (.inl (.inl upd_same)) (((r1.cut lo hi).known A.fine hok).mono s)⟩
    · cases e
  · split at e
    · cases e
      rename_i ds hok
      obtain ⟨a, vs, rfl, h1, r1⟩ := rx.tupH A.fine.le
      have r2 := (r1.cut lo hi).known A.fine hok
      refine .inr (.inl ⟨_, _, rfl, h1, fun hw => ?_, fun hw q hq => p.new A hq fun s => .tup (.inl (.inl upd_same)) (r2.mono s)⟩)
      have e1 : cutV vs lo hi = vs := cut_whole hw
      rw [r1.length] at hw
      have e2 : cutD ds lo hi = ds := cut_whole hw
      rw [e1, e2] at r2
      rw [e2] at p
      refine p.here A (.tup ?_ r2)
      rcases h1 with (z | ⟨o, z⟩) | z
      · exact .inl (.inl (A.fine.tup _ _ z rfl))
      · exact .inl (.inr ⟨o, A.fine.tup _ _ z rfl⟩)
      · exact .inr z
    · cases e
  · split at e
    · cases e
      rename_i l hl
      refine .inr (.inr ⟨S l, rx.strH, by rw [S_len, sizeLine_eq]; exact hl, ?_⟩)
      have e2 : cutS (S l) lo hi = S (cutD l lo hi) := by
        unfold cutS cutD S
        simp [Str.length]
      rw [e2]
      exact p.here A (.str _)
    · cases e
  · cases e
theorem px_sl {a : Expr} {lo hi : Option Expr} {pos p2 : Pos} {g : Env → R D} {gl gh : Env → R (Option Int)} (ha : PX X W b a g) (hl : PXO X W lo gl) (hh : PXO X W hi gh) : PX X W true (.Subscript a (.Slice lo hi none p2) pos) (eSl b g gl gh) :=
  pe_mono (pe_slice sl_X ha hl hh) fun σ H Q ⟨B, G, c, fp, A, q⟩ => tx_seq A q fun d e v G1 H1 s1 t1 A1 r1 q1 => txo_seq A1 q1 fun lo e2 G2 H2 s2 t2 A2 q2 => txo_seq A2 q2 fun hi e3 G3 H3 s3 t3 A3 q3 => by
    obtain ⟨d3, e3, p3⟩ := Res.lift q3
    exact ok_sl A3 (vw_mono (s2.trans s3) (t2.trans t3) r1) e3 (p3.grow (s1.trans (s2.trans s3)) (t1.trans (t2.trans t3)))
end
end VS

/-! VS: built-in functions and methods. -/
namespace VS
open PySem PySem.Spec PyProof.Rows L2

section
variable {X : Cx} {W : WX} {b b' b1 b2 : Bool}
theorem RpL.one {E : Wd} {G : Hp} {vs : List V} {d : D} (h : RpL E G vs [d]) : ∃ v, vs = [v] ∧ Rp E G v d := by
  cases h with
  | cons h r => cases r; exact ⟨_, rfl, h⟩
theorem RpL.two {E : Wd} {G : Hp} {vs : List V} {d e : D} (h : RpL E G vs [d, e]) : ∃ v w, vs = [v, w] ∧ Rp E G v d ∧ Rp E G w e := by
  cases h with
  | cons h r => cases r with
    | cons k r => cases r; exact ⟨_, _, rfl, h, k⟩
theorem vw_rd {G H : Hp} {a : Addr} {u : HO} (s : Same G H) (h : Rd (vw b G H) a u) : Rd H a u := Same.rd (same_vw b s) h
theorem Rp.dicH {E : Wd} {G H : Hp} {v : V} {ks ds : List D} (r : Rp E (vw b G H) v (.dic ks ds)) (s : Same G H) : ∃ a kvs, v = .ref a ∧ Rd H a (.dK kvs) ∧ ks.map D.key = kvs.map (fun p => some p.1) ∧ RpL E (vw b G H) (kvs.map (·.2)) ds := by
  cases r with
  | dic h e r => exact ⟨_, _, rfl, Same.rd (same_vw b s) h, e, r⟩

/-! ### len -/
def fLen : List D → Option D
  | [.str l] => if l.length ≤ 16777216 then some (.int l.length) else none
  | [.lst ds] => some (.int ds.length)
  | [.tup ds] => some (.int ds.length)
  | [.dic ks _] => some (.int ks.length)
  | [.dlk ks _] => some (.int ks.length)
  | _ => none
def rLenA (K : PySem.W.Frag) : List V → Hp → VK → Prop := fun xs H Q => (∃ x n, xs = [x] ∧ LenV K x H n ∧ Q (.int n) H) ∨ ∃ a kvs, xs = [V.ref a] ∧ Rd H a (.dK kvs) ∧ Q (.int kvs.length) H
theorem call_lenA : CallR X (.builtin "len") (rLenA X.K) := call_len.or fun pins s σ H xs us Q I r h => by
  obtain ⟨a, kvs, rfl, ha, q⟩ := h
  obtain ⟨u, rfl, ru⟩ := vals1 r
  cases ru
  exact d_len I ha fun t s' I' => ⟨.int kvs.length, H, I', ⟨t, rfl⟩, q⟩
theorem ok_len : CallOk ⟨X.K, X.mg, X.w⟩ (rLenA X.K) b true fLen := by
  intro B G H c σ fp vs ds d Q A r e p
  unfold fLen at e
  split at e
  · split at e
    · cases e
      rename_i l hl
      obtain ⟨v, rfl, rv⟩ := r.one
      cases rv.strH
      exact .inl ⟨_, l.length, rfl, ⟨by rw [S_len, sizeLine_eq]; exact hl, by rw [S_len]⟩, p.here A (.int _)⟩
    · cases e
  · cases e
    rename_i ds
    obtain ⟨v, rfl, rv⟩ := r.one
    obtain ⟨a, vs, rfl, h1, r1⟩ := rv.lstH A.fine.le
    exact .inl ⟨_, ds.length, rfl, .inl ⟨vs, h1, r1.length.symm⟩, p.here A (.int _)⟩
  · cases e
    rename_i ds
    obtain ⟨v, rfl, rv⟩ := r.one
    obtain ⟨a, vs, rfl, h1, r1⟩ := rv.tupH A.fine.le
    exact .inl ⟨_, ds.length, rfl, .inr ⟨vs, h1, r1.length.symm⟩, p.here A (.int _)⟩
  · cases e
    rename_i ks ds
    obtain ⟨v, rfl, rv⟩ := r.one
    obtain ⟨a, kvs, rfl, h1, e1, r1⟩ := rv.dicH A.fine.le
    have hl : kvs.length = ks.length := by
      have := congrArg List.length e1
      simpa using this.symm
    refine .inr ⟨_, _, rfl, h1, ?_⟩
    rw [hl]
    exact p.here A (.int _)
  · cases e
    rename_i ks ds
    obtain ⟨v, rfl, rv⟩ := r.one
    have rv := vw_rp A.fine.le rv
    cases rv with
    | @dlk a o kvs _ _ h1 e1 r1 =>
      have hl : kvs.length = ks.length := by
        have := congrArg List.length e1
        simpa using this.symm
      refine .inr ⟨_, _, rfl, .inr ⟨_, h1⟩, ?_⟩
      rw [hl]
      exact p.here A (.int _)
  · cases e

/-! ### abs, int, max, min, list, tuple, sum, any, all -/
def fAbs : List D → Option D
  | [.int i] => some (.int (if i < 0 then -i else i))
  | _ => none
theorem ok_abs : CallOk ⟨X.K, X.mg, X.w⟩ (fun xs H Q => ∃ i, xs = [V.int i] ∧ Q (.int (if i < 0 then -i else i)) H) b true fAbs := by
  intro B G H c σ fp vs ds d Q A r e p
  unfold fAbs at e
  split at e
  · cases e
    obtain ⟨v, rfl, rv⟩ := r.one
    cases rv.intH
    exact ⟨_, rfl, p.here A (.int _)⟩
  · cases e
def fInt : List D → Option D
  | [.int i] => some (.int i)
  | [.bl t] => some (.int (if t then 1 else 0))
  | _ => none
theorem ok_int : CallOk ⟨X.K, X.mg, X.w⟩ (fun xs H Q => (∃ i, xs = [V.int i] ∧ Q (.int i) H) ∨ ∃ k, xs = [V.bl k] ∧ Q (.int (if k then 1 else 0)) H) b true fInt := by
  intro B G H c σ fp vs ds d Q A r e p
  unfold fInt at e
  split at e
  · cases e
    obtain ⟨v, rfl, rv⟩ := r.one
    cases rv.intH
    exact .inl ⟨_, rfl, p.here A (.int _)⟩
  · cases e
    obtain ⟨v, rfl, rv⟩ := r.one
    cases rv.blH
    exact .inr ⟨_, rfl, p.here A (.int _)⟩
  · cases e
def fMax2 : List D → Option D
  | [.int i, .int j] => some (.int (if j > i then j else i))
  | _ => none
theorem ok_max2 : CallOk ⟨X.K, X.mg, X.w⟩ (fun xs H Q => ∃ i j, xs = [V.int i, V.int j] ∧ Q (.int (if j > i then j else i)) H) b true fMax2 := by
  intro B G H c σ fp vs ds d Q A r e p
  unfold fMax2 at e
  split at e
  · cases e
    obtain ⟨v, w, rfl, rv, rw'⟩ := r.two
    cases rv.intH
    cases rw'.intH
    exact ⟨_, _, rfl, p.here A (.int _)⟩
  · cases e
def fMin2 : List D → Option D
  | [.int i, .int j] => some (.int (if j < i then j else i))
  | _ => none
theorem ok_min2 : CallOk ⟨X.K, X.mg, X.w⟩ (fun xs H Q => ∃ i j, xs = [V.int i, V.int j] ∧ Q (.int (if j < i then j else i)) H) b true fMin2 := by
  intro B G H c σ fp vs ds d Q A r e p
  unfold fMin2 at e
  split at e
  · cases e
    obtain ⟨v, w, rfl, rv, rw'⟩ := r.two
    cases rv.intH
    cases rw'.intH
    exact ⟨_, _, rfl, p.here A (.int _)⟩
  · cases e
def fList (b : Bool) : List D → Option D
  | [.lst ds] => if okEl b ds then some (.lst ds) else none
  | [.tup ds] => if okEl b ds then some (.lst ds) else none
  | [.dic ks _] => if ks.length ≤ 16777216 then some (.lst ks) else none
  | _ => none
def rListA (K : PySem.W.Frag) : List V → Hp → VK → Prop := fun xs H Q => (∃ p ys, xs = [V.ref p] ∧ (SqL K H p ys ∨ SqT K H p ys) ∧ ∀ l, H l = none → Q (.ref l) (upd H l (.lst ys))) ∨
  ∃ (a : Addr) (kvs : List (Key × V)), xs = [.ref a] ∧ Rd H a (.dK kvs) ∧ ∀ p, H p = none → Q (.ref p) (upd H p (.lst (kvs.map fun kv => kV kv.1)))
theorem call_listA (hc : X.calm = true) : CallR X (.type "list") (rListA X.K) := call_list_of.or (call_listD hc)
theorem key_rp {E : Wd} {G : Hp} {d : D} {k : Key} (h : d.key = some k) : Rp E G (kV k) d := by
  cases d <;> simp [D.key] at h
  · subst h; exact .int _
  · subst h; exact .str _
theorem keys_rp {E : Wd} {G : Hp} : ∀ {ks : List D} {kvs : List (Key × V)}, ks.map D.key = kvs.map (fun p => some p.1) → RpL E G (kvs.map fun kv => kV kv.1) ks
  | [], [], _ => .nil
  | [], _ :: _, h => by simp at h
  | _ :: _, [], h => by simp at h
  | k :: ks, kv :: kvs, h => by
    simp at h
    exact .cons (key_rp h.1) (keys_rp (by simpa using h.2))
theorem ok_list : CallOk ⟨X.K, X.mg, X.w⟩ (rListA X.K) b true (fList b) := by
  intro B G H c σ fp vs ds d Q A r e p
  unfold fList at e
  split at e
  · split at e
    · cases e
      rename_i hk
      obtain ⟨v, rfl, rv⟩ := r.one
      obtain ⟨a, vs, rfl, h1, r1⟩ := rv.lstH A.fine.le
      exact .inl ⟨_, _, rfl, .inl h1, fun q hq => p.new A hq fun s => .lst (.inl (.inl upd_same)) ((r1.known A.fine hk).mono s)⟩
    · cases e
  · split at e
    · cases e
      rename_i hk
      obtain ⟨v, rfl, rv⟩ := r.one
      obtain ⟨a, vs, rfl, h1, r1⟩ := rv.tupH A.fine.le
      exact .inl ⟨_, _, rfl, .inr h1, fun q hq => p.new A hq fun s => .lst (.inl (.inl upd_same)) ((r1.known A.fine hk).mono s)⟩
    · cases e
  · split at e
    · cases e
      rename_i ks ds hl
      obtain ⟨v, rfl, rv⟩ := r.one
      obtain ⟨a, kvs, rfl, h1, e1, r1⟩ := rv.dicH A.fine.le
      exact .inr ⟨_, _, rfl, h1, fun q hq => p.new A hq fun s => .lst (.inl (.inl upd_same)) (keys_rp e1)⟩
    · cases e
  · cases e
def fTuple (b : Bool) : List D → Option D
  | [.lst ds] => if okEl b ds then some (.tup ds) else none
  | [.tup ds] => if okEl b ds then some (.tup ds) else none
  | _ => none
theorem known_tup {B : Bs} {G H : Hp} {K : PySem.W.Frag} (f : Fine B G H) {a : Addr} {xs : List V} (h : SqT K H a xs) : SqT K G a xs := by
  rcases h with (z | ⟨o, z⟩) | z
  · exact .inl (.inl (f.tup _ _ z rfl))
  · exact .inl (.inr ⟨o, f.tup _ _ z rfl⟩)
  · exact .inr z
theorem ok_tuple : CallOk ⟨X.K, X.mg, X.w⟩ (fun xs H Q => ∃ p ys, xs = [V.ref p] ∧ ((SqL X.K H p ys ∧ ∀ l, H l = none → Q (.ref l) (upd H l (.tup ys))) ∨ (SqT X.K H p ys ∧ Q (.ref p) H))) b true (fTuple b) := by
  intro B G H c σ fp vs ds d Q A r e p
  unfold fTuple at e
  split at e
  · split at e
    · cases e
      rename_i hk
      obtain ⟨v, rfl, rv⟩ := r.one
      obtain ⟨a, vs, rfl, h1, r1⟩ := rv.lstH A.fine.le
      exact ⟨_, _, rfl, .inl ⟨h1, fun q hq => p.new A hq fun s => .tup (.inl (.inl upd_same)) ((r1.known A.fine hk).mono s)⟩⟩
    · cases e
  · split at e
    · cases e
      rename_i hk
      obtain ⟨v, rfl, rv⟩ := r.one
      obtain ⟨a, vs, rfl, h1, r1⟩ := rv.tupH A.fine.le
      exact ⟨_, _, rfl, .inr ⟨h1, p.here A (.tup (known_tup A.fine h1) (r1.known A.fine hk))⟩⟩
    · cases e
  · cases e
def asInt : D → Option Int
  | .int i => some i
  | _ => none
def asInts (ds : List D) : Option (List Int) := ds.mapM asInt
theorem asInts_cons (d : D) (ds : List D) : asInts (d :: ds) = (asInt d).bind fun i => (asInts ds).map fun is => i :: is := by
  unfold asInts
  rw [List.mapM_cons]
  cases asInt d <;> simp
  cases List.mapM asInt ds <;> rfl
@[simp] theorem asInts_map (ns : List Int) : asInts (ns.map D.int) = some ns := by
  induction ns with
  | nil => rfl
  | cons n ns ih => rw [List.map_cons, asInts_cons, ih]; rfl
theorem asInts_rp {E : Wd} {G : Hp} : ∀ {ds : List D} {vs : List V} {ns : List Int}, RpL E G vs ds → asInts ds = some ns → vs = ns.map V.int
  | [], _, _, r, e => by cases r; cases e; rfl
  | d :: ds, _, ns, r, e => by
    cases r with
    | cons h r =>
      rw [asInts_cons] at e
      cases d <;> simp [asInt] at e
      obtain ⟨a, e1, rfl⟩ := e
      rw [asInts_rp r e1, h.intH]
      rfl
def fSum : List D → Option D
  | [.lst ds] => (asInts ds).map fun ns => .int ns.sum
  | _ => none
theorem ok_sum : CallOk ⟨X.K, X.mg, X.w⟩ (rSum X.K) b true fSum := by
  intro B G H c σ fp vs ds d Q A r e p
  unfold fSum at e
  split at e
  · obtain ⟨ns, e1, rfl⟩ := Option.map_eq_some_iff.mp e
    obtain ⟨v, rfl, rv⟩ := r.one
    obtain ⟨a, vs, rfl, h1, r1⟩ := rv.lstH A.fine.le
    rw [asInts_rp r1 e1] at h1
    exact ⟨_, ns, rfl, h1, p.here A (.int _)⟩
  · cases e
def asBs (ds : List D) : Option (List Bool) := ds.mapM asB
theorem asBs_cons (d : D) (ds : List D) : asBs (d :: ds) = (asB d).bind fun i => (asBs ds).map fun is => i :: is := by
  unfold asBs
  rw [List.mapM_cons]
  cases asB d <;> simp
  cases List.mapM asB ds <;> rfl
@[simp] theorem asBs_map (ns : List Bool) : asBs (ns.map D.bl) = some ns := by
  induction ns with
  | nil => rfl
  | cons n ns ih => rw [List.map_cons, asBs_cons, ih]; rfl
theorem asBs_rp {E : Wd} {G : Hp} : ∀ {ds : List D} {vs : List V} {ns : List Bool}, RpL E G vs ds → asBs ds = some ns → vs = ns.map V.bl
  | [], _, _, r, e => by cases r; cases e; rfl
  | d :: ds, _, ns, r, e => by
    cases r with
    | cons h r =>
      rw [asBs_cons] at e
      cases d <;> simp [asB] at e
      obtain ⟨a, e1, rfl⟩ := e
      rw [asBs_rp r e1, h.blH]
      rfl
def fAny : List D → Option D
  | [.lst ds] => (asBs ds).map fun ns => .bl (ns.any id)
  | _ => none
theorem ok_any : CallOk ⟨X.K, X.mg, X.w⟩ (rAny X.K) b true fAny := by
  intro B G H c σ fp vs ds d Q A r e p
  unfold fAny at e
  split at e
  · obtain ⟨ns, e1, rfl⟩ := Option.map_eq_some_iff.mp e
    obtain ⟨v, rfl, rv⟩ := r.one
    obtain ⟨a, vs, rfl, h1, r1⟩ := rv.lstH A.fine.le
    rw [asBs_rp r1 e1] at h1
    exact ⟨_, ns, rfl, h1, p.here A (.bl _)⟩
  · cases e
def fAll : List D → Option D
  | [.lst ds] => (asBs ds).map fun ns => .bl (ns.all id)
  | _ => none
theorem ok_all : CallOk ⟨X.K, X.mg, X.w⟩ (rAll X.K) b true fAll := by
  intro B G H c σ fp vs ds d Q A r e p
  unfold fAll at e
  split at e
  · obtain ⟨ns, e1, rfl⟩ := Option.map_eq_some_iff.mp e
    obtain ⟨v, rfl, rv⟩ := r.one
    obtain ⟨a, vs, rfl, h1, r1⟩ := rv.lstH A.fine.le
    rw [asBs_rp r1 e1] at h1
    exact ⟨_, ns, rfl, h1, p.here A (.bl _)⟩
  · cases e

/-! ### isinstance of a built-in type -/
inductive Ty where | bool | int | str | list | tuple | dict
def Ty.name : Ty → String
  | .bool => "bool" | .int => "int" | .str => "str" | .list => "list" | .tuple => "tuple" | .dict => "dict"
def isI : Ty → D → Option Bool
  | T, .non => some false
  | .bool, .bl _ => some true
  | .int, .bl _ => some true
  | _, .bl _ => some false
  | .int, .int _ => some true
  | _, .int _ => some false
  | .str, .str _ => some true
  | _, .str _ => some false
  | .list, .lst _ => some true
  | _, .lst _ => some false
  | .tuple, .tup _ => some true
  | _, .tup _ => some false
  | .dict, .dic _ _ => some true
  | _, .dic _ _ => some false
  | _, .dlk _ _ => none
  | _, .ndk _ _ => none
  | _, .nlk _ _ => none
  | _, .rng _ _ => none
  | _, .obj _ _ _ => none
def eIs (T : Ty) (g : Env → R D) : Env → R D := fun c => g c >>= fun d => lift ((isI T d).map D.bl)
theorem is_kit : ∀ (T : Ty), kitB "NoneType" T.name = some false ∧ kitB "bool" T.name = some (match T with | .bool => true | .int => true | _ => false) ∧ kitB "int" T.name = some (match T with | .int => true | _ => false) ∧
    kitB "str" T.name = some (match T with | .str => true | _ => false) ∧ kitB "list" T.name = some (match T with | .list => true | _ => false) ∧ kitB "tuple" T.name = some (match T with | .tuple => true | _ => false) ∧ kitB "dict" T.name = some (match T with | .dict => true | _ => false) := by
  intro T
  cases T <;> decide +kernel
theorem is_ty {K : PySem.W.Frag} {mg : Str → Option Value} {w : World} {H : Hp} {T : Ty} {v : V} {d : D} {t : Bool} (r : Rp ⟨K, mg, w⟩ H v d) (e : isI T d = some t) : ∃ u, TyX K H v u ∧ PySem.W.kitOne K u (.type T.name) = some t := by
  obtain ⟨k1, k2, k3, k4, k5, k6, k7⟩ := is_kit T
  cases r with
  | non => exact ⟨_, .base .non, kit_ty (by rw [k1]; cases T <;> simpa [isI] using e)⟩
  | bl x => exact ⟨_, .base (.bl x), kit_ty (by rw [k2]; cases T <;> simpa [isI] using e)⟩
  | int i => exact ⟨_, .base (.int i), kit_ty (by rw [k3]; cases T <;> simpa [isI] using e)⟩
  | str l => exact ⟨_, .base (.str _), kit_ty (by rw [k4]; cases T <;> simpa [isI] using e)⟩
  | lst h r =>
    refine ⟨.type "list", ?_, kit_ty (by rw [k5]; cases T <;> simpa [isI] using e)⟩
    rcases h with (h | ⟨o, h⟩) | ⟨o, its, n, h1, h2, _⟩
    · exact .base (.lst h)
    · exact .base (.frz h)
    · exact .kList h1 h2
  | tup h r =>
    refine ⟨.type "tuple", ?_, kit_ty (by rw [k6]; cases T <;> simpa [isI] using e)⟩
    rcases h with (h | ⟨o, h⟩) | ⟨o, its, n, h1, h2, _⟩
    · exact .base (.tup h)
    · exact .fTuple h
    · exact .kTuple h1 h2
  | dic h _ _ =>
    refine ⟨.type "dict", ?_, kit_ty (by rw [k7]; cases T <;> simpa [isI] using e)⟩
    rcases h with h | ⟨o, h⟩
    · exact .base (.dK h)
    · exact .fDict h
  | dlk h _ _ => cases T <;> simp [isI] at e
  | ndk h _ _ _ _ _ => cases T <;> simp [isI] at e
  | nlk h _ _ _ _ _ => cases T <;> simp [isI] at e
  | rng h _ _ _ _ => cases T <;> simp [isI] at e
  | obj _ _ _ _ => cases T <;> simp [isI] at e
theorem px_is {a : Expr} {g : Env → R D} {x : Str} {p p2 pos : Pos} (T : Ty) (h : PX X W b a g) (hm : X.mg "isinstance" = none) (hx : X.mg x = none) (hT : bootBuiltins x = some (.type T.name) := by decide +kernel) (hgx : Gl X x := by rfl) (hg : Gl X "isinstance" := by rfl)
    (hn : x ≠ "__name__" := by decide) (hdb : (x == ("__debug__" : Str)) = false := by decide) (he : starEach [a, .Name x p2] X.env = (false, eval a X.env) :: starEach [.Name x p2] X.env := by rfl) (hpl : (backTo pos (starEach [.Name x p2] X.env)).any (·.1) = false := by rfl)
    (hs2 : starEach [.Name x p2] X.env = (false, eval (.Name x p2) X.env) :: starEach [] X.env := by rfl) :
    PX X W true (.Call (.Name "isinstance" p) [a, .Name x p2] [] pos) (eIs T g) :=
  pe_mono (pe_callB call_isi hg hm (by decide +kernel) (pa_cons h (pa_cons (pe_bltn (v := .ty T.name) hgx hx hT rfl hn hdb) pa_nil hs2) he) (by decide) (by decide) he hpl) fun σ H Q ⟨B, G, c, fp, A, q⟩ => tx_seq A q fun d e v G1 H1 s1 t1 A1 r1 q1 => by
    obtain ⟨d3, e3, p3⟩ := Res.lift q1
    obtain ⟨t, ht, rfl⟩ := Option.map_eq_some_iff.mp e3
    obtain ⟨u, h1, h2⟩ := is_ty (vw_rp A1.fine.le r1) ht
    exact ⟨_, _, u, _, t, rfl, .ty _, h1, h2, p3 _ G1 H1 s1 t1 A1 (.bl _)⟩

/-! ### methods of texts -/
def asS : D → Option (List Nat)
  | .str l => some l
  | _ => none
def eMS (f : List Nat → List D → Option D) (g : Env → R D) (gs : Env → R (List D)) : Env → R D := fun c => g c >>= fun d => lift (asS d) >>= fun l => gs c >>= fun ds => lift (f l ds)
def MethOk (E : Wd) (r : V → List V → Hp → VK → Prop) (b b' : Bool) (f : List Nat → List D → Option D) : Prop :=
  ∀ {B : Bs} {G H : Hp} {c : Env} {σ : L2.St} {fp : List Addr} {l : List Nat} {vs : List V} {ds : List D} {d : D} {Q : VK}, Abs E B G H c σ fp → RpL E (vw b G H) vs ds → f l ds = some d → Post E B c σ fp G H b' Q d → r (.str (S l)) vs H Q
theorem asS_rp {E : Wd} {G : Hp} {v : V} {d : D} {l : List Nat} (h : Rp E G v d) (e : asS d = some l) : v = .str (S l) := by
  cases d <;> simp [asS] at e
  subst e
  exact h.strH
theorem px_ms {id : String} {name : Str} {r : V → List V → Hp → VK → Prop} {f : List Nat → List D → Option D} {o e : Expr} {es : List Expr} {g : Env → R D} {gs : Env → R (List D)} {apos cpos : Pos} (slot : Slot "str" name id) (hty : typeOf (.builtin id) = pure (.type "method_descriptor")) (hm : MtR X id r) (hr : MethOk ⟨X.K, X.mg, X.w⟩ r b b' f)
    (ho : PX X W b1 o g) (ha : PXA X W b (e :: es) gs)
    (hbase : attributeBase o name X.env (eval o X.env) = eval o X.env := by rfl)
    (hfew : ((backTo cpos (starEach (e :: es) X.env)).all (fun x => !x.1) && (backToKw cpos (keywordEach [] X.env)).all (fun x => x.1.isSome)
      && decide ((e :: es).length + ([] : List Keyword).length + (if ([] : List Keyword).isEmpty then 0 else 1) < 30)) = true := by rfl)
    (hline : (apos.endLine == cpos.line) = true := by rfl) (hs : starEach (e :: es) X.env = (false, eval e X.env) :: starEach es X.env := by rfl) (hplain : (backTo cpos (starEach es X.env)).any (·.1) = false := by rfl) :
    PX X W b' (.Call (.Attribute o name apos) (e :: es) [] cpos) (eMS f g gs) :=
  pe_mono (pe_bm PySem.F.plainAttrs_str slot hty hm ho ha hbase hfew hline hs hplain) fun σ H Q ⟨B, G, c, fp, A, q⟩ => tx_seq A q fun d e v G1 H1 s1 t1 A1 r1 q1 => by
    cases hd : asS d with
    | none => rw [hd] at q1; exact q1.elim
    | some l =>
      rw [hd] at q1
      cases asS_rp r1 hd
      refine ⟨rfl, txa_seq A1 q1 fun ds e2 vs G2 H2 s2 t2 A2 r2 q2 => ?_⟩
      obtain ⟨d3, e3, p3⟩ := Res.lift q2
      exact hr A2 r2 e3 (p3.grow (s1.trans s2) (t1.trans t2))
def asSs (ds : List D) : Option (List (List Nat)) := ds.mapM asS
theorem asSs_cons (d : D) (ds : List D) : asSs (d :: ds) = (asS d).bind fun i => (asSs ds).map fun is => i :: is := by
  unfold asSs
  rw [List.mapM_cons]
  cases asS d <;> simp
  cases List.mapM asS ds <;> rfl
@[simp] theorem asSs_map (ns : List (List Nat)) : asSs (ns.map D.str) = some ns := by
  induction ns with
  | nil => rfl
  | cons n ns ih => rw [List.map_cons, asSs_cons, ih]; rfl
theorem asSs_rp {E : Wd} {G : Hp} : ∀ {ds : List D} {vs : List V} {ns : List (List Nat)}, RpL E G vs ds → asSs ds = some ns → vs = (ns.map S).map V.str
  | [], _, _, r, e => by cases r; cases e; rfl
  | d :: ds, _, ns, r, e => by
    cases r with
    | cons h r =>
      rw [asSs_cons] at e
      cases d <;> simp [asS] at e
      obtain ⟨a, e1, rfl⟩ := e
      rw [asSs_rp r e1, h.strH]
      rfl
/-- sep.join(list of texts) -/
def fJoin (l : List Nat) : List D → Option D
  | [.lst ds] => (asSs ds).bind fun xs => if (xs.map List.length).sum + xs.length * l.length ≤ 16777216 then some (.str (TL.joinL l xs)) else none
  | [.tup ds] => (asSs ds).bind fun xs => if (xs.map List.length).sum + xs.length * l.length ≤ 16777216 then some (.str (TL.joinL l xs)) else none
  | _ => none
theorem join_S (l : List Nat) (xs : List (List Nat)) : Txt.join (S l) (xs.map S) = S (TL.joinL l xs) := by
  have h := TL.tl_join (S l) (xs.map S)
  rw [TL.join_eq]
  have e : (xs.map S).map TL.tl = xs := by
    rw [List.map_map]
    have : TL.tl ∘ S = id := by funext x; rfl
    rw [this, List.map_id]
  rw [e] at h
  have h2 : (Str.join (S l) (xs.map S)).cps.toList = TL.joinL l xs := h
  show _ = (⟨(TL.joinL l xs).toArray⟩ : Str)
  rw [← h2]
theorem ok_join : MethOk ⟨X.K, X.mg, X.w⟩ (fun x xs H Q => ∃ a p, ∃ ys : List Str, x = .str a ∧ xs = [.ref p] ∧ (SqL X.K H p (ys.map V.str) ∨ SqT X.K H p (ys.map V.str)) ∧ (ys.map (·.length)).sum + ys.length * a.length ≤ 16777216 ∧ Q (.str (Txt.join a ys)) H) b true fJoin := by
  intro B G H c σ fp l vs ds d Q A r e p
  have hlen : ∀ xs : List (List Nat), ((xs.map S).map (·.length)).sum + (xs.map S).length * (S l).length = (xs.map List.length).sum + xs.length * l.length := fun xs => by
    have : ((fun y : Str => y.length) ∘ S) = List.length := by funext x; simp
    rw [List.map_map, this]; simp
  unfold fJoin at e
  split at e
  · obtain ⟨xs, e1, e2⟩ := Option.bind_eq_some_iff.mp e
    split at e2
    · cases e2
      rename_i hl
      obtain ⟨v, rfl, rv⟩ := r.one
      obtain ⟨a, vs, rfl, h1, r1⟩ := rv.lstH A.fine.le
      rw [asSs_rp r1 e1] at h1
      refine ⟨S l, a, xs.map S, rfl, rfl, .inl h1, by rw [hlen]; exact hl, ?_⟩
      rw [join_S]
      exact p.here A (.str _)
    · cases e2
  · obtain ⟨xs, e1, e2⟩ := Option.bind_eq_some_iff.mp e
    split at e2
    · cases e2
      rename_i hl
      obtain ⟨v, rfl, rv⟩ := r.one
      obtain ⟨a, vs, rfl, h1, r1⟩ := rv.tupH A.fine.le
      rw [asSs_rp r1 e1] at h1
      refine ⟨S l, a, xs.map S, rfl, rfl, .inr h1, by rw [hlen]; exact hl, ?_⟩
      rw [join_S]
      exact p.here A (.str _)
    · cases e2
  · cases e
/-- s.index(t), t within -/
def fSIndex (l : List Nat) : List D → Option D
  | [.str k] => match Builtin.Str.occurrences (S l) (S k) 0 l.length 1 with
    | i :: _ => some (.int i)
    | [] => none
  | _ => none
theorem ok_sindex : MethOk ⟨X.K, X.mg, X.w⟩ (fun x xs H Q => ∃ a b i rest, x = .str a ∧ xs = [.str b] ∧ Builtin.Str.occurrences a b 0 a.length 1 = i :: rest ∧ Q (.int (i : Nat)) H) b true fSIndex := by
  intro B G H c σ fp l vs ds d Q A r e p
  unfold fSIndex at e
  split at e
  · rename_i k
    split at e
    · rename_i i rest ho
      cases e
      obtain ⟨v, rfl, rv⟩ := r.one
      cases rv.strH
      exact ⟨S l, S k, i, rest, rfl, rfl, by rw [S_len]; exact ho, p.here A (.int _)⟩
    · cases e
  · cases e
end
end VS

/-! VS: statements. -/
namespace VS
open PySem PySem.Spec PyProof.Rows L2

inductive Fl where | nx | bk | ct | rt (d : D)
inductive Rs where | ok (f : Fl) (c : Env) | ex (e : D) (c : Env) | stuck
def PinOk (pn : List Nat) (B : Bs) : Prop := (∀ q ∈ B.pn, q.1 ∈ pn) ∧ (pn = [] → ∀ a, ¬ B.br a)
def ResS (E : Wd) (W : WX) (B : Bs) (G H : Hp) (r : Rs) (Dn : Ends) : Prop :=
  match r with
  | .ok .nx c' => ∀ σ' G' H' fp', Same G G' → Abs E B G' H' c' σ' fp' → Dn.nx σ' H'
  | .ok .bk c' => ∀ σ' G' H' fp', Same G G' → Abs E B G' H' c' σ' fp' → Dn.bk σ' H'
  | .ok .ct c' => ∀ σ' G' H' fp', Same G G' → Abs E B G' H' c' σ' fp' → Dn.ct σ' H'
  | .ok (.rt d) c' => ∀ v σ' G' H' fp', Same G G' → Abs E B G' H' c' σ' fp' → Rp E G' v d → Dn.rt v H'
  | .ex e c' => ∀ cl dx σ' G' H' fp', Same G G' → Abs E B G' H' c' σ' fp' → XRep E G' cl dx e → W cl dx σ' H'
  | .stuck => False
def TSt (E : Wd) (W : WX) (pn : List Nat) (g : Env → Rs) : TS := fun Dn σ H => ∃ B G c fp, Abs E B G H c σ fp ∧ PinOk pn B ∧ ResS E W B G H (g c) Dn
def PXS (X : Cx) (W : WX) (pn : List Nat) (st : Stmt) (g : Env → Rs) : Prop := PS X st (TSt ⟨X.K, X.mg, X.w⟩ W pn g)
def PXSs (X : Cx) (W : WX) (pn : List Nat) (st : List Stmt) (g : Env → Rs) : Prop := PSs X st (TSt ⟨X.K, X.mg, X.w⟩ W pn g)
theorem ps_mono {X : Cx} {st : Stmt} {t t' : TS} (h : PS X st t) (k : ∀ Dn σ H, t' Dn σ H → t Dn σ H) : PS X st t' := ⟨fun pins s σ H Dn I q => h.run pins s σ H Dn I (k Dn σ H q)⟩
theorem pss_mono {X : Cx} {st : List Stmt} {t t' : TS} (h : PSs X st t) (k : ∀ Dn σ H, t' Dn σ H → t Dn σ H) : PSs X st t' := ⟨fun pins s σ H Dn I q => h.run pins s σ H Dn I (k Dn σ H q)⟩
theorem ResS.grow {E : Wd} {W : WX} {B : Bs} {G H G' H' : Hp} {r : Rs} {Dn : Ends} (h : ResS E W B G H r Dn) (s : Same G G') : ResS E W B G' H' r Dn := by
  cases r with
  | ok f c =>
    cases f with
    | nx => exact fun σ' G2 H2 fp2 t A => h σ' G2 H2 fp2 (s.trans t) A
    | bk => exact fun σ' G2 H2 fp2 t A => h σ' G2 H2 fp2 (s.trans t) A
    | ct => exact fun σ' G2 H2 fp2 t A => h σ' G2 H2 fp2 (s.trans t) A
    | rt d => exact fun v σ' G2 H2 fp2 t A r => h v σ' G2 H2 fp2 (s.trans t) A r
  | ex e c => exact fun cl dx σ' G2 H2 fp2 t A r => h cl dx σ' G2 H2 fp2 (s.trans t) A r
  | stuck => exact h
/-- a part of a statement that is an expression -/
def R.st {α : Type} (r : R α) (c : Env) (f : α → Rs) : Rs :=
  match r with
  | .ok a => f a
  | .ex e => .ex e c
  | .stuck => .stuck
@[simp] theorem st_ok {α : Type} (a : α) (c : Env) (f : α → Rs) : R.st (.ok a) c f = f a := rfl
@[simp] theorem st_stuck {α : Type} (c : Env) (f : α → Rs) : R.st (.stuck : R α) c f = .stuck := rfl
@[simp] theorem st_ex {α : Type} (e : D) (c : Env) (f : α → Rs) : R.st (.ex e : R α) c f = .ex e c := rfl
section
variable {E : Wd} {W : WX} {B : Bs} {c : Env} {σ : L2.St} {fp : List Addr} {G H : Hp} {b : Bool} {Dn : Ends}
theorem tx_st {ga : Env → R D} {f : D → Rs} {Q' : VK} (A : Abs E B G H c σ fp) (h : ResS E W B G H (R.st (ga c) c f) Dn)
    (k : ∀ d, ga c = .ok d → ∀ v G1 H1, Same G G1 → Same H H1 → Abs E B G1 H1 c σ fp → Rp E (vw b G1 H1) v d → ResS E W B G1 H1 (f d) Dn → Q' v H1) : TX E W b ga σ H Q' := by
  refine ⟨B, G, c, fp, A, ?_⟩
  cases e : ga c with
  | ok d =>
    rw [e] at h
    exact fun v G1 H1 s t A1 r => k d e v G1 H1 s t A1 r (ResS.grow (r := f d) h s)
  | ex x => rw [e] at h; exact fun cl dx G1 H1 s t A1 r => h cl dx σ G1 H1 fp s A1 r
  | stuck => rw [e] at h; exact h
theorem txa_st {ga : Env → R (List D)} {f : List D → Rs} {Q' : List V → Hp → Prop} (A : Abs E B G H c σ fp) (h : ResS E W B G H (R.st (ga c) c f) Dn)
    (k : ∀ ds, ga c = .ok ds → ∀ vs G1 H1, Same G G1 → Same H H1 → Abs E B G1 H1 c σ fp → RpL E (vw b G1 H1) vs ds → ResS E W B G1 H1 (f ds) Dn → Q' vs H1) : TXA E W b ga σ H Q' := by
  refine ⟨B, G, c, fp, A, ?_⟩
  cases e : ga c with
  | ok d =>
    rw [e] at h
    exact fun v G1 H1 s t A1 r => k d e v G1 H1 s t A1 r (ResS.grow (r := f d) h s)
  | ex x => rw [e] at h; exact fun cl dx G1 H1 s t A1 r => h cl dx σ G1 H1 fp s A1 r
  | stuck => rw [e] at h; exact h
theorem txt_st {ga : Env → R Bool} {f : Bool → Rs} {Q' : Bool → Hp → Prop} (A : Abs E B G H c σ fp) (h : ResS E W B G H (R.st (ga c) c f) Dn)
    (k : ∀ t, ga c = .ok t → ∀ G1 H1, Same G G1 → Same H H1 → Abs E B G1 H1 c σ fp → ResS E W B G1 H1 (f t) Dn → Q' t H1) : TXT E W ga σ H Q' := by
  refine ⟨B, G, c, fp, A, ?_⟩
  cases e : ga c with
  | ok d =>
    rw [e] at h
    exact fun G1 H1 s t A1 => k d e G1 H1 s t A1 (ResS.grow (r := f d) h s)
  | ex x => rw [e] at h; exact fun cl dx G1 H1 s t A1 r => h cl dx σ G1 H1 fp s A1 r
  | stuck => rw [e] at h; exact h
/-- a name is stored -/
theorem Abs.set {v : V} {o : O} {fq : List Addr} {i : Nat} (A : Abs E B G H c σ fp) (h : Own E G H v o fq) (n : fq.Nodup) (d : ∀ p ∈ fq, p ∉ fp) (f : ∀ p ∈ fq, G p = none ∧ (B.H0 p = none ∨ B.br p)) (hp : ∀ q ∈ B.pn, q.1 ≠ i) :
    ∃ fr, Abs E B G H (c.set i (some o)) (σ.set i (some v)) fr := by
  obtain ⟨fr, h1, h2, h3⟩ := A.cells.set i h A.nd n d
  refine ⟨fr, A.fine, h1, h2, fun p hp => (h3 p hp).elim (A.fresh p) (f p), fun q hq => ?_⟩
  rw [List.getElem?_set_ne (Ne.symm (hp q hq))]
  exact A.pin q hq
theorem Abs.setV {v : V} {d : D} {i : Nat} (A : Abs E B G H c σ fp) (h : Rp E G v d) (hp : ∀ q ∈ B.pn, q.1 ≠ i) : ∃ fr, Abs E B G H (c.set i (some (.v d))) (σ.set i (some v)) fr :=
  A.set (.v h) List.nodup_nil (fun p hp => nomatch hp) (fun p hp => nomatch hp) hp
end
theorem PinOk.ne {pn : List Nat} {B : Bs} {i : Nat} (h : PinOk pn B) (hi : i ∉ pn) : ∀ q ∈ B.pn, q.1 ≠ i := fun q hq e => hi (e ▸ h.1 q hq)

/-! ### blocks -/
def sNil : Env → Rs := fun c => .ok .nx c
def sSeq (g k : Env → Rs) : Env → Rs := fun c => match g c with
  | .ok .nx c' => k c'
  | r => r
section
variable {X : Cx} {W : WX} {pn : List Nat} {b : Bool} {st : Stmt} {sts : List Stmt} {g k : Env → Rs} {pos : Pos} {e : Expr}
theorem pxs_nil : PXSs X W pn [] sNil := pss_mono pss_nil fun Dn σ H ⟨B, G, c, fp, A, P, q⟩ => q σ G H fp (Same.refl _) A
theorem tst_seq : ∀ Dn σ H, TSt ⟨X.K, X.mg, X.w⟩ W pn (sSeq g k) Dn σ H → tSeq (TSt ⟨X.K, X.mg, X.w⟩ W pn g) (TSt ⟨X.K, X.mg, X.w⟩ W pn k) Dn σ H := fun Dn σ H ⟨B, G, c, fp, A, P, q⟩ => by
  refine ⟨B, G, c, fp, A, P, ?_⟩
  unfold sSeq at q
  cases e : g c with
  | ok f c' =>
    rw [e] at q
    cases f with
    | nx => exact fun σ' G' H' fp' s A' => ⟨B, G', c', fp', A', P, ResS.grow (r := k c') q s⟩
    | bk => exact q
    | ct => exact q
    | rt d => exact q
  | ex x c' => rw [e] at q; exact q
  | stuck => rw [e] at q; exact q
theorem pxs_cons (h : PXS X W pn st g) (h2 : PXSs X W pn sts k) : PXSs X W pn (st :: sts) (sSeq g k) := pss_mono (pss_cons h h2) tst_seq
theorem pxs_one (h : PXS X W pn st g) : PXSs X W pn [st] g := pss_one h
theorem ps_pass' : PXS X W pn (.Pass pos) sNil := ps_mono ps_pass fun Dn σ H ⟨B, G, c, fp, A, P, q⟩ => q σ G H fp (Same.refl _) A
def sBreak : Env → Rs := fun c => .ok .bk c
def sCont : Env → Rs := fun c => .ok .ct c
theorem pxs_break : PXS X W pn (.Break pos) sBreak := ps_mono ps_break fun Dn σ H ⟨B, G, c, fp, A, P, q⟩ => q σ G H fp (Same.refl _) A
theorem pxs_continue : PXS X W pn (.Continue pos) sCont := ps_mono ps_continue fun Dn σ H ⟨B, G, c, fp, A, P, q⟩ => q σ G H fp (Same.refl _) A
/-- a way that is never taken -/
def sNo : Env → Rs := fun _ => .stuck
theorem pxs_no : PXS X W pn st sNo := ps_mono ps_never fun Dn σ H ⟨B, G, c, fp, A, P, q⟩ => q
/-! ### x = e -/
def sSet (i : Nat) (g : Env → R D) : Env → Rs := fun c => (g c).st c fun d => .ok .nx (c.set i (some (.v d)))
theorem pxs_set {x : Str} {p : Pos} (i : Nat) {g : Env → R D} (h : PX X W true e g) (nd : X.N.Nodup) (hN : X.N[i]? = some x := by rfl) (hl : Loc X.env.scope x := by first | exact Or.inl rfl | exact Or.inr rfl) (hi : i ∉ pn := by decide)
    (hs : swapsWith e (some (.Name x p)) pos.line X.env = pure false := by rfl) (hf : X.fn x = true ∨ X.env.scope.names.lookup x = some .local := by first | exact .inl rfl | exact .inr rfl) : PXS X W pn (.Assign [.Name x p] e pos) (sSet i g) :=
  ps_mono (ps_asg h (pg_name (i := i) nd hN hl) hs) fun Dn σ H ⟨B, G, c, fp, A, P, q⟩ => tx_st A q fun d e v G1 H1 s1 t1 A1 r1 q1 => by
    obtain ⟨fr, A2⟩ := A1.setV (i := i) r1 (P.ne hi)
    exact q1 _ G1 H1 fr (Same.refl _) A2
/-! ### return, an expression alone -/
def sRet (g : Env → R D) : Env → Rs := fun c => (g c).st c fun d => .ok (.rt d) c
theorem pxs_ret {g : Env → R D} (h : PX X W true e g) : PXS X W pn (.Return (some e) pos) (sRet g) :=
  ps_mono (ps_ret h) fun Dn σ H ⟨B, G, c, fp, A, P, q⟩ => tx_st A q fun d e v G1 H1 s1 t1 A1 r1 q1 => q1 v σ G1 H1 fp (Same.refl _) A1 r1
def sRetN : Env → Rs := fun c => .ok (.rt .non) c
theorem pxs_retN : PXS X W pn (.Return none pos) sRetN := ps_mono ps_retN fun Dn σ H ⟨B, G, c, fp, A, P, q⟩ => q .non σ G H fp (Same.refl _) A .non
def sExpr (g : Env → R D) : Env → Rs := fun c => (g c).st c fun _ => .ok .nx c
theorem pxs_expr {g : Env → R D} (h : PX X W b e g) (hs : swapsWith e none pos.line X.env = pure false := by rfl) : PXS X W pn (.Expr e pos) (sExpr g) :=
  ps_mono (ps_expr h hs) fun Dn σ H ⟨B, G, c, fp, A, P, q⟩ => tx_st A q fun d e v G1 H1 s1 t1 A1 r1 q1 => q1 σ G1 H1 fp (Same.refl _) A1
/-! ### if -/
def sIf (t : Env → R Bool) (g k : Env → Rs) : Env → Rs := fun c => (t c).st c fun b => if b then g c else k c
theorem pxs_if {ec : Expr} {sa sb : List Stmt} {t : Env → R Bool} (h : PXT X W ec t) (ha : PXSs X W pn sa g) (hb : PXSs X W pn sb k) : PXS X W pn (.If ec sa sb pos) (sIf t g k) :=
  ps_mono (ps_if h ha hb) fun Dn σ H ⟨B, G, c, fp, A, P, q⟩ => txt_st A q fun t e G1 H1 s1 t1 A1 q1 => by
    cases t with
    | true => exact ⟨B, G1, c, fp, A1, P, q1⟩
    | false => exact ⟨B, G1, c, fp, A1, P, q1⟩
/-! ### while -/
def whileL (t : Env → R Bool) (g : Env → Rs) : Nat → Env → Rs
  | 0, _ => .stuck
  | n + 1, c => (t c).st c fun b => if b then (match g c with
    | .ok .nx c' => whileL t g n c'
    | .ok .ct c' => whileL t g n c'
    | .ok .bk c' => .ok .nx c'
    | r => r) else .ok .nx c
theorem pxs_while {ec : Expr} {body : List Stmt} {t : Env → R Bool} (n : Nat) (hp : PassesOwn (model X.prog X.w) X.A X.env X.xe) (h : PXT X W ec t) (hb : PXSs X W pn body g) : PXS X W pn (.While ec body [] pos) (whileL t g n) :=
  ps_mono (ps_while hp h hb) fun Dn σ H ⟨B, G, c, fp, A, P, q⟩ => by
    refine ⟨fun m σ H => ∃ G c fp, Abs ⟨X.K, X.mg, X.w⟩ B G H c σ fp ∧ ResS ⟨X.K, X.mg, X.w⟩ W B G H (whileL t g m c) Dn, ⟨n, G, c, fp, A, q⟩, ?_⟩
    rintro m σ H ⟨G, c, fp, A, q⟩
    cases m with
    | zero => exact q.elim
    | succ m =>
      refine txt_st A q fun b e G1 H1 s1 t1 A1 q1 => ?_
      cases b with
      | false => exact q1 σ G1 H1 fp (Same.refl _) A1
      | true =>
        refine ⟨fun σ' H' => ∃ G c fp, Abs ⟨X.K, X.mg, X.w⟩ B G H' c σ' fp ∧ ResS ⟨X.K, X.mg, X.w⟩ W B G H' (whileL t g m c) Dn, fun σ' H' h' => ⟨m, Nat.lt_succ_self _, h'⟩, ?_⟩
        refine ⟨B, G1, c, fp, A1, P, ?_⟩
        have q2 : ResS ⟨X.K, X.mg, X.w⟩ W B G1 H1 (match g c with
          | .ok .nx c' => whileL t g m c'
          | .ok .ct c' => whileL t g m c'
          | .ok .bk c' => .ok .nx c'
          | r => r) Dn := q1
        cases eg : g c with
        | ok f c' =>
          rw [eg] at q2
          cases f with
          | nx => exact fun σ' G' H' fp' s A' => ⟨G', c', fp', A', ResS.grow (r := whileL t g m c') q2 s⟩
          | ct => exact fun σ' G' H' fp' s A' => ⟨G', c', fp', A', ResS.grow (r := whileL t g m c') q2 s⟩
          | bk => exact q2
          | rt d => exact q2
        | ex x c' => rw [eg] at q2; exact q2
        | stuck => rw [eg] at q2; exact q2
/-! ### for -/
def forL (i : Nat) (g : Env → Rs) : List D → Env → Rs
  | [], c => .ok .nx c
  | d :: ds, c => match g (c.set i (some (.v d))) with
    | .ok .nx c' => forL i g ds c'
    | .ok .ct c' => forL i g ds c'
    | .ok .bk c' => .ok .nx c'
    | r => r
theorem for_turn {i : Nat} {E : Wd} {B : Bs} {G H : Hp} {c : Env} {σ : L2.St} {fp : List Addr} {Dn : Ends} {d : D} {ds : List D} {v : V} {N : L2.St → Hp → Prop} (A : Abs E B G H c σ fp) (P : PinOk pn B) (hi : i ∉ pn) (rv : Rp E G v d) (q : ResS E W B G H (forL i g (d :: ds) c) Dn)
    (hN : ∀ σ' G' H' c' fp', Same G G' → Abs E B G' H' c' σ' fp' → ResS E W B G' H' (forL i g ds c') Dn → N σ' H') : TSt E W pn g { Dn with nx := N, ct := N, bk := Dn.nx } (σ.set i (some v)) H := by
  obtain ⟨fr, A2⟩ := A.setV (i := i) rv (P.ne hi)
  refine ⟨B, G, _, fr, A2, P, ?_⟩
  have q2 : ResS E W B G H (match g (c.set i (some (.v d))) with
    | .ok .nx c' => forL i g ds c'
    | .ok .ct c' => forL i g ds c'
    | .ok .bk c' => .ok .nx c'
    | r => r) Dn := q
  cases eg : g (c.set i (some (.v d))) with
  | ok f c' =>
    rw [eg] at q2
    cases f with
    | nx => exact fun σ' G' H' fp' s A' => hN σ' G' H' c' fp' s A' (ResS.grow (r := forL i g ds c') q2 s)
    | ct => exact fun σ' G' H' fp' s A' => hN σ' G' H' c' fp' s A' (ResS.grow (r := forL i g ds c') q2 s)
    | bk => exact q2
    | rt d => exact q2
  | ex x c' => rw [eg] at q2; exact q2
  | stuck => rw [eg] at q2; exact q2
def asL : D → Option (List D)
  | .lst ds => some ds
  | _ => none
def asT : D → Option (List D)
  | .tup ds => some ds
  | _ => none
def sForL (i : Nat) (ga : Env → R D) (g : Env → Rs) : Env → Rs := fun c => (ga c).st c fun d => match asL d with
  | some ds => forL i g ds c
  | none => .stuck
def sForT (i : Nat) (ga : Env → R D) (g : Env → Rs) : Env → Rs := fun c => (ga c).st c fun d => match asT d with
  | some ds => forL i g ds c
  | none => .stuck
theorem drop_cons {α : Type} {xs : List α} {i : Nat} {x : α} (h : xs[i]? = some x) : xs.drop i = x :: xs.drop (i + 1) := by
  obtain ⟨hl, e⟩ := List.getElem?_eq_some_iff.mp h
  rw [List.drop_eq_getElem_cons hl, e]
theorem pxs_forL {x : Str} {p : Pos} {body : List Stmt} (i : Nat) {ga : Env → R D} (hp : PassesOwn (model X.prog X.w) X.A X.env X.xe) (hc : X.calm = true) (ha : PX X W true e ga) (hb : PXSs X W pn body g) (nd : X.N.Nodup) (hN : X.N[i]? = some x := by rfl) (hl : Loc X.env.scope x := by first | exact Or.inl rfl | exact Or.inr rfl) (hi : i ∉ pn := by decide)
    (hf : X.fn x = true ∨ X.env.scope.names.lookup x = some .local := by first | exact .inl rfl | exact .inr rfl) (hs : ∀ y, foldedSetIterable e X.env y = pure y := by intro _; rfl) : PXS X W pn (.For (.Name x p) e body [] pos) (sForL i ga g) :=
  ps_mono (ps_for hp hc (pi_list ha) (pg_name (i := i) nd hN hl) hb hs) fun Dn σ H ⟨B, G, c, fp, A, P, q⟩ => tx_st A q fun d e v G1 H1 s1 t1 A1 r1 q1 => by
    cases d with
    | lst ds =>
      have q1 : ResS ⟨X.K, X.mg, X.w⟩ W B G1 H1 (forL i g ds c) Dn := q1
      have r1 : Rp ⟨X.K, X.mg, X.w⟩ G1 v (.lst ds) := r1
      cases r1 with
      | @lst a vs _ h1 h2 =>
        refine ⟨a, rfl, ⟨vs, Same.sqL A1.fine.le h1⟩, ?_⟩
        refine for_list (xs := vs) (fun j σ H => ∃ G' c' fp', Same G1 G' ∧ Abs ⟨X.K, X.mg, X.w⟩ B G' H c' σ fp' ∧ ResS ⟨X.K, X.mg, X.w⟩ W B G' H (forL i g (ds.drop j) c') Dn) ⟨G1, c, fp, Same.refl _, A1, q1⟩ ?_ ?_ ?_
        · rintro j σ' H' _ ⟨G', c', fp', s', A', _⟩
          exact Same.sqL (s'.trans A'.fine.le) h1
        · rintro j w σ' H' hw ⟨G', c', fp', s', A', q'⟩
          obtain ⟨d, hd, rd⟩ := h2.getV hw
          rw [drop_cons hd] at q'
          exact for_turn A' P hi (rd.mono s') q' fun σ2 G2 H2 c2 fp2 s2 A2 q2 => ⟨G2, c2, fp2, s'.trans s2, A2, q2⟩
        · rintro σ' H' ⟨G', c', fp', s', A', q'⟩
          rw [h2.length, List.drop_length] at q'
          exact q' σ' G' H' fp' (Same.refl _) A'
    | _ => exact q1.elim
theorem pxs_forT {x : Str} {p : Pos} {body : List Stmt} (i : Nat) {ga : Env → R D} (hp : PassesOwn (model X.prog X.w) X.A X.env X.xe) (hc : X.calm = true) (ha : PX X W true e ga) (hb : PXSs X W pn body g) (nd : X.N.Nodup) (hN : X.N[i]? = some x := by rfl) (hl : Loc X.env.scope x := by first | exact Or.inl rfl | exact Or.inr rfl) (hi : i ∉ pn := by decide)
    (hf : X.fn x = true ∨ X.env.scope.names.lookup x = some .local := by first | exact .inl rfl | exact .inr rfl) (hs : ∀ y, foldedSetIterable e X.env y = pure y := by intro _; rfl) : PXS X W pn (.For (.Name x p) e body [] pos) (sForT i ga g) :=
  ps_mono (ps_for hp hc (pi_tup ha) (pg_name (i := i) nd hN hl) hb hs) fun Dn σ H ⟨B, G, c, fp, A, P, q⟩ => tx_st A q fun d e v G1 H1 s1 t1 A1 r1 q1 => by
    cases d with
    | tup ds =>
      have q1 : ResS ⟨X.K, X.mg, X.w⟩ W B G1 H1 (forL i g ds c) Dn := q1
      have r1 : Rp ⟨X.K, X.mg, X.w⟩ G1 v (.tup ds) := r1
      cases r1 with
      | @tup a vs _ h1 h2 =>
        refine ⟨a, rfl, ⟨vs, Same.sqT A1.fine.le h1⟩, ?_⟩
        refine for_tup (xs := vs) (fun j σ H => ∃ G' c' fp', Same G1 G' ∧ Abs ⟨X.K, X.mg, X.w⟩ B G' H c' σ fp' ∧ ResS ⟨X.K, X.mg, X.w⟩ W B G' H (forL i g (ds.drop j) c') Dn) ⟨G1, c, fp, Same.refl _, A1, q1⟩ ?_ ?_ ?_
        · rintro j σ' H' _ ⟨G', c', fp', s', A', _⟩
          exact Same.sqT (s'.trans A'.fine.le) h1
        · rintro j w σ' H' hw ⟨G', c', fp', s', A', q'⟩
          obtain ⟨d, hd, rd⟩ := h2.getV hw
          rw [drop_cons hd] at q'
          exact for_turn A' P hi (rd.mono s') q' fun σ2 G2 H2 c2 fp2 s2 A2 q2 => ⟨G2, c2, fp2, s'.trans s2, A2, q2⟩
        · rintro σ' H' ⟨G', c', fp', s', A', q'⟩
          rw [h2.length, List.drop_length] at q'
          exact q' σ' G' H' fp' (Same.refl _) A'
    | _ => exact q1.elim
/-- lo, lo + 1, .. below hi -/
def rangeD (lo hi : Int) : List D := (List.range (hi - lo).toNat).map fun (k : Nat) => .int (lo + (k : Int))
def asI : D → Option Int
  | .int i => if -(2 ^ 62) ≤ i ∧ i < 2 ^ 62 then some i else none
  | _ => none
theorem asI_rp {E : Wd} {G : Hp} {v : V} {d : D} {i : Int} (h : Rp E G v d) (e : asI d = some i) : v = .int i ∧ -(2 ^ 62) ≤ i ∧ i < 2 ^ 62 := by
  cases d <;> simp only [asI] at e
  all_goals try cases e
  split at e
  · cases e; rename_i hb; exact ⟨h.intH, hb⟩
  · cases e
def sForR (i : Nat) (ga gb : Env → R D) (g : Env → Rs) : Env → Rs := fun c => (ga c).st c fun d => (lift (asI d)).st c fun lo => (gb c).st c fun d2 => (lift (asI d2)).st c fun hi => forL i g (rangeD lo hi) c
theorem rangeD_at {lo hi : Int} {j : Nat} (h : j < (hi - lo).toNat) : (rangeD lo hi)[j]? = some (.int (lo + (j : Int))) := by
  unfold rangeD
  rw [List.getElem?_map, List.getElem?_range h]
  rfl
theorem for_rng {E : Wd} {B : Bs} {G H : Hp} {c : Env} {σ : L2.St} {fp : List Addr} {Dn : Ends} {i : Nat} {lo hi : Int} (A : Abs E B G H c σ fp) (P : PinOk pn B) (hi' : i ∉ pn) (q : ResS E W B G H (forL i g (rangeD lo hi) c) Dn) :
    ∃ W' : Nat → Nat → L2.St → Hp → Prop, (∃ m, W' 0 m σ H) ∧ ∀ j m σ H, W' j m σ H →
      ((Itr lo (hi - lo).toNat).stop j H ∧ Dn.nx σ H) ∨ ((Itr lo (hi - lo).toNat).go j H ∧ ∃ N : L2.St → Hp → Prop, (∀ σ' H', N σ' H' → ∃ m', m' < m ∧ W' (j + 1) m' σ' H') ∧ ∀ x H', (Itr lo (hi - lo).toNat).yld j H x H' → gName i x σ H' fun σ2 H2 => TSt E W pn g { Dn with nx := N, ct := N, bk := Dn.nx } σ2 H2) := by
  refine for_range (lo := lo) (n := (hi - lo).toNat) (fun j σ H => ∃ G' c' fp', Same G G' ∧ Abs E B G' H c' σ fp' ∧ ResS E W B G' H (forL i g ((rangeD lo hi).drop j) c') Dn) ⟨G, c, fp, Same.refl _, A, q⟩ ?_ ?_
  · rintro j σ' H' hj ⟨G', c', fp', s', A', q'⟩
    rw [drop_cons (rangeD_at hj)] at q'
    exact for_turn A' P hi' (.int _) q' fun σ2 G2 H2 c2 fp2 s2 A2 q2 => ⟨G2, c2, fp2, s'.trans s2, A2, q2⟩
  · rintro σ' H' ⟨G', c', fp', s', A', q'⟩
    have : (rangeD lo hi).drop (hi - lo).toNat = [] := List.drop_eq_nil_of_le (by simp [rangeD])
    rw [this] at q'
    exact q' σ' G' H' fp' (Same.refl _) A'
theorem lift_st {E : Wd} {B : Bs} {G H : Hp} {c : Env} {Dn : Ends} {α : Type} {o : Option α} {f : α → Rs} (h : ResS E W B G H ((lift o).st c f) Dn) : ∃ a, o = some a ∧ ResS E W B G H (f a) Dn := by
  cases o with
  | some a => exact ⟨a, rfl, h⟩
  | none => exact h.elim
theorem pxs_forR1 {x : Str} {p p2 p3 : Pos} {a : Expr} {body : List Stmt} (i : Nat) {ga : Env → R D} (hp : PassesOwn (model X.prog X.w) X.A X.env X.xe) (hc : X.calm = true) (hm : X.mg "range" = none) (ha : PX X W b a ga) (hb : PXSs X W pn body g) (nd : X.N.Nodup) (hN : X.N[i]? = some x := by rfl) (hl : Loc X.env.scope x := by first | exact Or.inl rfl | exact Or.inr rfl) (hi : i ∉ pn := by decide)
    (hg : Gl X "range" := by rfl) (hf : X.fn x = true ∨ X.env.scope.names.lookup x = some .local := by first | exact .inl rfl | exact .inr rfl) (hs0 : starEach [a] X.env = [(false, eval a X.env)] := by rfl) (hs : ∀ y, foldedSetIterable (.Call (.Name "range" p2) [a] [] p3) X.env y = pure y := by intro _; rfl) :
    PXS X W pn (.For (.Name x p) (.Call (.Name "range" p2) [a] [] p3) body [] pos) (sForR i (eC (.int 0)) ga g) :=
  ps_mono (ps_for hp hc (pi_range1 hg hm (pa_cons ha pa_nil hs0) hs0) (pg_name (i := i) nd hN hl) hb hs) fun Dn σ H ⟨B, G, c, fp, A, P, q⟩ => by
    have q0 : ResS ⟨X.K, X.mg, X.w⟩ W B G H ((ga c).st c fun d2 => (lift (asI d2)).st c fun hi => forL i g (rangeD 0 hi) c) Dn := q
    refine tx_st A q0 fun d e v G1 H1 s1 t1 A1 r1 q1 => ?_
    obtain ⟨hi, e1, q2⟩ := lift_st q1
    obtain ⟨rfl, h1, h2⟩ := asI_rp r1 e1
    refine ⟨hi, rfl, h1, h2, ?_⟩
    have z := for_rng (lo := 0) (hi := hi) A1 P ‹_› q2
    simpa using z
theorem pxs_forR2 {x : Str} {p p2 p3 : Pos} {a a2 : Expr} {body : List Stmt} (i : Nat) {b2 : Bool} {ga gb : Env → R D} (hp : PassesOwn (model X.prog X.w) X.A X.env X.xe) (hc : X.calm = true) (hm : X.mg "range" = none) (ha : PX X W b a ga) (ha2 : PX X W b2 a2 gb) (hb : PXSs X W pn body g) (nd : X.N.Nodup) (hN : X.N[i]? = some x := by rfl) (hl : Loc X.env.scope x := by first | exact Or.inl rfl | exact Or.inr rfl) (hi : i ∉ pn := by decide)
    (hg : Gl X "range" := by rfl) (hf : X.fn x = true ∨ X.env.scope.names.lookup x = some .local := by first | exact .inl rfl | exact .inr rfl) (hs0 : starEach [a, a2] X.env = [(false, eval a X.env), (false, eval a2 X.env)] := by rfl) (hs1 : starEach [a2] X.env = [(false, eval a2 X.env)] := by rfl) (hs2 : starEach [a, a2] X.env = (false, eval a X.env) :: starEach [a2] X.env := by rfl)
    (hs : ∀ y, foldedSetIterable (.Call (.Name "range" p2) [a, a2] [] p3) X.env y = pure y := by intro _; rfl) :
    PXS X W pn (.For (.Name x p) (.Call (.Name "range" p2) [a, a2] [] p3) body [] pos) (sForR i ga gb g) :=
  ps_mono (ps_for hp hc (pi_range2 hg hm (pa_cons ha (pa_cons ha2 pa_nil hs1) hs2) hs0 hs1) (pg_name (i := i) nd hN hl) hb hs) fun Dn σ H ⟨B, G, c, fp, A, P, q⟩ => by
    refine tx_st A q fun d e v G1 H1 s1 t1 A1 r1 q1 => ?_
    obtain ⟨lo, e1, q2⟩ := lift_st q1
    obtain ⟨rfl, h1, h2⟩ := asI_rp r1 e1
    refine tx_st A1 q2 fun d2 e3 v2 G2 H2 s2 t2 A2 r2 q3 => ?_
    obtain ⟨hi, e4, q4⟩ := lift_st q3
    obtain ⟨rfl, h3, h4⟩ := asI_rp r2 e4
    exact ⟨lo, hi, rfl, ⟨h1, h2, h3, h4⟩, for_rng A2 P ‹_› q4⟩
end
end VS

/-! VS: what is owned: new lists and dicts, changed in place; freezing; comprehensions. -/
namespace VS
open PySem PySem.Spec PyProof.Rows L2

section
variable {E : Wd} {B : Bs} {c : Env} {σ : L2.St} {fp : List Addr} {G G' H H' : Hp}
/-- a new object that is nobody's knowledge yet -/
theorem Abs.newO {p : Addr} {u : HO} (A : Abs E B G H c σ fp) (hp : H p = none) (hu : isT u = false) : Abs E B G (upd H p u) c σ fp :=
  A.grow (same_upd hp) fun a w e k => by
    by_cases ha : a = p
    · subst ha; rw [upd_same] at e; cases e; rw [hu] at k; cases k
    · rw [upd_ne ha] at e; exact A.fine.tup a w e k
theorem ownL_v : ∀ {vs : List V} {ds : List D}, RpL E G vs ds → OwnL E G H vs (ds.map O.v) []
  | _, [], r => by cases r; exact .nil
  | _, d :: ds, r => by
    cases r with
    | cons h r => exact OwnL.cons (fp := []) (fq := []) (.v h) (ownL_v r)
theorem OwnL.append {vs ws : List V} {os ps : List O} {fp fq : List Addr} (h : OwnL E G H vs os fp) (k : OwnL E G H ws ps fq) : OwnL E G H (vs ++ ws) (os ++ ps) (fp ++ fq) := by
  induction os generalizing vs fp with
  | nil => cases h; simpa using k
  | cons o os ih => cases h with | cons h r => rw [List.append_assoc]; exact .cons h (ih r)
theorem OwnL.length : ∀ {vs : List V} {os : List O} {fp : List Addr}, OwnL E G H vs os fp → vs.length = os.length
  | _, [], _, h => by cases h; rfl
  | _, o :: os, _, h => by cases h with | cons h r => simp [r.length]
/-- an item is replaced by a value -/
theorem OwnL.setV : ∀ {vs : List V} {os : List O} {fp : List Addr} {v : V} {d : D} (i : Nat), OwnL E G H vs os fp → Rp E G v d → fp.Nodup → ∃ fq, OwnL E G H (vs.set i v) (os.set i (.v d)) fq ∧ fq.Nodup ∧ ∀ p ∈ fq, p ∈ fp
  | _, [], _, v, d, i, h, r, n => by cases h; exact ⟨[], .nil, List.nodup_nil, fun p hp => hp⟩
  | _, o :: os, _, v, d, 0, h, r, n => by
    cases h with
    | @cons _ _ _ _ f1 f2 h k => exact ⟨_, .cons (.v r) k, by simpa using (List.nodup_append.mp n).2.1, fun p hp => List.mem_append_right _ (by simpa using hp)⟩
  | _, o :: os, _, v, d, i + 1, h, r, n => by
    cases h with
    | @cons _ _ _ _ f1 f2 h k =>
      obtain ⟨n1, n2, n3⟩ := List.nodup_append.mp n
      obtain ⟨fq, k1, k2, k3⟩ := OwnL.setV i k r n2
      refine ⟨_, .cons h k1, List.nodup_append.mpr ⟨n1, k2, fun a ha b hb => n3 a ha b (k3 b hb)⟩, fun p hp => ?_⟩
      rcases List.mem_append.mp hp with z | z
      · exact List.mem_append_left _ z
      · exact List.mem_append_right _ (k3 p z)
theorem OwnL.upd {vs : List V} {os : List O} {fp : List Addr} {p : Addr} {u : HO} (h : OwnL E G H vs os fp) (hp : p ∉ fp) : OwnL E G (L2.upd H p u) vs os fp :=
  h.keep (Same.refl _) fun q hq w e => by
    have hne : q ≠ p := fun z => hp (z ▸ hq)
    rw [upd_ne hne]; exact e
/-- what one name owns is changed -/
theorem Cells.poke : ∀ {c : Env} {σ : L2.St} {fp : List Addr} {i : Nat} {o : O}, Cells E G H c σ fp → fp.Nodup → c[i]? = some (some o) → ∃ v fq, σ[i]? = some (some v) ∧ Own E G H v o fq ∧ fq.Nodup ∧ (∀ p ∈ fq, p ∈ fp) ∧
    ∀ {G' H' : Hp} {o' : O} {fr : List Addr}, Same G G' → (∀ p ∈ fp, p ∉ fq → ∀ u, H p = some u → H' p = some u) → Own E G' H' v o' fr → fr.Nodup → (∀ p ∈ fr, p ∈ fq ∨ p ∉ fp) → ∃ fp', Cells E G' H' (c.set i (some o')) σ fp' ∧ fp'.Nodup ∧ ∀ p ∈ fp', (p ∈ fp ∧ p ∉ fq) ∨ p ∈ fr
  | _, _, _, i, o, .nil, n, e => by simp at e
  | _, _, _, 0, o, .no h, n, e => by simp at e
  | _, _, _, i + 1, o, .no h, n, e => by
    obtain ⟨v, fq, h1, h2, h3, h4, h5⟩ := Cells.poke (i := i) h n (by simpa using e)
    refine ⟨v, fq, by simpa using h1, h2, h3, h4, fun s k w m d => ?_⟩
    obtain ⟨fp', k1, k2, k3⟩ := h5 s k w m d
    exact ⟨fp', .no k1, k2, k3⟩
  | _, _, _, 0, o, .yes (fp := f1) (fq := f2) h r, n, e => by
    simp at e
    subst e
    obtain ⟨n1, n2, n3⟩ := List.nodup_append.mp n
    refine ⟨_, f1, rfl, h, n1, fun p hp => List.mem_append_left _ hp, fun s k w m d => ?_⟩
    have r' := Cells.keep s r fun p hp u e => k p (List.mem_append_right _ hp) (fun z => n3 p z p hp rfl) u e
    refine ⟨_, .yes w r', List.nodup_append.mpr ⟨m, n2, fun a ha b hb e => ?_⟩, fun p hp => ?_⟩
    · subst e
      rcases d a ha with z | z
      · exact n3 a z a hb rfl
      · exact z (List.mem_append_right _ hb)
    · rcases List.mem_append.mp hp with z | z
      · exact .inr z
      · exact .inl ⟨List.mem_append_right _ z, fun y => n3 p y p z rfl⟩
  | _, _, _, i + 1, o, .yes (fp := f1) (fq := f2) h r, n, e => by
    obtain ⟨n1, n2, n3⟩ := List.nodup_append.mp n
    obtain ⟨v, fq, h1, h2, h3, h4, h5⟩ := Cells.poke (i := i) r n2 (by simpa using e)
    refine ⟨v, fq, by simpa using h1, h2, h3, fun p hp => List.mem_append_right _ (h4 p hp), fun s k w m d => ?_⟩
    obtain ⟨fp', k1, k2, k3⟩ := h5 s (fun p hp hq u e => k p (List.mem_append_right _ hp) hq u e) w m (fun p hp => (d p hp).elim .inl fun z => .inr fun z2 => z (List.mem_append_right _ z2))
    have hk := h.keep (H' := _) s fun p hp u e => k p (List.mem_append_left _ hp) (fun z => n3 p hp p (h4 p z) rfl) u e
    refine ⟨_, .yes hk k1, List.nodup_append.mpr ⟨n1, k2, fun a ha b hb e => ?_⟩, fun p hp => ?_⟩
    · subst e
      rcases k3 a hb with ⟨z, _⟩ | z
      · exact n3 a ha a z rfl
      · rcases d a z with y | y
        · exact n3 a ha a (h4 a y) rfl
        · exact y (List.mem_append_left _ ha)
    · rcases List.mem_append.mp hp with z | z
      · exact .inl ⟨List.mem_append_left _ z, fun y => n3 p z p (h4 p y) rfl⟩
      · rcases k3 p z with ⟨y, w⟩ | y
        · exact .inl ⟨List.mem_append_right _ y, w⟩
        · exact .inr y
/-- one own object is written -/
theorem Abs.poke {i : Nat} {o : O} (A : Abs E B G H c σ fp) (e : c[i]? = some (some o)) : ∃ v fq, σ[i]? = some (some v) ∧ Own E G H v o fq ∧ fq.Nodup ∧ (∀ p ∈ fq, p ∈ fp) ∧
    ∀ {p : Addr} {u : HO} {o' : O} {fr : List Addr}, p ∈ fq → isT u = false → Own E G (upd H p u) v o' fr → fr.Nodup → (∀ q ∈ fr, q ∈ fq) → ∃ fp', Abs E B G (upd H p u) (c.set i (some o')) σ fp' := by
  obtain ⟨v, fq, h1, h2, h3, h4, h5⟩ := A.cells.poke A.nd e
  refine ⟨v, fq, h1, h2, h3, h4, fun {p u o' fr} hp hu w m d => ?_⟩
  obtain ⟨fp', k1, k2, k3⟩ := h5 (Same.refl G) (fun q hq hn w e => by
    have : q ≠ p := fun z => hn (z ▸ hp)
    rw [upd_ne this]; exact e) w m fun q hq => .inl (d q hq)
  obtain ⟨gp, bp⟩ := A.fresh p (h4 p hp)
  refine ⟨fp', ⟨fun a o e n => ?_, fun a e => ?_, A.fine.x, fun a o e => ?_, fun a o e k => ?_⟩, k1, k2, fun q hq => (k3 q hq).elim (fun z => A.fresh q z.1) fun z => A.fresh q (h4 q (d q z)), A.pin⟩
  · have ha : a ≠ p := fun z => by
      subst z
      rcases bp with z | z
      · rw [z] at e; cases e
      · exact n z
    rw [upd_ne ha]; exact A.fine.base a o e n
  · by_cases ha : a = p
    · subst ha; rw [upd_same] at e; cases e
    · rw [upd_ne ha] at e; exact A.fine.there a e
  · have ha : a ≠ p := fun z => by subst z; rw [gp] at e; cases e
    rw [upd_ne ha]; exact A.fine.le a o e
  · by_cases ha : a = p
    · subst ha; rw [upd_same] at e; cases e; rw [hu] at k; cases k
    · rw [upd_ne ha] at e; exact A.fine.tup a o e k
end

/-! ### a fresh thing -/
def PostF (E : Wd) (B : Bs) (c : Env) (σ : L2.St) (fp : List Addr) (G H : Hp) (Q : VK) (o : O) : Prop :=
  ∀ v G' H' fq, Same G G' → Same H H' → Abs E B G' H' c σ fp → Own E G' H' v o fq → fq.Nodup → (∀ p ∈ fq, H p = none ∧ G' p = none) → Q v H'
def TF (E : Wd) (W : WX) (g : Env → R O) : TE := fun σ H Q => ∃ B G c fp, Abs E B G H c σ fp ∧ Res E W B c σ fp G H (g c) (PostF E B c σ fp G H Q)
/-- an expression that is worth a new thing -/
def PF (X : Cx) (W : WX) (e : Expr) (g : Env → R O) : Prop := PE X e (TF ⟨X.K, X.mg, X.w⟩ W g)
section
variable {E : Wd} {W : WX} {B : Bs} {c : Env} {σ : L2.St} {fp : List Addr} {G H : Hp} {b : Bool} {Dn : Ends}
theorem PostF.grow {Q : VK} {o : O} {G' H' : Hp} (h : PostF E B c σ fp G H Q o) (s : Same G G') (t : Same H H') : PostF E B c σ fp G' H' Q o := fun v G2 H2 fq s2 t2 A w n k =>
  h v G2 H2 fq (s.trans s2) (t.trans t2) A w n fun p hp => ⟨t.free (k p hp).1, (k p hp).2⟩
theorem tf_st {ga : Env → R O} {f : O → Rs} {Q' : VK} (A : Abs E B G H c σ fp) (h : ResS E W B G H (R.st (ga c) c f) Dn)
    (k : ∀ o, ga c = .ok o → ∀ v G1 H1 fq, Same G G1 → Same H H1 → Abs E B G1 H1 c σ fp → Own E G1 H1 v o fq → fq.Nodup → (∀ p ∈ fq, H p = none ∧ G1 p = none) → ResS E W B G1 H1 (f o) Dn → Q' v H1) : TF E W ga σ H Q' := by
  refine ⟨B, G, c, fp, A, ?_⟩
  cases e : ga c with
  | ok o =>
    rw [e] at h
    exact fun v G1 H1 fq s t A1 w n d => k o e v G1 H1 fq s t A1 w n d (ResS.grow (r := f o) h s)
  | ex x => rw [e] at h; exact fun cl dx G1 H1 s t A1 r => h cl dx σ G1 H1 fp s A1 r
  | stuck => rw [e] at h; exact h
end
section
variable {X : Cx} {W : WX} {pn : List Nat} {b b1 b2 : Bool} {e : Expr} {pos : Pos} {g : Env → Rs}
/-- a fresh thing may be taken as known -/
def eFz (g : Env → R O) : Env → R D := fun c => g c >>= fun o => .ok o.toD
def fLstO (ds : List D) : Option O := if ds.length ≤ 16777216 then some (.lst (ds.map O.v)) else none
def eFnO (f : List D → Option O) (gs : Env → R (List D)) : Env → R O := fun c => gs c >>= fun ds => lift (f ds)
theorem PostF.new {B : Bs} {c : Env} {σ : L2.St} {fp : List Addr} {G H : Hp} {Q : VK} {ds : List D} {vs : List V} (h : PostF ⟨X.K, X.mg, X.w⟩ B c σ fp G H Q (.lst (ds.map O.v))) (A : Abs ⟨X.K, X.mg, X.w⟩ B G H c σ fp) {p : Addr} (hp : H p = none) (r : RpL ⟨X.K, X.mg, X.w⟩ G vs ds) : Q (.ref p) (upd H p (.lst vs)) := by
  refine h (.ref p) G _ [p] (Same.refl _) (same_upd hp) (A.newO hp rfl) (.lst upd_same (ownL_v r)) (by simp) fun q hq => ?_
  have : q = p := by simpa using hq
  subst this
  exact ⟨hp, A.fine.fresh hp⟩
theorem pf_lst {es : List Expr} {gs : Env → R (List D)} (h : PXA X W true es gs) : PF X W (.List es pos) (eFnO fLstO gs) :=
  pe_mono (pe_lst h) fun σ H Q ⟨B, G, c, fp, A, q⟩ => txa_seq A q fun ds e vs G1 H1 s1 t1 A1 r1 q1 => by
    obtain ⟨d3, e3, p3⟩ := Res.lift q1
    unfold fLstO at e3
    split at e3
    · cases e3
      rename_i hl
      exact ⟨sz_ok (by rw [r1.length]; exact hl), fun p hp => (p3.grow s1 t1).new A1 hp r1⟩
    · cases e3
/-- list(xs), a new list -/
def fListO (b : Bool) (ds : List D) : Option O := (fList b ds).bind fun d => match d with
  | .lst es => some (.lst (es.map O.v))
  | _ => none
theorem pf_list {x : Str} {e : Expr} {gs : Env → R (List D)} {p : Pos} (hc : X.calm = true) (hm : X.mg x = none) (ha : PXA X W b [e] gs) (hx : x = "list" := by rfl) (hg : Gl X x := by rfl) (hv : bootBuiltins x = some (.type "list") := by decide +kernel)
    (hn : x ≠ "__name__" := by decide) (hdb : (x == ("__debug__" : Str)) = false := by decide) (he : starEach [e] X.env = (false, eval e X.env) :: starEach [] X.env := by rfl) (hpl : (backTo pos (starEach [] X.env)).any (·.1) = false := by rfl) :
    PF X W (.Call (.Name x p) [e] [] pos) (eFnO (fListO b) gs) :=
  pe_mono (pe_callTy (call_listA hc) hg hm hv ha hn hdb he hpl) fun σ H Q ⟨B, G, c, fp, A, q⟩ => txa_seq A q fun ds e vs G1 H1 s1 t1 A1 r1 q1 => by
    obtain ⟨o, e3, p3⟩ := Res.lift q1
    have p3 := p3.grow s1 t1
    unfold fListO at e3
    obtain ⟨d, e4, e5⟩ := Option.bind_eq_some_iff.mp e3
    unfold fList at e4
    split at e4
    · split at e4
      · rename_i hk
        cases e4
        cases e5
        obtain ⟨v, rfl, rv⟩ := r1.one
        obtain ⟨a, vs, rfl, h1, r1⟩ := rv.lstH A1.fine.le
        exact .inl ⟨_, _, rfl, .inl h1, fun q hq => p3.new A1 hq (r1.known A1.fine hk)⟩
      · cases e4
    · split at e4
      · rename_i hk
        cases e4
        cases e5
        obtain ⟨v, rfl, rv⟩ := r1.one
        obtain ⟨a, vs, rfl, h1, r1⟩ := rv.tupH A1.fine.le
        exact .inl ⟨_, _, rfl, .inr h1, fun q hq => p3.new A1 hq (r1.known A1.fine hk)⟩
      · cases e4
    · split at e4
      · rename_i ks ds hl
        cases e4
        cases e5
        obtain ⟨v, rfl, rv⟩ := r1.one
        obtain ⟨a, kvs, rfl, h1, e1, r1⟩ := rv.dicH A1.fine.le
        exact .inr ⟨_, _, rfl, h1, fun q hq => p3.new A1 hq (keys_rp e1)⟩
      · cases e4
    · cases e4
/-! ### x = a fresh thing -/
def sSetO (i : Nat) (g : Env → R O) : Env → Rs := fun c => (g c).st c fun o => .ok .nx (c.set i (some o))
theorem set_fresh {E : Wd} {B : Bs} {c : Env} {σ : L2.St} {fp : List Addr} {G1 H H1 : Hp} {v : V} {o : O} {fq : List Addr} {i : Nat} {pn : List Nat} (A : Abs E B G1 H1 c σ fp) (t : ∀ p ∈ fp, H p ≠ none) (f0 : ∀ p, H p = none → B.H0 p = none) (w : Own E G1 H1 v o fq) (n : fq.Nodup) (d : ∀ p ∈ fq, H p = none ∧ G1 p = none) (P : PinOk pn B) (hi : i ∉ pn) :
    ∃ fr, Abs E B G1 H1 (c.set i (some o)) (σ.set i (some v)) fr :=
  A.set w n (fun p hp z => t p z (d p hp).1) (fun p hp => ⟨(d p hp).2, .inl (f0 p (d p hp).1)⟩) (P.ne hi)
theorem pxs_setO {x : Str} {p : Pos} (i : Nat) {g : Env → R O} (h : PF X W e g) (nd : X.N.Nodup) (hN : X.N[i]? = some x := by rfl) (hl : Loc X.env.scope x := by first | exact Or.inl rfl | exact Or.inr rfl) (hi : i ∉ pn := by decide)
    (hs : swapsWith e (some (.Name x p)) pos.line X.env = pure false := by rfl) (hf : X.fn x = true ∨ X.env.scope.names.lookup x = some .local := by first | exact .inl rfl | exact .inr rfl) : PXS X W pn (.Assign [.Name x p] e pos) (sSetO i g) :=
  ps_mono (ps_asg h (pg_name (i := i) nd hN hl) hs) fun Dn σ H ⟨B, G, c, fp, A, P, q⟩ => tf_st A q fun o e v G1 H1 fq s1 t1 A1 w n d q1 => by
    obtain ⟨fr, A2⟩ := set_fresh A1 (A.cells.there) A.fine.there w n d P hi
    exact q1 _ G1 H1 fr (Same.refl _) A2
/-! ### x.append(e), x[i] = e -/
def atL (i : Nat) (c : Env) : Option (List O) := match c[i]? with
  | some (some (.lst os)) => some os
  | _ => none
theorem atL_eq {i : Nat} {c : Env} {os : List O} (h : atL i c = some os) : c[i]? = some (some (.lst os)) := by
  unfold atL at h
  split at h
  · cases h; assumption
  · cases h
def sApp (i : Nat) (g : Env → R D) : Env → Rs := fun c => (lift (atL i c)).st c fun os => (g c).st c fun d => if os.length < 16777216 then .ok .nx (c.set i (some (.lst (os ++ [.v d])))) else .stuck
theorem pxs_app {x : Str} {p apos cpos : Pos} (i : Nat) {g : Env → R D} (h : PX X W true e g) (hN : X.N[i]? = some x := by rfl) (hv : Vis X.env.scope x := by first | exact Or.inl rfl | exact Or.inr (Or.inl rfl) | exact Or.inr (Or.inr rfl)) (hd : (x == ("__debug__" : Str)) = false := by decide) (hcd : (x == ("__classdict__" : Str)) = false := by decide)
    (hbase : attributeBase (.Name x p) "append" X.env (eval (.Name x p) X.env) = eval (.Name x p) X.env := by rfl)
    (hfew : ((backTo cpos (starEach [e] X.env)).all (fun x => !x.1) && (backToKw cpos (keywordEach [] X.env)).all (fun x => x.1.isSome)
      && decide ([e].length + ([] : List Keyword).length + (if ([] : List Keyword).isEmpty then 0 else 1) < 30)) = true := by rfl)
    (hline : (apos.endLine == cpos.line) = true := by rfl) (hs : starEach [e] X.env = (false, eval e X.env) :: starEach [] X.env := by rfl) (hplain : (backTo cpos (starEach [] X.env)).any (·.1) = false := by rfl)
    (hsw : swapsWith (.Call (.Attribute (.Name x p) "append" apos) [e] [] cpos) none pos.line X.env = pure false := by rfl) :
    PXS X W pn (.Expr (.Call (.Attribute (.Name x p) "append" apos) [e] [] cpos) pos) (sApp i g) :=
  ps_mono (ps_expr (pe_bm PySem.F.plainAttrs_list PySem.F.slot_list_append PySem.F.type_list_append mt_append (pe_var hN hv hd hcd) (pa_cons h pa_nil hs) hbase hfew hline hs hplain) hsw) fun Dn σ H ⟨B, G, c, fp, A, P, q⟩ => by
    obtain ⟨os, e0, q⟩ := lift_st q
    have e1 := atL_eq e0
    obtain ⟨v, fq, h1, h2, _, _, _⟩ := A.poke e1
    cases h2 with
    | @lst a vs _ fq ha ho =>
      refine ⟨_, h1, .inl ⟨rfl, vs, .inl (.inl ha)⟩, tx_st A q fun d e3 w G1 H1 s1 t1 A1 r1 q1 => ?_⟩
      obtain ⟨v, fq, h1', h2, n, hin, hpk⟩ := A1.poke e1
      rw [h1] at h1'
      cases h1'
      cases h2 with
      | @lst _ vs _ fq ha ho =>
        have hlen := ho.length
        by_cases hl : os.length < 16777216
        · have q2 : ResS ⟨X.K, X.mg, X.w⟩ W B G1 H1 (if os.length < 16777216 then .ok .nx (c.set i (some (.lst (os ++ [.v d])))) else .stuck) Dn := q1
          rw [if_pos hl] at q2
          refine ⟨a, vs, w, rfl, rfl, ha, by rw [hlen, sizeLine_eq]; exact hl, ?_⟩
          have nn := List.nodup_cons.mp n
          have ho' : OwnL ⟨X.K, X.mg, X.w⟩ G1 (upd H1 a (.lst (vs ++ [w]))) (vs ++ [w]) (os ++ [.v d]) (fq ++ ([] ++ [])) :=
            (ho.upd nn.1).append (.cons (.v r1) .nil)
          obtain ⟨fp', A2⟩ := hpk List.mem_cons_self (u := .lst (vs ++ [w])) rfl (.lst upd_same ho') (by simpa using n) (fun q hq => by simpa using hq)
          exact q2 σ G1 _ fp' (Same.refl _) A2
        · have q2 : ResS ⟨X.K, X.mg, X.w⟩ W B G1 H1 (if os.length < 16777216 then .ok .nx (c.set i (some (.lst (os ++ [.v d])))) else .stuck) Dn := q1
          rw [if_neg hl] at q2
          exact q2.elim
def sIxSet (i : Nat) (gi g : Env → R D) : Env → Rs := fun c => (g c).st c fun d => (lift (atL i c)).st c fun os => (gi c).st c fun k => match k with
  | .int k => (lift (ixN os.length k)).st c fun j => .ok .nx (c.set i (some (.lst (os.set j (.v d)))))
  | _ => .stuck
theorem pxs_ixset {x : Str} {ei : Expr} {p p2 : Pos} (i : Nat) {gi g : Env → R D} (h : PX X W true e g) (hi : PX X W b ei gi) (hN : X.N[i]? = some x := by rfl) (hv : Vis X.env.scope x := by first | exact Or.inl rfl | exact Or.inr (Or.inl rfl) | exact Or.inr (Or.inr rfl)) (hd : (x == ("__debug__" : Str)) = false := by decide) (hcd : (x == ("__classdict__" : Str)) = false := by decide)
    (hs : swapsWithSole [.Subscript (.Name x p) ei p2] e pos.line X.env = pure false := by rfl) (hw : swappedStores [.Subscript (.Name x p) ei p2] e X.env = pure none := by rfl)
    (h1 : (assignEach [.Subscript (.Name x p) ei p2] X.env).map (·.2) = [assign (.Subscript (.Name x p) ei p2) X.env] := by rfl)
    (ha : ∀ v, assign (.Subscript (.Name x p) ei p2) X.env v = (do
      let ov ← holding [v] (eval (.Name x p) X.env)
      let iv ← holding [v, ov] (eval ei X.env)
      standAt p2
      holding [v, ov, iv] (setItem ov iv v)
      release [v, ov, iv] []) := by intro _; rfl) : PXS X W pn (.Assign [.Subscript (.Name x p) ei p2] e pos) (sIxSet i gi g) :=
  ps_mono (ps_asg h (pg_sub (pe_var hN hv hd hcd) hi set_list ha) hs hw h1) fun Dn σ H ⟨B, G, c, fp, A, P, q⟩ => tx_st A q fun d e w G1 H1 s1 t1 A1 r1 q1 => by
    obtain ⟨os, e0, q1⟩ := lift_st q1
    have e1 := atL_eq e0
    obtain ⟨v, fq, h1, h2, _, _, _⟩ := A1.poke e1
    cases h2 with
    | @lst a vs _ fq ha ho =>
      refine ⟨_, h1, tx_st A1 q1 fun k e3 w2 G2 H2 s2 t2 A2 r2 q2 => ?_⟩
      cases k with
      | int k =>
        obtain ⟨j, ej, q3⟩ := lift_st q2
        obtain ⟨v, fq, h1', h2, n, hin, hpk⟩ := A2.poke e1
        rw [h1] at h1'
        cases h1'
        cases h2 with
        | @lst _ vs _ fq ha ho =>
          have hlen := ho.length
          refine ⟨a, vs, k, j, rfl, r2.intH, ha, by rw [hlen]; exact ej, ?_⟩
          have nn := List.nodup_cons.mp n
          have ho2 := ho.upd (p := a) (u := .lst (vs.set j w)) nn.1
          obtain ⟨fr, k1, k2, k3⟩ := ho2.setV j (r1.mono s2) nn.2
          obtain ⟨fp', A3⟩ := hpk List.mem_cons_self (u := .lst (vs.set j w)) rfl (.lst upd_same k1) (List.nodup_cons.mpr ⟨fun z => nn.1 (k3 a z), k2⟩) (fun q hq => by
            rcases List.mem_cons.mp hq with z | z
            · rw [z]; exact List.mem_cons_self
            · exact List.mem_cons_of_mem _ (k3 q z))
          exact q3 σ G2 _ fp' (Same.refl _) A3
      | _ => exact q2.elim
/-! ### freezing -/
def fz (i : Nat) (c : Env) : Env := match c[i]? with
  | some (some o) => c.set i (some (.v o.toD))
  | _ => c
def sFz (i : Nat) (g : Env → Rs) : Env → Rs := fun c => g (fz i c)
theorem Abs.fz {E : Wd} {B : Bs} {G H : Hp} {c : Env} {σ : L2.St} {fp : List Addr} (A : Abs E B G H c σ fp) (nb : ∀ a, ¬ B.br a) (i : Nat) : ∃ G' fp', Same G G' ∧ Abs E B G' H (VS.fz i c) σ fp' := by
  unfold VS.fz
  split
  · rename_i o e
    obtain ⟨v, fq, h1, h2, h3, h4, h5⟩ := A.cells.poke A.nd e
    have fr0 : ∀ p ∈ fq, G p = none ∧ B.H0 p = none := fun p hp => by
      obtain ⟨a1, a2⟩ := A.fresh p (h4 p hp)
      exact ⟨a1, a2.elim id fun z => (nb p z).elim⟩
    let G' : Hp := fun a => if a ∈ fq then H a else G a
    have gin : ∀ a, a ∈ fq → G' a = H a := fun a ha => if_pos ha
    have gout : ∀ a, a ∉ fq → G' a = G a := fun a ha => if_neg ha
    have s : Same G G' := fun a u ha => by
      have hn : a ∉ fq := fun z => by rw [(fr0 a z).1] at ha; cases ha
      rw [gout a hn]; exact ha
    have sl : Same G' H := fun a u ha => by
      by_cases hn : a ∈ fq
      · rw [gin a hn] at ha; exact ha
      · rw [gout a hn] at ha; exact A.fine.le a u ha
    have rp : Rp E G' v o.toD := by
      refine Own.rp (H' := G') (H := H) A.fine.le h2 (fun p hp u e => by rw [gin p hp]; exact e) s
    obtain ⟨fp', k1, k2, k3⟩ := h5 (H' := H) (o' := .v o.toD) (fr := []) s (fun p hp hn u e => e) (.v rp) List.nodup_nil (fun p hp => nomatch hp)
    have k4 : ∀ p ∈ fp', p ∈ fp ∧ G' p = none := fun p hp => by
      obtain ⟨z, w⟩ : p ∈ fp ∧ p ∉ fq := (k3 p hp).elim id fun z => nomatch z
      exact ⟨z, by rw [gout p w]; exact (A.fresh p z).1⟩
    exact ⟨G', fp', s, ⟨A.fine.base, A.fine.there, fun a e1 e2 => by
      by_cases hn : a ∈ fq
      · exact (e1 (fr0 a hn).2).elim
      · rw [gout a hn]; exact A.fine.x a e1 e2, sl, fun a u e k => by
      by_cases hn : a ∈ fq
      · rw [gin a hn]; exact e
      · rw [gout a hn]; exact A.fine.tup a u e k⟩, k1, k2, fun p hp => ⟨(k4 p hp).2, (A.fresh p (k4 p hp).1).2⟩, A.pin⟩
  · exact ⟨G, fp, Same.refl _, A⟩
theorem pxs_fz {st : Stmt} (i : Nat) (h : PXS X W [] st g) : PXS X W [] st (sFz i g) := ps_mono h fun Dn σ H ⟨B, G, c, fp, A, P, q⟩ => by
  obtain ⟨G', fp', s, A'⟩ := A.fz (P.2 rfl) i
  exact ⟨B, G', _, fp', A', P, ResS.grow (r := g (fz i c)) q s⟩
end
end VS

/-! VS: what is walked; for; list comprehensions. -/
namespace VS
open PySem PySem.Spec PyProof.Rows L2

/-- the iterator J yields ds, as long as Hs stands; the items are known in G -/
structure Wk (E : Wd) (J : It) (Hs G : Hp) (ds : List D) : Prop where
  go : ∀ j H, Same Hs H → j < ds.length → J.go j H
  yl : ∀ j H x H', Same Hs H → J.yld j H x H' → H' = H ∧ ∀ d, ds[j]? = some d → Rp E G x d
  st : ∀ j H, Same Hs H → ds.length ≤ j → J.stop j H
/-- what a for (b) or a comprehension walks -/
structure PSrc (X : Cx) (W : WX) (b : Bool) (tg iter : Expr) (wi : TI) (gs : Env → R (List D)) : Prop where
  pi : PI X tg iter wi
  run : ∀ {B : Bs} {G H : Hp} {c : Env} {σ : L2.St} {fp : List Addr} {P : List D → Prop} {R : It → Hp → Prop}, Abs ⟨X.K, X.mg, X.w⟩ B G H c σ fp → Res ⟨X.K, X.mg, X.w⟩ W B c σ fp G H (gs c) P →
    (∀ ds G1 H1 J, gs c = .ok ds → Same G G1 → Same H H1 → Abs ⟨X.K, X.mg, X.w⟩ B G1 H1 c σ fp → Wk ⟨X.K, X.mg, X.w⟩ J (vw b G1 H1) G1 ds → P ds → R J H1) → wi σ H R
section
variable {X : Cx} {W : WX} {pn : List Nat} {b b' b2 : Bool} {tg e : Expr} {pos : Pos} {g : Env → Rs}
theorem wk_list {E : Wd} {Hs G : Hp} {a : Addr} {vs : List V} {ds : List D} {K : PySem.W.Frag} (h : SqL K Hs a vs) (r : RpL E G vs ds) : Wk E (Itl K a) Hs G ds := by
  refine ⟨fun j H s hj => ?_, fun j H x H' s y => ⟨y.1, fun d e => ?_⟩, fun j H s hj => ⟨vs, Same.sqL s h, by rw [r.length]; exact hj⟩⟩
  · obtain ⟨v, e1, _⟩ := r.get (List.getElem?_eq_getElem hj)
    exact ⟨vs, v, Same.sqL s h, e1⟩
  · obtain ⟨v, e1, e2⟩ := r.get e
    have := y.2 vs (Same.sqL s h)
    rw [e1] at this
    cases this
    exact e2
theorem wk_tup {E : Wd} {Hs G : Hp} {a : Addr} {vs : List V} {ds : List D} {K : PySem.W.Frag} (h : SqT K Hs a vs) (r : RpL E G vs ds) : Wk E (Itt K a) Hs G ds := by
  refine ⟨fun j H s hj => ?_, fun j H x H' s y => ⟨y.1, fun d e => ?_⟩, fun j H s hj => ⟨vs, Same.sqT s h, by rw [r.length]; exact hj⟩⟩
  · obtain ⟨v, e1, _⟩ := r.get (List.getElem?_eq_getElem hj)
    exact ⟨vs, v, Same.sqT s h, e1⟩
  · obtain ⟨v, e1, e2⟩ := r.get e
    have := y.2 vs (Same.sqT s h)
    rw [e1] at this
    cases this
    exact e2
theorem rangeD_len (lo hi : Int) : (rangeD lo hi).length = (hi - lo).toNat := by simp [rangeD]
theorem wk_rng {E : Wd} {Hs G : Hp} {lo hi : Int} : Wk E (Itr lo (hi - lo).toNat) Hs G (rangeD lo hi) := by
  refine ⟨fun j H s hj => ?_, fun j H x H' s y => ⟨y.1, fun d e => ?_⟩, fun j H s hj => ?_⟩
  · rw [rangeD_len] at hj; exact hj
  · obtain ⟨hj, _⟩ := List.getElem?_eq_some_iff.mp e
    rw [rangeD_len] at hj
    rw [rangeD_at hj] at e
    cases e
    rw [y.2]
    exact .int _
  · rw [rangeD_len] at hj; exact hj
/-- the items of a list, a tuple, a text -/
def asA (b : Bool) : D → Option (List D)
  | .lst ds => if okEl b ds then some ds else none
  | .tup ds => if okEl b ds then some ds else none
  | .str l => if l.length ≤ 16777216 then some (l.map fun x => .str [x]) else none
  | _ => none
def eIt (b : Bool) (ga : Env → R D) : Env → R (List D) := fun c => ga c >>= fun d => lift (asA b d)
def eItR (ga gb : Env → R D) : Env → R (List D) := fun c => ga c >>= fun d => lift (asI d) >>= fun lo => gb c >>= fun d2 => lift (asI d2) >>= fun hi => .ok (rangeD lo hi)
theorem wk_str {E : Wd} {Hs G : Hp} (l : List Nat) : Wk E (Its (S l)) Hs G (l.map fun x => .str [x]) := by
  refine ⟨fun j H s hj => ?_, fun j H x H' s y => ⟨y.1, fun d e => ?_⟩, fun j H s hj => ?_⟩
  · show j < l.toArray.size
    simpa using hj
  · obtain ⟨z, h1, h2⟩ := y.2
    have h1 : l.toArray[j]? = some z := h1
    rw [List.getElem?_map] at e
    have h1 : l[j]? = some z := by simpa using h1
    rw [h1] at e
    cases e
    rw [h2]
    exact .str [z]
  · show l.toArray.size ≤ j
    simpa using hj
theorem Rp.lstV {E : Wd} {G : Hp} {v : V} {ds : List D} (r : Rp E G v (.lst ds)) : ∃ a vs, v = .ref a ∧ SqL E.K G a vs ∧ RpL E G vs ds := by
  cases r with
  | lst h r => exact ⟨_, _, rfl, h, r⟩
theorem pi_mono {tg e : Expr} {t t' : TI} (h : PI X tg e t) (k : ∀ σ H R, t' σ H R → t σ H R) : PI X tg e t' := ⟨fun pins s σ H R I q => h.run pins s σ H R I (k σ H R q)⟩
def iAny (K : PySem.W.Frag) (te : TE) : TI := fun σ H R => iList K te σ H R ∨ iTup K te σ H R ∨ iStr te σ H R
theorem pi_any {te : TE} (h : PE X e te) : PI X tg e (iAny X.K te) := ⟨fun pins s σ H R I q => by
  rcases q with q | q | q
  · exact (pi_list h).run pins s σ H R I q
  · exact (pi_tup h).run pins s σ H R I q
  · exact (pi_str h).run pins s σ H R I q⟩
theorem src_any {ga : Env → R D} (h : PX X W b e ga) : PSrc X W b tg e (iAny X.K (TX ⟨X.K, X.mg, X.w⟩ W b ga)) (eIt b ga) :=
  ⟨pi_any h, fun {B G H c σ fp P R} A q k => by
    cases e0 : ga c with
    | stuck => unfold eIt at q; rw [e0] at q; exact q.elim
    | ex x => exact .inl (tx_seq A q fun d e => by rw [e0] at e; cases e)
    | ok d0 =>
      have eq : eIt b ga c = lift (asA b d0) := by unfold eIt; rw [e0]; rfl
      have step : ∀ ds, asA b d0 = some ds → eIt b ga c = .ok ds := fun ds h => by rw [eq, h]; rfl
      cases d0 with
      | lst ds =>
        refine .inl (tx_seq A q fun d e v G1 H1 s1 t1 A1 r1 q1 => ?_)
        rw [e0] at e
        cases e
        obtain ⟨es, e2, p⟩ := Res.lift q1
        have e3 := e2
        unfold asA at e2
        simp only at e2
        split at e2
        · rename_i hk
          cases e2
          obtain ⟨a, vs, rfl, h0, r2⟩ := r1.lstV
          have h1 := Same.sqL (same_vw b A1.fine.le) h0
          exact ⟨a, rfl, ⟨vs, h1⟩, k _ G1 H1 _ (step _ e3) s1 t1 A1 (wk_list h0 (r2.known A1.fine hk)) p⟩
        · cases e2
      | tup ds =>
        refine .inr (.inl (tx_seq A q fun d e v G1 H1 s1 t1 A1 r1 q1 => ?_))
        rw [e0] at e
        cases e
        obtain ⟨es, e2, p⟩ := Res.lift q1
        have e3 := e2
        unfold asA at e2
        simp only at e2
        split at e2
        · rename_i hk
          cases e2
          obtain ⟨a, vs, rfl, h1, r2⟩ := r1.tupH A1.fine.le
          have h0 : SqT X.K (vw b G1 H1) a vs := by
            cases b with
            | true => exact known_tup A1.fine h1
            | false => exact h1
          exact ⟨a, rfl, ⟨vs, h1⟩, k _ G1 H1 _ (step _ e3) s1 t1 A1 (wk_tup h0 (r2.known A1.fine hk)) p⟩
        · cases e2
      | str l =>
        refine .inr (.inr (tx_seq A q fun d e v G1 H1 s1 t1 A1 r1 q1 => ?_))
        rw [e0] at e
        cases e
        obtain ⟨es, e2, p⟩ := Res.lift q1
        have e3 := e2
        unfold asA at e2
        simp only at e2
        split at e2
        · cases e2
          exact ⟨S l, r1.strH, k _ G1 H1 _ (step _ e3) s1 t1 A1 (wk_str l) p⟩
        · cases e2
      | _ => rw [eq] at q; exact q.elim⟩
theorem src_r1 {a : Expr} {ga : Env → R D} {p2 p3 : Pos} (hm : X.mg "range" = none) (h : PX X W b a ga) (hg : Gl X "range" := by rfl) (hs0 : starEach [a] X.env = [(false, eval a X.env)] := by rfl) :
    PSrc X W b' tg (.Call (.Name "range" p2) [a] [] p3) (iRng1 (tCons (TX ⟨X.K, X.mg, X.w⟩ W b ga) tNil)) (eItR (eC (.int 0)) ga) :=
  ⟨pi_range1 hg hm (pa_cons h pa_nil hs0) hs0, fun {B G H c σ fp P R} A q k => by
    have q0 : Res ⟨X.K, X.mg, X.w⟩ W B c σ fp G H (ga c >>= fun d2 => lift (asI d2) >>= fun hi => .ok (rangeD 0 hi)) P := q
    refine tx_seq A q0 fun d e v G1 H1 s1 t1 A1 r1 q1 => ?_
    cases hd : asI d with
    | none => rw [hd] at q1; exact q1.elim
    | some hi =>
      rw [hd] at q1
      obtain ⟨rfl, h1, h2⟩ := asI_rp r1 hd
      have w : Wk ⟨X.K, X.mg, X.w⟩ (Itr 0 hi.toNat) (vw b' G1 H1) G1 (rangeD 0 hi) := by have z := wk_rng (E := ⟨X.K, X.mg, X.w⟩) (Hs := vw b' G1 H1) (G := G1) (lo := 0) (hi := hi); simpa using z
      exact ⟨hi, rfl, h1, h2, k _ G1 H1 _ (by show (ga c >>= fun d2 => lift (asI d2) >>= fun hi => VS.R.ok (rangeD 0 hi)) = _; rw [e]; show (lift (asI d) >>= _) = _; rw [hd]; rfl) s1 t1 A1 w q1⟩⟩
theorem src_r2 {a a2 : Expr} {ga gb : Env → R D} {p2 p3 : Pos} (hm : X.mg "range" = none) (h : PX X W b a ga) (h2 : PX X W b2 a2 gb) (hg : Gl X "range" := by rfl) (hs0 : starEach [a, a2] X.env = [(false, eval a X.env), (false, eval a2 X.env)] := by rfl) (hs1 : starEach [a2] X.env = [(false, eval a2 X.env)] := by rfl)
    (hs2 : starEach [a, a2] X.env = (false, eval a X.env) :: starEach [a2] X.env := by rfl) :
    PSrc X W b' tg (.Call (.Name "range" p2) [a, a2] [] p3) (iRng2 (tCons (TX ⟨X.K, X.mg, X.w⟩ W b ga) (tCons (TX ⟨X.K, X.mg, X.w⟩ W b2 gb) tNil))) (eItR ga gb) :=
  ⟨pi_range2 hg hm (pa_cons h (pa_cons h2 pa_nil hs1) hs2) hs0 hs1, fun {B G H c σ fp P R} A q k => by
    refine tx_seq A q fun d e v G1 H1 s1 t1 A1 r1 q1 => ?_
    cases hd : asI d with
    | none => rw [hd] at q1; exact q1.elim
    | some lo =>
      rw [hd] at q1
      obtain ⟨rfl, h1, h2⟩ := asI_rp r1 hd
      refine tx_seq A1 q1 fun d2 e2 v2 G2 H2 s2 t2 A2 r2 q2 => ?_
      cases hd2 : asI d2 with
      | none => rw [hd2] at q2; exact q2.elim
      | some hi =>
        rw [hd2] at q2
        obtain ⟨rfl, h3, h4⟩ := asI_rp r2 hd2
        exact ⟨lo, hi, rfl, ⟨h1, h2, h3, h4⟩, k _ G2 H2 _ (by unfold eItR; rw [e]; simp only [ok_bind, hd, lift_some, e2, hd2]) (s1.trans s2) (t1.trans t2) A2 wk_rng q2⟩⟩
theorem st_res {E : Wd} {B : Bs} {c : Env} {σ : L2.St} {fp : List Addr} {G H : Hp} {Dn : Ends} {α : Type} {r : R α} {f : α → Rs} (h : ResS E W B G H (r.st c f) Dn) : Res E W B c σ fp G H r (fun a => r = .ok a ∧ ∀ G1 H1, Same G G1 → ResS E W B G1 H1 (f a) Dn) := by
  cases r with
  | ok a => exact ⟨rfl, fun G1 H1 s => ResS.grow (r := f a) h s⟩
  | ex e => exact fun cl dx G' H' s t A x => h cl dx σ G' H' fp s A x
  | stuck => exact h
def sFor (i : Nat) (gs : Env → R (List D)) (g : Env → Rs) : Env → Rs := fun c => (gs c).st c fun ds => forL i g ds c
theorem pxs_for {x : Str} {p : Pos} {body : List Stmt} {wi : TI} {gs : Env → R (List D)} (i : Nat) (hp : PassesOwn (model X.prog X.w) X.A X.env X.xe) (hc : X.calm = true) (ha : PSrc X W true (.Name x p) e wi gs) (hb : PXSs X W pn body g) (nd : X.N.Nodup) (hN : X.N[i]? = some x := by rfl) (hl : Loc X.env.scope x := by first | exact Or.inl rfl | exact Or.inr rfl) (hi : i ∉ pn := by decide)
    (hf : X.fn x = true ∨ X.env.scope.names.lookup x = some .local := by first | exact .inl rfl | exact .inr rfl) (hs : ∀ y, foldedSetIterable e X.env y = pure y := by intro _; rfl) : PXS X W pn (.For (.Name x p) e body [] pos) (sFor i gs g) :=
  ps_mono (ps_for hp hc ha.pi (pg_name (i := i) nd hN hl) hb hs) fun Dn σ H ⟨B, G, c, fp, A, P, q⟩ => ha.run A (st_res q) fun ds G1 H1 J e s1 t1 A1 w ⟨_, q1⟩ => by
    refine ⟨fun j m σ H => m = ds.length - j ∧ j ≤ ds.length ∧ ∃ G' c' fp', Same G1 G' ∧ Abs ⟨X.K, X.mg, X.w⟩ B G' H c' σ fp' ∧ ResS ⟨X.K, X.mg, X.w⟩ W B G' H (forL i g (ds.drop j) c') Dn, ⟨ds.length, by simp, Nat.zero_le _, G1, c, fp, Same.refl _, A1, q1 G1 H1 s1⟩, ?_⟩
    rintro j m σ' H' ⟨rfl, hj, G', c', fp', s', A', q'⟩
    by_cases hlt : j < ds.length
    · refine .inr ⟨w.go j H' (s'.trans A'.fine.le) hlt, fun σ2 H2 => ∃ G2 c2 fp2, Same G1 G2 ∧ Abs ⟨X.K, X.mg, X.w⟩ B G2 H2 c2 σ2 fp2 ∧ ResS ⟨X.K, X.mg, X.w⟩ W B G2 H2 (forL i g (ds.drop (j + 1)) c2) Dn, fun σ2 H2 h2 => ⟨_, by omega, rfl, hlt, h2⟩, fun x H3 y => ?_⟩
      obtain ⟨rfl, hr⟩ := w.yl j H' x H3 (s'.trans A'.fine.le) y
      have hd := List.getElem?_eq_getElem hlt
      rw [drop_cons hd] at q'
      exact for_turn A' P hi ((hr _ hd).mono s') q' fun σ2 G2 H2 c2 fp2 s2 A2 q2 => ⟨G2, c2, fp2, s'.trans s2, A2, q2⟩
    · have e : j = ds.length := by omega
      subst e
      rw [List.drop_length] at q'
      exact .inl ⟨w.st _ H' (s'.trans A'.fine.le) (Nat.le_refl _), q' σ' G' H' fp' (Same.refl _) A'⟩

/-! ### list comprehensions -/
def noX {α : Type} : R α → R α
  | .ok a => .ok a
  | _ => .stuck
@[simp] theorem noX_ok {α : Type} (a : α) : noX (.ok a) = R.ok a := rfl
@[simp] theorem noX_stuck {α : Type} : noX (.stuck : R α) = .stuck := rfl
@[simp] theorem noX_ex {α : Type} (e : D) : noX (.ex e : R α) = .stuck := rfl
def compL (t : Env → R Bool) (g : Env → R D) (i : Nat) (c : Env) : List D → R (List D)
  | [] => .ok []
  | d :: ds => noX (t (c.set i (some (.v d)))) >>= fun b => if b then noX (g (c.set i (some (.v d)))) >>= fun x => compL t g i c ds >>= fun xs => .ok (x :: xs) else compL t g i c ds
def eLcs (gs : Env → R (List D)) (t : Env → R Bool) (g : Env → R D) (i : Nat) : Env → R (List D) := fun c => gs c >>= fun ds => compL t g i c ds >>= fun es => if es.length ≤ 16777216 then .ok es else .stuck
def eLc (gs : Env → R (List D)) (t : Env → R Bool) (g : Env → R D) (i : Nat) : Env → R D := fun c => eLcs gs t g i c >>= fun es => .ok (.lst es)
def eLcO (gs : Env → R (List D)) (t : Env → R Bool) (g : Env → R D) (i : Nat) : Env → R O := fun c => eLcs gs t g i c >>= fun es => .ok (.lst (es.map O.v))
def tYes' : Env → R Bool := fun _ => .ok true
abbrev W0 : WX := fun _ _ _ _ => False
/-- a block's tests -/
def PXTs (X : Cx) (ifs : List Expr) (t : Env → R Bool) : Prop := PTs X ifs (TXT ⟨X.K, X.mg, X.w⟩ W0 t)
theorem pts_mono {X : Cx} {ifs : List Expr} {t t' : TT} (h : PTs X ifs t) (k : ∀ σ H Q, t' σ H Q → t σ H Q) : PTs X ifs t' := ⟨fun pins s σ H Q I q => h.run pins s σ H Q I (k σ H Q q)⟩
theorem pxts_nil {X : Cx} : PXTs X [] tYes' := pts_mono pts_nil fun σ H Q ⟨B, G, c, fp, A, q⟩ => q G H (Same.refl _) (Same.refl _) A
theorem pxts_one {X : Cx} {c : Expr} {t : Env → R Bool} (h : PXT X W0 c t) : PXTs X [c] t := pts_one h
end
section
variable {E : Wd} {B : Bs} {c : Env} {σ : L2.St} {fp : List Addr} {G G' H H' : Hp}
/-- a block begins -/
theorem Abs.enter {i : Nat} {v : V} {d : D} (A : Abs E B G H c σ fp) (rv : Rp E G v d) : ∃ B' fr, Abs E B' G H (c.set i (some (.v d))) (σ.set i (some v)) fr ∧
    ∀ G' H' c2 σ2 fp2, Same G G' → Same H H' → Abs E B' G' H' c2 σ2 fp2 → Abs E B G' H' c σ fp ∧ ∀ a, H a ≠ none → G a = none → G' a = none := by
  obtain ⟨fr, h1, h2, h3⟩ := A.cells.set i (Own.v rv) A.nd List.nodup_nil fun p hp => nomatch hp
  have sub : ∀ p ∈ fr, p ∈ fp := fun p hp => (h3 p hp).elim id fun z => nomatch z
  refine ⟨⟨H, G, [], fun a => a ∈ fr⟩, fr, ⟨⟨fun a o e _ => e, fun a e => e, fun a _ e => e, A.fine.le, A.fine.tup⟩, h1, h2, fun p hp => ⟨(A.fresh p (sub p hp)).1, .inr hp⟩, fun q hq => nomatch hq⟩, fun G' H' c2 σ2 fp2 s t A2 => ?_⟩
  have gr : ∀ a, H a ≠ none → G a = none → G' a = none := A2.fine.x
  refine ⟨⟨⟨fun a o e n => t a o (A.fine.base a o e n), fun a e => A.fine.there a (t.free e), fun a h1 h2 => ?_, A2.fine.le, A2.fine.tup⟩, A.cells.keep s (fun p _ u e => t p u e), A.nd, fun p hp => ⟨gr p (A.cells.there p hp) (A.fresh p hp).1, (A.fresh p hp).2⟩, A.pin⟩, gr⟩
  exact gr a (fun z => h1 (A.fine.there a z)) (A.fine.x a h1 h2)
/-- a new list that no name owns is written -/
theorem Abs.pokeOut {p : Addr} {u : HO} (A : Abs E B G H c σ fp) (hf : p ∉ fp) (hG : G p = none) (h0 : B.H0 p = none) (hu : isT u = false) : Abs E B G (upd H p u) c σ fp := by
  refine ⟨⟨fun a o e n => ?_, fun a e => ?_, A.fine.x, fun a o e => ?_, fun a o e k => ?_⟩, A.cells.keep (Same.refl _) fun q hq w e => ?_, A.nd, A.fresh, A.pin⟩
  · have ha : a ≠ p := fun z => by subst z; rw [h0] at e; cases e
    rw [upd_ne ha]; exact A.fine.base a o e n
  · by_cases ha : a = p
    · rw [ha]; exact h0
    · rw [upd_ne ha] at e; exact A.fine.there a e
  · have ha : a ≠ p := fun z => by subst z; rw [hG] at e; cases e
    rw [upd_ne ha]; exact A.fine.le a o e
  · by_cases ha : a = p
    · subst ha; rw [upd_same] at e; cases e; rw [hu] at k; cases k
    · rw [upd_ne ha] at e; exact A.fine.tup a o e k
  · have hq' : q ≠ p := fun z => hf (z ▸ hq)
    rw [upd_ne hq']; exact e
/-- it is known from now on -/
theorem Abs.know {p : Addr} {u : HO} (A : Abs E B G H c σ fp) (hf : p ∉ fp) (hG : G p = none) (h0 : B.H0 p = none) (hH : H p = some u) : Abs E B (upd G p u) H c σ fp := by
  refine ⟨⟨A.fine.base, A.fine.there, fun a h1 h2 => ?_, fun a o e => ?_, fun a o e k => ?_⟩, A.cells.keep (same_upd hG) (fun q hq w e => e), A.nd, fun q hq => ⟨?_, (A.fresh q hq).2⟩, A.pin⟩
  · have ha : a ≠ p := fun z => h1 (by rw [z]; exact h0)
    rw [upd_ne ha]; exact A.fine.x a h1 h2
  · by_cases ha : a = p
    · subst ha; rw [upd_same] at e; cases e; exact hH
    · rw [upd_ne ha] at e; exact A.fine.le a o e
  · by_cases ha : a = p
    · subst ha; rw [hH] at e; cases e; exact upd_same
    · rw [upd_ne ha]; exact A.fine.tup a o e k
  · have ha : q ≠ p := fun z => hf (z ▸ hq)
    rw [upd_ne ha]; exact (A.fresh q hq).1
end
/-- what stands between two turns of a comprehension -/
structure LcAt (E : Wd) (B : Bs) (c : Env) (σ : L2.St) (fp : List Addr) (G1 : Hp) (p : Addr) (es : List D) (H : Hp) : Prop where
  ex : ∃ G' vs, Same G1 G' ∧ Abs E B G' H c σ fp ∧ H p = some (.lst vs) ∧ G' p = none ∧ RpL E G' vs es
theorem wipe1 (σ : L2.St) (i : Nat) : wipe σ [i] = σ.set i none := rfl
theorem noX_eq {α : Type} {r : R α} {a : α} (h : noX r = .ok a) : r = .ok a := by
  cases r with
  | ok b => exact h
  | ex e => cases h
  | stuck => cases h
theorem bind_ok_eq {α β : Type} {r : R α} {f : α → R β} {b : β} (h : (r >>= f) = .ok b) : ∃ a, r = .ok a ∧ f a = .ok b := by
  cases r with
  | ok a => exact ⟨a, rfl, h⟩
  | ex e => cases h
  | stuck => cases h
section
variable {X : Cx} {W : WX} {pn : List Nat} {e elt : Expr} {ifs : List Expr} {pos : Pos} {wi : TI} {gs : Env → R (List D)} {t : Env → R Bool} {g : Env → R D} {i : Nat}
theorem tlc_of (K : PySem.W.Frag) (mg : Str → Option Value) (hX : X.K = K) (hmg : X.mg = mg) {tg : Expr} {b : Bool} (ha : PSrc X W b tg e wi gs) {B : Bs} {G H : Hp} {c : Env} {σ : L2.St} {fp : List Addr} {Q : VK} {P : List D → Prop} (A : Abs ⟨X.K, X.mg, X.w⟩ B G H c σ fp) (q : Res ⟨X.K, X.mg, X.w⟩ W B c σ fp G H (eLcs gs t g i c) P)
    (k : ∀ es G1 H1 p, Same G G1 → Same H H1 → H p = none → p ∉ fp → B.H0 p = none → LcAt ⟨X.K, X.mg, X.w⟩ B c σ fp G1 p es H1 → P es → Q (.ref p) H1) : tLc wi (gName i) (TXT ⟨X.K, X.mg, X.w⟩ W0 t) (TX ⟨X.K, X.mg, X.w⟩ W0 true g) [i] σ H Q := by
  refine ha.run (P := fun ds => Res ⟨X.K, X.mg, X.w⟩ W B c σ fp G H (compL t g i c ds >>= fun es => if es.length ≤ 16777216 then R.ok es else .stuck) P) A ?_ fun ds G1 H1 J eds s1 t1 A1 w q1 => ?_
  · unfold eLcs at q
    cases h : gs c with
    | ok ds => rw [h] at q; exact q
    | ex x => rw [h] at q; exact q
    | stuck => rw [h] at q; exact q
  · intro p hp
    cases hes : compL t g i c ds with
    | stuck => rw [hes] at q1; exact q1.elim
    | ex x =>
      exfalso
      have : ∀ ds x, compL t g i c ds ≠ .ex x := by
        intro ds
        induction ds with
        | nil => intro x z; cases z
        | cons d ds ih =>
          intro x z
          rw [compL] at z
          cases ht : t (c.set i (some (.v d))) with
          | ok b =>
            rw [ht] at z
            simp only [noX_ok, ok_bind] at z
            split at z
            · cases hg : g (c.set i (some (.v d))) with
              | ok y =>
                rw [hg] at z
                simp only [noX_ok, ok_bind] at z
                cases hc : compL t g i c ds with
                | ok ys => rw [hc] at z; cases z
                | ex y => exact ih y hc
                | stuck => rw [hc] at z; cases z
              | ex y => rw [hg] at z; cases z
              | stuck => rw [hg] at z; cases z
            · exact ih x z
          | ex y => rw [ht] at z; cases z
          | stuck => rw [ht] at z; cases z
      exact this ds x hes
    | ok tot =>
      rw [hes] at q1
      by_cases hl : tot.length ≤ 16777216
      · have q2 : Res ⟨X.K, X.mg, X.w⟩ W B c σ fp G H (if tot.length ≤ 16777216 then R.ok tot else .stuck) P := q1
        rw [if_pos hl] at q2
        have pf : p ∉ fp := fun z => A1.cells.there p z hp
        have p0 : B.H0 p = none := A1.fine.there p hp
        refine ⟨fun j m H => m = ds.length - j ∧ j ≤ ds.length ∧ Same H1 (fun a => if a = p then H1 a else H a) ∧ ∃ es rest, LcAt ⟨X.K, X.mg, X.w⟩ B c σ fp G1 p es H ∧ compL t g i c (ds.drop j) = .ok rest ∧ es ++ rest = tot,
          ⟨ds.length, by simp, Nat.zero_le _, fun a o e => ?_, [], tot, ⟨G1, [], Same.refl _, A1.newO hp rfl, upd_same, A1.fine.fresh hp, .nil⟩, hes, rfl⟩, ?_⟩
        · have hne : a ≠ p := ne_of_none e hp
          show (if a = p then H1 a else upd H1 p (.lst []) a) = some o
          rw [if_neg hne, upd_ne hne]; exact e
        · rintro j m H2 ⟨rfl, hj, sm, es, rest, ⟨G2, vs, s2, A2, hD, gD, r2⟩, hc, htot⟩
          have ws : Same (vw b G1 H1) H2 := by
            cases b with
            | true => exact s2.trans A2.fine.le
            | false =>
              intro a o e
              have e : H1 a = some o := e
              have z := sm a o e
              have z : (if a = p then H1 a else H2 a) = some o := z
              rw [if_neg (ne_of_none e hp)] at z
              exact z
          by_cases hlt : j < ds.length
          · refine .inr ⟨w.go j H2 ws hlt, fun H' => j + 1 ≤ ds.length ∧ Same H1 (fun a => if a = p then H1 a else H' a) ∧ ∃ es rest, LcAt ⟨X.K, X.mg, X.w⟩ B c σ fp G1 p es H' ∧ compL t g i c (ds.drop (j + 1)) = .ok rest ∧ es ++ rest = tot, fun H' ⟨h1, h2, h3⟩ => ⟨_, by omega, rfl, h1, h2, h3⟩, fun x H3 y => ?_⟩
            obtain ⟨rfl, hr⟩ := w.yl j H2 x H3 ws y
            have hd := List.getElem?_eq_getElem hlt
            rw [drop_cons hd, compL] at hc
            obtain ⟨tb, ht, hc⟩ := bind_ok_eq hc
            have ht := noX_eq ht
            have hsig : (wipe σ [i]).set i (some x) = σ.set i (some x) := by rw [wipe1, List.set_set]
            show (fun σ2 H2 => wipe σ2 [i] = wipe σ [i] ∧ _) ((wipe σ [i]).set i (some x)) H3
            rw [hsig]
            refine ⟨by rw [wipe1, wipe1, List.set_set], ?_⟩
            obtain ⟨B', fr, A3, back⟩ := A2.enter (i := i) ((hr _ hd).mono s2)
            refine ⟨B', G2, _, fr, A3, ?_⟩
            rw [ht]
            intro G4 H4 s4 t4 A4
            have smn : ∀ {Hx Hy : Hp}, Same H1 (fun a => if a = p then H1 a else Hx a) → Same Hx Hy → Same H1 (fun a => if a = p then H1 a else Hy a) := fun {Hx Hy} h1 h2 a o e => by
              have z := h1 a o e
              by_cases hap : a = p
              · show (if a = p then H1 a else Hy a) = some o
                rw [if_pos hap]; exact e
              · have z : (if a = p then H1 a else Hx a) = some o := z
                rw [if_neg hap] at z
                show (if a = p then H1 a else Hy a) = some o
                rw [if_neg hap]; exact h2 a o z
            cases tb with
            | false =>
              rw [if_neg (by decide)]
              have hc : compL t g i c (ds.drop (j + 1)) = .ok rest := hc
              obtain ⟨A5, gr⟩ := back G4 H4 _ _ _ s4 t4 A4
              exact ⟨hlt, smn sm t4, es, rest, ⟨G4, vs, s2.trans s4, A5, t4 p _ hD, gr p (by rw [hD]; exact fun z => nomatch z) gD, r2.mono s4⟩, hc, htot⟩
            | true =>
              rw [if_pos rfl]
              have hc : (noX (g (c.set i (some (.v ds[j])))) >>= fun x => compL t g i c (ds.drop (j + 1)) >>= fun xs => R.ok (x :: xs)) = .ok rest := hc
              obtain ⟨x1, hg, hc⟩ := bind_ok_eq hc
              have hg := noX_eq hg
              obtain ⟨xs, hxs, hc⟩ := bind_ok_eq hc
              cases hc
              refine ⟨B', G4, _, fr, A4, ?_⟩
              rw [hg]
              intro v5 G5 H5 s5 t5 A5 r5
              obtain ⟨A6, gr⟩ := back G5 H5 _ _ _ (s4.trans s5) (t4.trans t5) A5
              have hD5 : H5 p = some (.lst vs) := t5 p _ (t4 p _ hD)
              have g5 : G5 p = none := gr p (by rw [hD]; exact fun z => nomatch z) gD
              have hvl : vs.length = es.length := r2.length
              have hle : es.length < tot.length := by rw [← htot]; simp
              refine ⟨vs, hD5, by rw [hvl, sizeLine_eq]; omega, hlt, fun a o e => ?_, es ++ [x1], xs, ⟨G5, vs ++ [v5], s2.trans (s4.trans s5), A6.pokeOut pf g5 p0 rfl, upd_same, g5, (r2.mono (s4.trans s5)).append (.cons r5 .nil)⟩, hxs, by rw [← htot]; simp⟩
              have z := smn (smn sm t4) t5 a o e
              by_cases hap : a = p
              · show (if a = p then H1 a else _) = some o
                rw [if_pos hap]; exact e
              · have z : (if a = p then H1 a else H5 a) = some o := z
                rw [if_neg hap] at z
                show (if a = p then H1 a else upd H5 p _ a) = some o
                rw [if_neg hap, upd_ne hap]; exact z
          · have ej : j = ds.length := by omega
            subst ej
            rw [List.drop_length] at hc
            cases hc
            rw [List.append_nil] at htot
            subst htot
            have smH : Same H H2 := fun a o e => by
              have e1 := t1 a o e
              have z := sm a o e1
              have z : (if a = p then H1 a else H2 a) = some o := z
              rw [if_neg (ne_of_none e1 hp)] at z
              exact z
            exact .inl ⟨w.st _ H2 ws (Nat.le_refl _), k es G1 H2 p s1 smH (t1.free hp) pf p0 ⟨G2, vs, s2, A2, hD, gD, r2⟩ q2⟩
      · have q2 : Res ⟨X.K, X.mg, X.w⟩ W B c σ fp G H (if tot.length ≤ 16777216 then R.ok tot else .stuck) P := q1
        rw [if_neg hl] at q2
        exact q2.elim

theorem lc_fin {B : Bs} {c : Env} {σ : L2.St} {fp : List Addr} {G G1 H H1 : Hp} {Q : VK} {p : Addr} {es : List D} (s : Same G G1) (t : Same H H1) (pf : p ∉ fp) (p0 : B.H0 p = none) (l : LcAt ⟨X.K, X.mg, X.w⟩ B c σ fp G1 p es H1) (q : Post ⟨X.K, X.mg, X.w⟩ B c σ fp G H true Q (.lst es)) : Q (.ref p) H1 := by
  obtain ⟨G2, vs, s2, A2, hD, gD, r2⟩ := l
  have A3 := A2.know pf gD p0 hD
  exact q _ _ _ (s.trans (s2.trans (same_upd gD))) t A3 (.lst (.inl (.inl upd_same)) (r2.mono (same_upd gD)))
theorem lc_finO {B : Bs} {c : Env} {σ : L2.St} {fp : List Addr} {G G1 H H1 : Hp} {Q : VK} {p : Addr} {es : List D} (s : Same G G1) (t : Same H H1) (hp : H p = none) (l : LcAt ⟨X.K, X.mg, X.w⟩ B c σ fp G1 p es H1) (q : PostF ⟨X.K, X.mg, X.w⟩ B c σ fp G H Q (.lst (es.map O.v))) : Q (.ref p) H1 := by
  obtain ⟨G2, vs, s2, A2, hD, gD, r2⟩ := l
  refine q _ _ _ [p] (s.trans s2) t A2 (.lst hD (ownL_v r2)) (by simp) fun a ha => ?_
  have : a = p := by simpa using ha
  subst this
  exact ⟨hp, gD⟩
theorem tlc_v {tg : Expr} {b : Bool} (ha : PSrc X W b tg e wi gs) : ∀ σ H Q, TX ⟨X.K, X.mg, X.w⟩ W true (eLc gs t g i) σ H Q → tLc wi (gName i) (TXT ⟨X.K, X.mg, X.w⟩ W0 t) (TX ⟨X.K, X.mg, X.w⟩ W0 true g) [i] σ H Q := fun σ H Q ⟨B, G, c, fp, A, q⟩ => by
  refine tlc_of X.K X.mg rfl rfl ha A (P := fun es => Post ⟨X.K, X.mg, X.w⟩ B c σ fp G H true Q (.lst es)) ?_ fun es G1 H1 p s1 t1 hp pf p0 l q1 => lc_fin s1 t1 pf p0 l q1
  unfold eLc at q
  cases h : eLcs gs t g i c with
  | ok es => rw [h] at q; exact q
  | ex x => rw [h] at q; exact q
  | stuck => rw [h] at q; exact q
theorem tlc_o {tg : Expr} {b : Bool} (ha : PSrc X W b tg e wi gs) : ∀ σ H Q, TF ⟨X.K, X.mg, X.w⟩ W (eLcO gs t g i) σ H Q → tLc wi (gName i) (TXT ⟨X.K, X.mg, X.w⟩ W0 t) (TX ⟨X.K, X.mg, X.w⟩ W0 true g) [i] σ H Q := fun σ H Q ⟨B, G, c, fp, A, q⟩ => by
  refine tlc_of X.K X.mg rfl rfl ha A (P := fun es => PostF ⟨X.K, X.mg, X.w⟩ B c σ fp G H Q (.lst (es.map O.v))) ?_ fun es G1 H1 p s1 t1 hp pf p0 l q1 => lc_finO s1 t1 hp l q1
  unfold eLcO at q
  cases h : eLcs gs t g i c with
  | ok es => rw [h] at q; exact q
  | ex x => rw [h] at q; exact q
  | stuck => rw [h] at q; exact q
section
variable {x y : Str} {p py : Pos} {scope : Scope} {spos : Pos}
theorem px_lc (i : Nat) (hc : X.calm = true) (hN : X.N.Nodup) {b : Bool} (ha : PSrc X W b (.Name x p) e wi gs) (ok : BlkOk X.N X.env.scope scope [(x, i)])
    (hg : ∀ (s : Shared) (H : Hp) (C : Addr) (cl : List (Str × Addr)) (fp : List Addr), PG (X.blk s H scope (compEnvC scope cl C X.env) fp) (.Name x p) (gName i)) (ht : ∀ (s : Shared) (H : Hp) (C : Addr) (cl : List (Str × Addr)) (fp : List Addr), PXTs (X.blk s H scope (compEnvC scope cl C X.env) fp) ifs t)
    (he : ∀ (s : Shared) (H : Hp) (C : Addr) (cl : List (Str × Addr)) (fp : List Addr), PX (X.blk s H scope (compEnvC scope cl C X.env) fp) W0 true elt g) (hs : ∀ z, foldedSetIterable e X.env z = pure z := by intro _; rfl) :
    PX X W true (.ListComp elt [⟨.Name x p, e, ifs, 0⟩] scope pos) (eLc gs t g i) := pe_mono (pe_lc (own := [(x, i)]) (tt := TXT ⟨X.K, X.mg, X.w⟩ W0 t) (te := TX ⟨X.K, X.mg, X.w⟩ W0 true g) hc hN ha.pi ok hg ht he hs) (tlc_v ha)
theorem pf_lc (i : Nat) (hc : X.calm = true) (hN : X.N.Nodup) {b : Bool} (ha : PSrc X W b (.Name x p) e wi gs) (ok : BlkOk X.N X.env.scope scope [(x, i)])
    (hg : ∀ (s : Shared) (H : Hp) (C : Addr) (cl : List (Str × Addr)) (fp : List Addr), PG (X.blk s H scope (compEnvC scope cl C X.env) fp) (.Name x p) (gName i)) (ht : ∀ (s : Shared) (H : Hp) (C : Addr) (cl : List (Str × Addr)) (fp : List Addr), PXTs (X.blk s H scope (compEnvC scope cl C X.env) fp) ifs t)
    (he : ∀ (s : Shared) (H : Hp) (C : Addr) (cl : List (Str × Addr)) (fp : List Addr), PX (X.blk s H scope (compEnvC scope cl C X.env) fp) W0 true elt g) (hs : ∀ z, foldedSetIterable e X.env z = pure z := by intro _; rfl) :
    PF X W (.ListComp elt [⟨.Name x p, e, ifs, 0⟩] scope pos) (eLcO gs t g i) := pe_mono (pe_lc (own := [(x, i)]) (tt := TXT ⟨X.K, X.mg, X.w⟩ W0 t) (te := TX ⟨X.K, X.mg, X.w⟩ W0 true g) hc hN ha.pi ok hg ht he hs) (tlc_o ha)
/-- y = [..] -/
theorem pxs_setLc (k i : Nat) (hc : X.calm = true) (hN : X.N.Nodup) (hsw : swapsWith (.ListComp elt [⟨.Name x p, e, ifs, 0⟩] scope pos) (some (.Name y py)) spos.line X.env = pure true) {b : Bool} (ha : PSrc X W b (.Name x p) e wi gs) (ok : BlkOk X.N X.env.scope scope [(x, i)])
    (hg : ∀ (s : Shared) (H : Hp) (C : Addr) (cl : List (Str × Addr)) (fp : List Addr), PG (X.blk s H scope (compEnvC scope cl C X.env) fp) (.Name x p) (gName i)) (ht : ∀ (s : Shared) (H : Hp) (C : Addr) (cl : List (Str × Addr)) (fp : List Addr), PXTs (X.blk s H scope (compEnvC scope cl C X.env) fp) ifs t)
    (he : ∀ (s : Shared) (H : Hp) (C : Addr) (cl : List (Str × Addr)) (fp : List Addr), PX (X.blk s H scope (compEnvC scope cl C X.env) fp) W0 true elt g) (hy : X.N[k]? = some y := by rfl) (hyl : X.env.scope.names.lookup y = some .local := by rfl) (hi : k ∉ pn := by decide) (hs : ∀ z, foldedSetIterable e X.env z = pure z := by intro _; rfl) :
    PXS X W pn (.Assign [.Name y py] (.ListComp elt [⟨.Name x p, e, ifs, 0⟩] scope pos) spos) (sSet k (eLc gs t g i)) :=
  ps_mono (ps_setLc (own := [(x, i)]) (tt := TXT ⟨X.K, X.mg, X.w⟩ W0 t) (te := TX ⟨X.K, X.mg, X.w⟩ W0 true g) hc hN hy hyl hsw ha.pi ok hg ht he hs) fun Dn σ H ⟨B, G, c, fp, A, P, q⟩ => tlc_v ha σ H _ (tx_st A q fun d e v G1 H1 s1 t1 A1 r1 q1 => by
    obtain ⟨fr, A2⟩ := A1.setV (i := k) r1 (P.ne hi)
    exact q1 _ G1 H1 fr (Same.refl _) A2)
theorem pxs_setLcO (k i : Nat) (hc : X.calm = true) (hN : X.N.Nodup) (hsw : swapsWith (.ListComp elt [⟨.Name x p, e, ifs, 0⟩] scope pos) (some (.Name y py)) spos.line X.env = pure true) {b : Bool} (ha : PSrc X W b (.Name x p) e wi gs) (ok : BlkOk X.N X.env.scope scope [(x, i)])
    (hg : ∀ (s : Shared) (H : Hp) (C : Addr) (cl : List (Str × Addr)) (fp : List Addr), PG (X.blk s H scope (compEnvC scope cl C X.env) fp) (.Name x p) (gName i)) (ht : ∀ (s : Shared) (H : Hp) (C : Addr) (cl : List (Str × Addr)) (fp : List Addr), PXTs (X.blk s H scope (compEnvC scope cl C X.env) fp) ifs t)
    (he : ∀ (s : Shared) (H : Hp) (C : Addr) (cl : List (Str × Addr)) (fp : List Addr), PX (X.blk s H scope (compEnvC scope cl C X.env) fp) W0 true elt g) (hy : X.N[k]? = some y := by rfl) (hyl : X.env.scope.names.lookup y = some .local := by rfl) (hi : k ∉ pn := by decide) (hs : ∀ z, foldedSetIterable e X.env z = pure z := by intro _; rfl) :
    PXS X W pn (.Assign [.Name y py] (.ListComp elt [⟨.Name x p, e, ifs, 0⟩] scope pos) spos) (sSetO k (eLcO gs t g i)) :=
  ps_mono (ps_setLc (own := [(x, i)]) (tt := TXT ⟨X.K, X.mg, X.w⟩ W0 t) (te := TX ⟨X.K, X.mg, X.w⟩ W0 true g) hc hN hy hyl hsw ha.pi ok hg ht he hs) fun Dn σ H ⟨B, G, c, fp, A, P, q⟩ => tlc_o ha σ H _ (tf_st A q fun o e v G1 H1 fq s1 t1 A1 w n d q1 => by
    obtain ⟨fr, A2⟩ := set_fresh A1 (A.cells.there) A.fine.there w n d P hi
    exact q1 _ G1 H1 fr (Same.refl _) A2)
end
end
end VS

/-! VS: defs, calls, the law's end. -/
namespace VS
open PySem PySem.Spec PyProof.Rows L2

/-- a def's run: n names -/
def runF (n : Nat) (body : Env → Rs) (ds : List D) : R D :=
  match body (ds.map (fun d => some (O.v d)) ++ List.replicate (n - ds.length) none) with
  | .ok (.rt d) _ => .ok d
  | .ok .nx _ => .ok .non
  | .ex e _ => .ex e
  | _ => .stuck
def spM (E : Wd) (n : Nat) (m : List D → R D) : Sp := fun vs H Q Ex => ∃ G ds, vs.length = n ∧ Same G H ∧ (∀ a u, H a = some u → isT u = true → G a = some u) ∧ RpL E G vs ds ∧
  match m ds with
  | .ok d => ∀ v G' H', Same G G' → Same G' H' → Same H H' → (∀ a, H a ≠ none → G a = none → G' a = none) → (∀ a u, H' a = some u → isT u = true → G' a = some u) → Rp E G' v d → Q v H'
  | _ => False
abbrev FnM (P : Program) (w : World) (K : PySem.W.Frag) (mg : Str → Option Value) (base : Heap) (k : Nat) (f : Addr) (fd : FuncData) (ps : List Str) (m : List D → R D) : Prop := FnOk P w K mg base CX0 k f fd ps (spM ⟨K, mg, w⟩ ps.length m)
section
variable {E : Wd} {B : Bs} {G G' H H' : Hp} {c : Env} {σ : L2.St} {fp : List Addr}
theorem cells_none : ∀ (k : Nat), Cells E G H (List.replicate k none) (List.replicate k none) []
  | 0 => .nil
  | k + 1 => by
    rw [List.replicate_succ, List.replicate_succ]
    exact .no (cells_none k)
theorem cells_start (k : Nat) : ∀ {vs : List V} {ds : List D}, RpL E G vs ds → Cells E G H (ds.map (fun d => some (O.v d)) ++ List.replicate k none) (vs.map some ++ List.replicate k none) []
  | _, [], r => by cases r; exact cells_none k
  | _, d :: ds, r => by
    cases r with
    | cons h r => exact Cells.yes (fp := []) (fq := []) (.v h) (cells_start k r)
/-- behind a call: all that was known or owned stays -/
theorem Abs.call (A : Abs E B G H c σ fp) (s : Same G G') (t : Same H H') (l : Same G' H') (gr : ∀ a, H a ≠ none → G a = none → G' a = none) (tp : ∀ a u, H' a = some u → isT u = true → G' a = some u) : Abs E B G' H' c σ fp :=
  ⟨⟨fun a o e n => t a o (A.fine.base a o e n), fun a e => A.fine.there a (t.free e), fun a h1 h2 => gr a (fun z => h1 (A.fine.there a z)) (A.fine.x a h1 h2), l, tp⟩, A.cells.keep s (fun p _ u e => t p u e), A.nd,
    fun p hp => ⟨gr p (A.cells.there p hp) (A.fresh p hp).1, (A.fresh p hp).2⟩, A.pin⟩
end
section
variable {P : Program} {w : World} {K : PySem.W.Frag} {mg : Str → Option Value} {base : Heap}
/-- a def whose body is worth body -/
theorem fnm_of {x qual : Str} {st : Stmt} {f : Addr} {fd : FuncData} {N ps : List Str} {k : Nat} {body : Env → Rs} (F : Fun K x qual st f fd) (S : FnScope N ps (defScope st))
    (hbody : ∀ (cdv : Value) (A : Around) (outer : List PySem.Env) (s : Shared) (H : Hp) (E : XK), Room k (A.deeper (envOfC qual (defScope st) s.heap.objs.size f cdv)) → PXSs (cxOf CX0 P w K mg base N qual (defScope st) f cdv A outer s H E).nox W0 [] (defBody st) body) :
    FnM P w K mg base (k + 1) f fd ps (runF N.length body) := by
  refine F.ok S (fun vs H Q E h => ?_) (fun cdv A outer s H vs Q E hr h => ?_)
  · obtain ⟨_, _, h, _⟩ := h
    exact h
  · obtain ⟨G, ds, hl, sG, tp, r, q⟩ := h
    refine ⟨_, hbody cdv A outer s H E hr, ?_⟩
    have hvl : vs.length = ds.length := r.length
    refine ⟨⟨H, G, [], fun _ => False⟩, G, ds.map (fun d => some (O.v d)) ++ List.replicate (N.length - ds.length) none, [], ⟨⟨fun a o e _ => e, fun a e => e, fun a _ e => e, sG, tp⟩, ?_, List.nodup_nil, (fun p hp => nomatch hp), (fun q hq => nomatch hq)⟩, ⟨(fun q hq => nomatch hq), fun _ a z => z⟩, ?_⟩
    · unfold L2.start
      rw [hvl]
      exact cells_start _ r
    · unfold runF at q
      cases e : body (ds.map (fun d => some (O.v d)) ++ List.replicate (N.length - ds.length) none) with
      | ok fl c' =>
        rw [e] at q
        cases fl with
        | nx => exact fun σ' G' H' fp' s' A' => q .non G' H' s' A'.fine.le (fun a o e => A'.fine.base a o e fun z => z) A'.fine.x A'.fine.tup .non
        | bk => exact q.elim
        | ct => exact q.elim
        | rt d => exact fun v σ' G' H' fp' s' A' r' => q v G' H' s' A'.fine.le (fun a o e => A'.fine.base a o e fun z => z) A'.fine.x A'.fine.tup r'
      | ex x c' => rw [e] at q; exact q.elim
      | stuck => rw [e] at q; exact q.elim
/-- no word -/
theorem fnm_stuck {x qual : Str} {st : Stmt} {f : Addr} {fd : FuncData} {ps : List Str} {k : Nat} : FnM P w K mg base k f fd ps (fun _ => .stuck) :=
  ⟨fun vs H Q E h => h.choose_spec.choose_spec.1, fun A outer s H args us vs Q E hr e0 hb r h => by
    obtain ⟨G, ds, _, _, _, _, q⟩ := h
    exact q.elim⟩
theorem FnM.eq {f : Addr} {fd : FuncData} {ps : List Str} {k : Nat} {m m' : List D → R D} (F : FnM P w K mg base k f fd ps m) (h : m = m') : FnM P w K mg base k f fd ps m' := h ▸ F
end
section
variable {X : Cx} {W : WX} {k : Nat} {f : Addr} {fd : FuncData} {ps : List Str} {x : Str} {p pos : Pos} {e : Expr} {es : List Expr} {gs : Env → R (List D)} {m : List D → R D}
def eCall (m : List D → R D) (gs : Env → R (List D)) : Env → R D := fun c => gs c >>= fun ds => noX (m ds)
theorem call_true {B : Bs} {G H : Hp} {c : Env} {σ : L2.St} {fp : List Addr} {vs : List V} {ds : List D} {Q : VK} {Ex : XK} (F : FnM X.prog X.w X.K X.mg X.base k f fd ps m) (A : Abs ⟨X.K, X.mg, X.w⟩ B G H c σ fp) (r : RpL ⟨X.K, X.mg, X.w⟩ G vs ds) (hl : ds.length = ps.length)
    (q : Res ⟨X.K, X.mg, X.w⟩ W B c σ fp G H (noX (m ds)) (Post ⟨X.K, X.mg, X.w⟩ B c σ fp G H true Q)) : spM ⟨X.K, X.mg, X.w⟩ ps.length m vs H Q Ex := by
  refine ⟨G, ds, by rw [r.length]; exact hl, A.fine.le, A.fine.tup, r, ?_⟩
  cases e : m ds with
  | ok d =>
    rw [e] at q
    exact fun v G' H' s l t gr tp rv => q v G' H' s t (A.call s t l gr tp) rv
  | ex y => rw [e] at q; exact q
  | stuck => rw [e] at q; exact q
theorem call_false {B : Bs} {G H : Hp} {c : Env} {σ : L2.St} {fp : List Addr} {vs : List V} {ds : List D} {Q : VK} {Ex : XK} (F : FnM X.prog X.w X.K X.mg X.base k f fd ps m) (A : Abs ⟨X.K, X.mg, X.w⟩ B G H c σ fp) (r : RpL ⟨X.K, X.mg, X.w⟩ H vs ds) (hl : ds.length = ps.length)
    (q : Res ⟨X.K, X.mg, X.w⟩ W B c σ fp G H (noX (m ds)) (Post ⟨X.K, X.mg, X.w⟩ B c σ fp G H false Q)) : spM ⟨X.K, X.mg, X.w⟩ ps.length m vs H Q Ex := by
  refine ⟨H, ds, by rw [r.length]; exact hl, Same.refl _, fun _ _ e _ => e, r, ?_⟩
  cases e : m ds with
  | ok d =>
    rw [e] at q
    intro v G' H' s l t gr tp rv
    let G2 : Hp := fun a => if H a = none then G' a else G a
    have g1 : ∀ a, H a = none → G2 a = G' a := fun a h => if_pos h
    have g2 : ∀ a, H a ≠ none → G2 a = G a := fun a h => if_neg h
    have ne : ∀ a o, H a = some o → H a ≠ none := fun a o h z => by rw [h] at z; cases z
    refine q v G2 H' (fun a o ha => ?_) t (A.call (fun a o ha => ?_) t (fun a o ha => ?_) (fun a h1 h2 => ?_) fun a u h1 h2 => ?_) (rv.mono l)
    · rw [g2 a (ne a o (A.fine.le a o ha))]; exact ha
    · rw [g2 a (ne a o (A.fine.le a o ha))]; exact ha
    · by_cases h : H a = none
      · rw [g1 a h] at ha; exact l a o ha
      · rw [g2 a h] at ha; exact t a o (A.fine.le a o ha)
    · rw [g2 a h1]; exact h2
    · by_cases h : H a = none
      · rw [g1 a h]; exact tp a u h1 h2
      · rw [g2 a h]
        cases hh : H a with
        | none => exact absurd hh h
        | some o =>
          have := t a o hh
          rw [h1] at this
          cases this
          exact A.fine.tup a u hh h2
  | ex y => rw [e] at q; exact q
  | stuck => rw [e] at q; exact q
/-- how many arguments -/
def eArgs (n : Nat) (gs : Env → R (List D)) : Env → R (List D) := fun c => gs c >>= fun ds => if ds.length = n then .ok ds else .stuck
theorem px_call (F : FnM X.prog X.w X.K X.mg X.base k f fd ps m) (hr : Room k X.A) (hm : X.mg x = some (.ref f)) (hk : PySem.W.keepIn X.K (.ref f) = true) (hb : Binds X.K fd ps []) (ha : PXA X W true (e :: es) gs) (hn : ∀ c ds, gs c = .ok ds → ds.length = ps.length) (hg : Gl X x := by rfl)
    (hdb : (x == ("__debug__" : Str)) = false := by decide) (he : starEach (e :: es) X.env = (false, eval e X.env) :: starEach es X.env := by rfl) (hpl : (backTo pos (starEach es X.env)).any (·.1) = false := by rfl) :
    PX X W true (.Call (.Name x p) (e :: es) [] pos) (eCall m gs) :=
  pe_mono (pe_call F hr hg hm hk hb .nil pass0 ha hdb he hpl) fun σ H Q ⟨B, G, c, fp, A, q⟩ => txa_seq A q fun ds e vs G1 H1 s1 t1 A1 r1 q1 => by
    rw [List.append_nil]
    exact call_true F A1 r1 (hn c ds e) (Res.grow (r := noX (m ds)) q1 (Same.refl _) (Same.refl _) fun d _ z => z.grow s1 t1)
theorem px_callL (F : FnM X.prog X.w X.K X.mg X.base k f fd ps m) (hr : Room k X.A) (hm : X.mg x = some (.ref f)) (hk : PySem.W.keepIn X.K (.ref f) = true) (hb : Binds X.K fd ps []) (ha : PXA X W false (e :: es) gs) (hn : ∀ c ds, gs c = .ok ds → ds.length = ps.length) (hg : Gl X x := by rfl)
    (hdb : (x == ("__debug__" : Str)) = false := by decide) (he : starEach (e :: es) X.env = (false, eval e X.env) :: starEach es X.env := by rfl) (hpl : (backTo pos (starEach es X.env)).any (·.1) = false := by rfl) :
    PX X W false (.Call (.Name x p) (e :: es) [] pos) (eCall m gs) :=
  pe_mono (pe_call F hr hg hm hk hb .nil pass0 ha hdb he hpl) fun σ H Q ⟨B, G, c, fp, A, q⟩ => txa_seq A q fun ds e vs G1 H1 s1 t1 A1 r1 q1 => by
    rw [List.append_nil]
    exact call_false F A1 r1 (hn c ds e) (Res.grow (r := noX (m ds)) q1 (Same.refl _) (Same.refl _) fun d _ z => z.grow s1 t1)
theorem px_call0 (F : FnM X.prog X.w X.K X.mg X.base k f fd [] m) (hr : Room k X.A) (hm : X.mg x = some (.ref f)) (hk : PySem.W.keepIn X.K (.ref f) = true) (hb : Binds X.K fd [] []) (hg : Gl X x := by rfl)
    (hdb : (x == ("__debug__" : Str)) = false := by decide) :
    PX X W true (.Call (.Name x p) [] [] pos) (eCall m eNil) :=
  pe_mono (pe_call0 F hr hg hm hk hb .nil pass0 hdb) fun σ H Q ⟨B, G, c, fp, A, q⟩ => call_true (Ex := E0) F A .nil rfl q
end
theorem len_nil {c : Env} {ds : List D} (h : eNil c = .ok ds) : ds.length = 0 := by cases h; rfl
theorem len_cons {c : Env} {g : Env → R D} {gs : Env → R (List D)} {n : Nat} (k : ∀ ds, gs c = .ok ds → ds.length = n) {ds : List D} (h : eCons g gs c = .ok ds) : ds.length = n + 1 := by
  unfold eCons at h
  obtain ⟨d, _, h⟩ := bind_ok_eq h
  obtain ⟨es, h1, h⟩ := bind_ok_eq h
  cases h
  simp [k es h1]
/-- the law's own promise, of its run -/
theorem law_sp {K : PySem.W.Frag} {mg : Str → Option Value} {w : World} {m : List D → R D} (hm : ∀ ns : List Int, ns.length ≤ 63 → m [.lst (ns.map D.int)] = .ok (.bl true)) {H : Hp} {a : Addr} {ns : List Int} (hl : ns.length ≤ 63) (hO : Only H) (hS : SqL K H a (ns.map V.int)) :
    spM ⟨K, mg, w⟩ 1 m [.ref a] H (fun v _ => v = .bl true) fun _ _ _ => False := by
  refine ⟨H, [.lst (ns.map D.int)], rfl, Same.refl _, fun _ _ e _ => e, .cons (.lst hS (RpL.ofInt ns)) .nil, ?_⟩
  rw [hm ns hl]
  intro v G' H' _ _ _ _ _ r
  exact r.blH
end VS

/-! VS: more rules. -/
namespace VS
open PySem PySem.Spec PyProof.Rows L2
section
variable {X : Cx} {W : WX} {pn : List Nat} {b b' b1 b2 b3 : Bool} {a e : Expr} {pos : Pos}
def eNeg (g : Env → R D) : Env → R D := fun c => g c >>= fun d => match d with
  | .int i => .ok (.int (-i))
  | _ => .stuck
theorem px_neg {g : Env → R D} (h : PX X W b a g) : PX X W true (.UnaryOp .USub a pos) (eNeg g) := pe_mono (pe_un un_neg h) fun σ H Q ⟨B, G, c, fp, A, q⟩ => tx_seq A q fun d e v G1 H1 s1 t1 A1 r1 q1 => by
  cases d with
  | int i => exact ⟨i, r1.intH, q1 _ G1 H1 s1 t1 A1 (.int _)⟩
  | _ => exact q1.elim
/-- a < b < c -/
def eChain (f k : D → D → Option D) (ga gb gc : Env → R D) : Env → R D := fun c => ga c >>= fun x => gb c >>= fun y => lift (f x y) >>= fun z => lift (asB z) >>= fun t => if t then gc c >>= fun u => lift (k y u) else .ok (.bl false)
theorem tx_chain {r r' : R2} {f k : D → D → Option D} (hr : Op2Ok ⟨X.K, X.mg, X.w⟩ r b1 b2 true f) (hr' : Op2Ok ⟨X.K, X.mg, X.w⟩ r' b2 b3 true k) {ga gb gc : Env → R D} : ∀ σ H Q, TX ⟨X.K, X.mg, X.w⟩ W true (eChain f k ga gb gc) σ H Q → tChain r r' (TX ⟨X.K, X.mg, X.w⟩ W b1 ga) (TX ⟨X.K, X.mg, X.w⟩ W b2 gb) (TX ⟨X.K, X.mg, X.w⟩ W b3 gc) σ H Q :=
  fun σ H Q ⟨B, G, c, fp, A, q⟩ => tx_seq A q fun d e v G1 H1 s1 t1 A1 r1 q1 => tx_seq A1 q1 fun d2 e2 v2 G2 H2 s2 t2 A2 r2 q2 => by
    cases hf : f d d2 with
    | none => rw [hf] at q2; exact q2.elim
    | some z =>
      rw [hf] at q2
      have q2 : Res ⟨X.K, X.mg, X.w⟩ W B c σ fp G2 H2 (lift (asB z) >>= fun t => if t then gc c >>= fun u => lift (k d2 u) else .ok (.bl false)) _ := q2
      cases hz : asB z with
      | none => rw [hz] at q2; exact q2.elim
      | some t =>
        rw [hz] at q2
        have q2 : Res ⟨X.K, X.mg, X.w⟩ W B c σ fp G2 H2 (if t = true then gc c >>= fun u => lift (k d2 u) else .ok (.bl false)) _ := q2
        refine hr A2 (vw_mono s2 t2 r1) r2 hf fun v3 G3 H3 s3 t3 A3 r3 => ?_
        refine ⟨t, asB_rp r3 hz, ?_⟩
        cases t with
        | true =>
          rw [if_pos rfl] at q2 ⊢
          refine tx_seq A3 (Res.grow (r := gc c >>= fun u => lift (k d2 u)) q2 s3 t3 fun _ _ z => z) fun d4 e4 v4 G4 H4 s4 t4 A4 r4 q4 => ?_
          obtain ⟨d5, e5, p5⟩ := Res.lift q4
          exact hr' A4 (vw_mono (s3.trans s4) (t3.trans t4) r2) r4 e5 (p5.grow (s1.trans (s2.trans (s3.trans s4))) (t1.trans (t2.trans (t3.trans t4))))
        | false =>
          rw [if_neg (by decide)] at q2 ⊢
          exact (show Post _ _ _ _ _ _ _ _ _ _ from q2) _ G3 H3 (s1.trans (s2.trans s3)) (t1.trans (t2.trans t3)) A3 (.bl _)
theorem px_chain {op op' : CmpOp} {r r' : R2} {f k : D → D → Option D} {eb ec : Expr} (ho : OpR X (compareOp op) r) (ho' : OpR X (compareOp op') r') (hr : Op2Ok ⟨X.K, X.mg, X.w⟩ r b1 b2 true f) (hr' : Op2Ok ⟨X.K, X.mg, X.w⟩ r' b2 b3 true k) {ga gb gc : Env → R D} (ha : PX X W b1 a ga) (hb : PX X W b2 eb gb) (hc : PX X W b3 ec gc) (hm : lastMarks [op, op'] [eb, ec] = false := by with_unfolding_all rfl) :
    PX X W true (.Compare a [op, op'] [eb, ec] pos) (eChain f k ga gb gc) := pe_mono (pe_chain ho ho' ha hb hc hm) (tx_chain hr hr')
theorem pxt_chain {op op' : CmpOp} {r r' : R2} {f k : D → D → Option D} {eb ec : Expr} (ho : OpR X (compareOp op) r) (ho' : OpR X (compareOp op') r') (hr : Op2Ok ⟨X.K, X.mg, X.w⟩ r b1 b2 true f) (hr' : Op2Ok ⟨X.K, X.mg, X.w⟩ r' b2 b3 true k) {ga gb gc : Env → R D} (ha : PX X W b1 a ga) (hb : PX X W b2 eb gb) (hc : PX X W b3 ec gc) (hm : lastMarks [op, op'] [eb, ec] = false := by with_unfolding_all rfl) :
    PXT X W (.Compare a [op, op'] [eb, ec] pos) (eB (eChain f k ga gb gc)) := pt_mono (pt_chain ho ho' ha hb hc hm) fun σ H Q q => tx_chain hr hr' σ H _ (tx_test (b := true) σ H Q q)

/-! ### an item of what a name owns -/
def ixO (o : O) (k : D) : Option D :=
  match o, k with
  | .lst os, .int k => (atI os k).bind fun o => match o with
    | .v d => some d
    | _ => none
  | .v d, k => opIx true d k
  | _, _ => none
def eIxo (i : Nat) (gb : Env → R D) : Env → R D := fun c => match c[i]? with
  | some (some o) => gb c >>= fun k => lift (ixO o k)
  | _ => .stuck
theorem OwnL.get : ∀ {E : Wd} {G H : Hp} {vs : List V} {os : List O} {fp : List Addr} {j : Nat} {o : O}, OwnL E G H vs os fp → os[j]? = some o → ∃ v fq, vs[j]? = some v ∧ Own E G H v o fq
  | _, _, _, _, [], _, j, o, h, e => by simp at e
  | _, _, _, _, o' :: os, _, 0, o, h, e => by
    cases h with
    | cons h r => simp at e; subst e; exact ⟨_, _, rfl, h⟩
  | _, _, _, _, o' :: os, _, j + 1, o, h, e => by
    cases h with
    | cons h r =>
      obtain ⟨v, fq, e1, e2⟩ := OwnL.get (j := j) r (by simpa using e)
      exact ⟨v, fq, by simpa using e1, e2⟩
theorem px_ixo {x : Str} {p : Pos} (i : Nat) {eb : Expr} {gb : Env → R D} (hb : PX X W b eb gb) (hN : X.N[i]? = some x := by rfl) (hv : Vis X.env.scope x := by first | exact Or.inl rfl | exact Or.inr (Or.inl rfl) | exact Or.inr (Or.inr rfl)) (hd : (x == ("__debug__" : Str)) = false := by decide)
    (hcd : (x == ("__classdict__" : Str)) = false := by decide) (hs : PlainIx eb := by exact fun _ _ => rfl) : PX X W true (.Subscript (.Name x p) eb pos) (eIxo i gb) :=
  pe_mono (pe_ix ix_seq (pe_var hN hv hd hcd) hb hs) fun σ H Q ⟨B, G, c, fp, A, q⟩ => by
    unfold eIxo at q
    split at q
    · rename_i o e1
      obtain ⟨v, fq, h1, h2, _⟩ := A.cells.get e1
      refine ⟨v, h1, tx_seq A q fun k e3 w G1 H1 s1 t1 A1 r1 q1 => ?_⟩
      obtain ⟨d, e4, p4⟩ := Res.lift q1
      obtain ⟨v', fq', h1', h2', _⟩ := A1.cells.get e1
      rw [h1] at h1'
      cases h1'
      unfold ixO at e4
      split at e4
      · rename_i os k
        obtain ⟨o', e5, e6⟩ := Option.bind_eq_some_iff.mp e4
        cases h2' with
        | @lst a vs _ fq ha ho =>
          unfold atI at e5
          obtain ⟨j, e7, e8⟩ := Option.bind_eq_some_iff.mp e5
          obtain ⟨v8, f8, e9, e10⟩ := ho.get e8
          split at e6
          · cases e6
            cases e10 with
            | v rv =>
              refine .inl ⟨a, vs, k, v8, rfl, r1.intH, .inl (.inl ha), ?_, p4 _ G1 H1 s1 t1 A1 rv⟩
              unfold atI
              rw [ho.length, e7]
              exact e9
          · cases e6
      · rename_i dk
        cases h2' with
        | v rv => exact ok_ix (b := true) A1 rv r1 e4 (p4.grow s1 t1)
      · cases e4
    · exact q.elim
/-- an item at the loan's level -/
theorem ok_ixL : Op2Ok ⟨X.K, X.mg, X.w⟩ (rIx X.K) false b2 false (opIx true) := by
  intro B G H c σ fp x y dx dy d Q A rx ry e p
  unfold opIx at e
  split at e
  · rename_i ds i
    obtain ⟨d', hk, e⟩ := Option.bind_eq_some_iff.mp e
    simp at e
    subst e
    obtain ⟨a, vs, rfl, h1, r1⟩ := rx.lstH A.fine.le
    obtain ⟨v, hv, rv⟩ := r1.at hk
    exact .inl ⟨_, _, _, _, rfl, ry.intH, h1, hv, p.here A rv⟩
  · rename_i ds i
    obtain ⟨d', hk, e⟩ := Option.bind_eq_some_iff.mp e
    simp at e
    subst e
    obtain ⟨a, vs, rfl, h1, r1⟩ := rx.tupH A.fine.le
    obtain ⟨v, hv, rv⟩ := r1.at hk
    exact .inr (.inl ⟨_, _, _, _, rfl, ry.intH, h1, hv, p.here A rv⟩)
  · rename_i l i
    split at e
    · rename_i hl
      obtain ⟨z, hk, rfl⟩ := Option.map_eq_some_iff.mp e
      exact .inr (.inr ⟨_, _, z, rx.strH, ry.intH, by rw [S_len, sizeLine_eq]; exact hl, hk, p.here A (.str [z])⟩)
    · cases e
  · cases e
theorem px_ixL {eb : Expr} {ga gb : Env → R D} (ha : PX X W false a ga) (hb : PX X W b2 eb gb) (hs : PlainIx eb := by exact fun _ _ => rfl) : PX X W false (.Subscript a eb pos) (eOp2 (opIx true) ga gb) :=
  pe_mono (pe_ix ix_seq ha hb hs) (tx_op2 ok_ixL)
end
/-! ### a def by its name -/
structure Cal (P : Program) (w : World) (K : PySem.W.Frag) (mg : Str → Option Value) (base : Heap) (k : Nat) (x : Str) (ps : List Str) (m : List D → R D) : Prop where
  ex : ∃ f fd, FnM P w K mg base k f fd ps m ∧ mg x = some (.ref f) ∧ PySem.W.keepIn K (.ref f) = true ∧ L2.Binds K fd ps []
/-- where a def of the text stands -/
structure Def (K : PySem.W.Frag) (mg : Str → Option Value) (x : Str) (st : Stmt) : Prop where
  ex : ∃ f fd, Fun K x x st f fd ∧ mg x = some (.ref f)
section
variable {X : Cx} {W : WX} {k j : Nat} {ps : List Str} {x : Str} {p pos : Pos} {e : Expr} {es : List Expr} {gs : Env → R (List D)} {m : List D → R D}
theorem px_callC (C : Cal X.prog X.w X.K X.mg X.base k x ps m) (hr : Room j X.A) (hkj : k ≤ j) (ha : PXA X W true (e :: es) gs) (hn : ∀ c ds, gs c = .ok ds → ds.length = ps.length) (hg : Gl X x := by rfl)
    (hdb : (x == ("__debug__" : Str)) = false := by decide) (he : starEach (e :: es) X.env = (false, eval e X.env) :: starEach es X.env := by rfl) (hpl : (backTo pos (starEach es X.env)).any (·.1) = false := by rfl) :
    PX X W true (.Call (.Name x p) (e :: es) [] pos) (eCall m gs) := by
  obtain ⟨f, fd, F, hm, hk, hb⟩ := C.ex
  exact px_call F (hr.mono hkj) hm hk hb ha hn hg hdb he hpl
theorem px_callCL (C : Cal X.prog X.w X.K X.mg X.base k x ps m) (hr : Room j X.A) (hkj : k ≤ j) (ha : PXA X W false (e :: es) gs) (hn : ∀ c ds, gs c = .ok ds → ds.length = ps.length) (hg : Gl X x := by rfl)
    (hdb : (x == ("__debug__" : Str)) = false := by decide) (he : starEach (e :: es) X.env = (false, eval e X.env) :: starEach es X.env := by rfl) (hpl : (backTo pos (starEach es X.env)).any (·.1) = false := by rfl) :
    PX X W false (.Call (.Name x p) (e :: es) [] pos) (eCall m gs) := by
  obtain ⟨f, fd, F, hm, hk, hb⟩ := C.ex
  exact px_callL F (hr.mono hkj) hm hk hb ha hn hg hdb he hpl
theorem px_callC0 (C : Cal X.prog X.w X.K X.mg X.base k x [] m) (hr : Room j X.A) (hkj : k ≤ j) (hg : Gl X x := by rfl)
    (hdb : (x == ("__debug__" : Str)) = false := by decide) :
    PX X W true (.Call (.Name x p) [] [] pos) (eCall m eNil) := by
  obtain ⟨f, fd, F, hm, hk, hb⟩ := C.ex
  exact px_call0 F (hr.mono hkj) hm hk hb hg hdb
end
section
variable {P : Program} {w : World} {K : PySem.W.Frag} {mg : Str → Option Value} {base : Heap}
theorem cal_of {x : Str} {st : Stmt} {N ps : List Str} {k : Nat} {body : Env → Rs} (T : Def K mg x st) (S : FnScope N ps (defScope st))
    (hb : ∀ (kV doc pm : Value) (an : Option Addr) (cdv ct : Value) (us : List Value), us.length = ps.length → bindArgs (PySem.W.fnOf x x (defArgs st) (defBody st) (defScope st) .none kV doc pm an cdv ct) ⟨us, []⟩ = pure (ps.zip us))
    (hbody : ∀ (f : Addr) (cdv : Value) (A : Around) (outer : List PySem.Env) (s : Shared) (H : Hp) (E : XK), Room k (A.deeper (envOfC x (defScope st) s.heap.objs.size f cdv)) → PXSs (cxOf CX0 P w K mg base N x (defScope st) f cdv A outer s H E).nox W0 [] (defBody st) body) :
    Cal P w K mg base (k + 1) x ps (runF N.length body) := by
  obtain ⟨f, fd, F, g⟩ := T.ex
  exact ⟨f, fd, fnm_of F S (hbody f), g, F.kp, F.binds hb⟩
theorem Cal.mono {x : Str} {ps : List Str} {k j : Nat} {m : List D → R D} (C : Cal P w K mg base k x ps m) (h : k ≤ j) : Cal P w K mg base j x ps m := by
  obtain ⟨f, fd, F, g, kp, b⟩ := C.ex
  exact ⟨f, fd, F.mono h, g, kp, b⟩
/-- a def that is never called so deep -/
theorem cal_stuck {x : Str} {st : Stmt} {ps : List Str} {k : Nat} (T : Def K mg x st)
    (hb : ∀ (kV doc pm : Value) (an : Option Addr) (cdv ct : Value) (us : List Value), us.length = ps.length → bindArgs (PySem.W.fnOf x x (defArgs st) (defBody st) (defScope st) .none kV doc pm an cdv ct) ⟨us, []⟩ = pure (ps.zip us)) : Cal P w K mg base k x ps (fun _ => .stuck) := by
  obtain ⟨f, fd, F, g⟩ := T.ex
  exact ⟨f, fd, ⟨fun vs H Q E h => h.choose_spec.choose_spec.1, fun A outer s H args us vs Q E hr e0 hb r h => by
    obtain ⟨G, ds, _, _, _, _, q⟩ := h
    exact q.elim⟩, g, F.kp, F.binds hb⟩
end
end VS

/-! VS: reckoning with the worth of programs, in plain Lean. -/
namespace VS
open PySem PySem.Spec PyProof.Rows L2

/-! ### what the words are worth -/
@[simp] theorem eV_def (i : Nat) (c : Env) : eV i c = match c[i]? with | some (some (.v d)) => .ok d | _ => .stuck := (rfl)
@[simp] theorem eL_def (i : Nat) (c : Env) : eL i c = match c[i]? with | some (some o) => .ok o.toD | _ => .stuck := (rfl)
@[simp] theorem eC_def (d : D) (c : Env) : eC d c = .ok d := (rfl)
@[simp] theorem eNil_def (c : Env) : eNil c = .ok [] := (rfl)
@[simp] theorem eCons_def (g : Env → R D) (gs : Env → R (List D)) (c : Env) : eCons g gs c = g c >>= fun d => gs c >>= fun ds => .ok (d :: ds) := (rfl)
@[simp] theorem eFn_def (f : List D → Option D) (gs : Env → R (List D)) (c : Env) : eFn f gs c = gs c >>= fun ds => lift (f ds) := (rfl)
@[simp] theorem eFnO_def (f : List D → Option O) (gs : Env → R (List D)) (c : Env) : eFnO f gs c = gs c >>= fun ds => lift (f ds) := (rfl)
@[simp] theorem eOp2_def (f : D → D → Option D) (ga gb : Env → R D) (c : Env) : eOp2 f ga gb c = ga c >>= fun x => gb c >>= fun y => lift (f x y) := (rfl)
@[simp] theorem eB_def (g : Env → R D) (c : Env) : eB g c = g c >>= fun d => lift (asB d) := (rfl)
@[simp] theorem asB_bl (t : Bool) : asB (.bl t) = some t := (rfl)
@[simp] theorem eTru_def (g : Env → R D) (c : Env) : eTru g c = g c >>= fun d => lift (truD d) := (rfl)
@[simp] theorem truD_bl (t : Bool) : truD (.bl t) = some t := (rfl)
@[simp] theorem truD_non : truD .non = some false := (rfl)
@[simp] theorem truD_int (i : Int) : truD (.int i) = some (i != 0) := (rfl)
@[simp] theorem tAnd_def (g k : Env → R Bool) (c : Env) : tAnd' g k c = g c >>= fun t => if t then k c else .ok false := (rfl)
@[simp] theorem tOr_def (g k : Env → R Bool) (c : Env) : tOr' g k c = g c >>= fun t => if t then .ok true else k c := (rfl)
@[simp] theorem tNot_def (g : Env → R Bool) (c : Env) : tNot' g c = g c >>= fun t => .ok (!t) := (rfl)
@[simp] theorem tYes_def (c : Env) : tYes' c = .ok true := (rfl)
@[simp] theorem eAnd_def (ga gb : Env → R D) (c : Env) : eAnd ga gb c = ga c >>= fun d => lift (asB d) >>= fun t => if t then gb c else .ok (.bl false) := (rfl)
@[simp] theorem eOr_def (ga gb : Env → R D) (c : Env) : eOr ga gb c = ga c >>= fun d => lift (asB d) >>= fun t => if t then .ok (.bl true) else gb c := (rfl)
@[simp] theorem eNot_def (ga : Env → R D) (c : Env) : eNot ga c = ga c >>= fun d => lift (asB d) >>= fun t => .ok (.bl !t) := (rfl)
@[simp] theorem eIf_def (g : Env → R Bool) (ga gb : Env → R D) (c : Env) : eIf g ga gb c = g c >>= fun t => if t then ga c else gb c := (rfl)
@[simp] theorem eIs_def (T : Ty) (g : Env → R D) (c : Env) : eIs T g c = g c >>= fun d => lift ((isI T d).map D.bl) := (rfl)
@[simp] theorem eFlat_def (g : Env → R D) (c : Env) : eFlat g c = g c >>= fun d => if d.flat then .ok d else .stuck := (rfl)
@[simp] theorem eNeg_def (g : Env → R D) (c : Env) : eNeg g c = g c >>= fun d => match d with | .int i => .ok (.int (-i)) | _ => .stuck := (rfl)
@[simp] theorem eO_def (g : Env → R D) (c : Env) : eO g c = g c >>= fun d => match d with | .int i => .ok (some i) | _ => .stuck := (rfl)
@[simp] theorem eNoO_def (c : Env) : eNoO c = .ok none := (rfl)
@[simp] theorem eSl_def (b : Bool) (g : Env → R D) (gl gh : Env → R (Option Int)) (c : Env) : eSl b g gl gh c = g c >>= fun d => gl c >>= fun lo => gh c >>= fun hi => lift (opSl b d lo hi) := (rfl)
@[simp] theorem eMS_def (f : List Nat → List D → Option D) (g : Env → R D) (gs : Env → R (List D)) (c : Env) : eMS f g gs c = g c >>= fun d => lift (asS d) >>= fun l => gs c >>= fun ds => lift (f l ds) := (rfl)
@[simp] theorem asS_str (l : List Nat) : asS (.str l) = some l := (rfl)
@[simp] theorem eCall_def (m : List D → R D) (gs : Env → R (List D)) (c : Env) : eCall m gs c = gs c >>= fun ds => noX (m ds) := (rfl)
@[simp] theorem eIxo_def (i : Nat) (gb : Env → R D) (c : Env) : eIxo i gb c = match c[i]? with | some (some o) => gb c >>= fun k => lift (ixO o k) | _ => .stuck := (rfl)
@[simp] theorem eChain_def (f k : D → D → Option D) (ga gb gc : Env → R D) (c : Env) : eChain f k ga gb gc c = ga c >>= fun x => gb c >>= fun y => lift (f x y) >>= fun z => lift (asB z) >>= fun t => if t then gc c >>= fun u => lift (k y u) else .ok (.bl false) := (rfl)
@[simp] theorem eIt_def (b : Bool) (ga : Env → R D) (c : Env) : eIt b ga c = ga c >>= fun d => lift (asA b d) := (rfl)
@[simp] theorem eItR_def (ga gb : Env → R D) (c : Env) : eItR ga gb c = ga c >>= fun d => lift (asI d) >>= fun lo => gb c >>= fun d2 => lift (asI d2) >>= fun hi => .ok (rangeD lo hi) := (rfl)
@[simp] theorem eLc_def (gs : Env → R (List D)) (t : Env → R Bool) (g : Env → R D) (i : Nat) (c : Env) : eLc gs t g i c = eLcs gs t g i c >>= fun es => .ok (.lst es) := (rfl)
@[simp] theorem eLcO_def (gs : Env → R (List D)) (t : Env → R Bool) (g : Env → R D) (i : Nat) (c : Env) : eLcO gs t g i c = eLcs gs t g i c >>= fun es => .ok (.lst (es.map O.v)) := (rfl)
@[simp] theorem eLcs_def (gs : Env → R (List D)) (t : Env → R Bool) (g : Env → R D) (i : Nat) (c : Env) : eLcs gs t g i c = gs c >>= fun ds => compL t g i c ds >>= fun es => if es.length ≤ 16777216 then .ok es else .stuck := (rfl)
@[simp] theorem sNil_def (c : Env) : sNil c = .ok .nx c := (rfl)
@[simp] theorem sSeq_def (g k : Env → Rs) (c : Env) : sSeq g k c = match g c with | .ok .nx c' => k c' | r => r := (rfl)
@[simp] theorem sSet_def (i : Nat) (g : Env → R D) (c : Env) : sSet i g c = (g c).st c fun d => .ok .nx (c.set i (some (.v d))) := (rfl)
@[simp] theorem sSetO_def (i : Nat) (g : Env → R O) (c : Env) : sSetO i g c = (g c).st c fun o => .ok .nx (c.set i (some o)) := (rfl)
@[simp] theorem sRet_def (g : Env → R D) (c : Env) : sRet g c = (g c).st c fun d => .ok (.rt d) c := (rfl)
@[simp] theorem sRetN_def (c : Env) : sRetN c = .ok (.rt .non) c := (rfl)
@[simp] theorem sExpr_def (g : Env → R D) (c : Env) : sExpr g c = (g c).st c fun _ => .ok .nx c := (rfl)
@[simp] theorem sIf_def (t : Env → R Bool) (g k : Env → Rs) (c : Env) : sIf t g k c = (t c).st c fun b => if b then g c else k c := (rfl)
@[simp] theorem sBreak_def (c : Env) : sBreak c = .ok .bk c := (rfl)
@[simp] theorem sCont_def (c : Env) : sCont c = .ok .ct c := (rfl)
@[simp] theorem sApp_def (i : Nat) (g : Env → R D) (c : Env) : sApp i g c = (lift (atL i c)).st c fun os => (g c).st c fun d => if os.length < 16777216 then .ok .nx (c.set i (some (.lst (os ++ [.v d])))) else .stuck := (rfl)
@[simp] theorem sIxSet_def (i : Nat) (gi g : Env → R D) (c : Env) : sIxSet i gi g c = (g c).st c fun d => (lift (atL i c)).st c fun os => (gi c).st c fun k => match k with
  | .int k => (lift (ixN os.length k)).st c fun j => .ok .nx (c.set i (some (.lst (os.set j (.v d)))))
  | _ => .stuck := (rfl)
@[simp] theorem atL_def (i : Nat) (c : Env) : atL i c = match c[i]? with | some (some (.lst os)) => some os | _ => none := (rfl)
@[simp] theorem sFz_def (i : Nat) (g : Env → Rs) (c : Env) : sFz i g c = g (fz i c) := (rfl)
@[simp] theorem fz_def (i : Nat) (c : Env) : fz i c = match c[i]? with | some (some o) => c.set i (some (.v o.toD)) | _ => c := (rfl)
@[simp] theorem sFor_def (i : Nat) (gs : Env → R (List D)) (g : Env → Rs) (c : Env) : sFor i gs g c = (gs c).st c fun ds => forL i g ds c := (rfl)
@[simp] theorem toD_v (d : D) : (O.v d).toD = d := by rw [O.toD]
@[simp] theorem toD_lst (os : List O) : (O.lst os).toD = .lst (os.map O.toD) := by rw [O.toD, O.toDs_map]
@[simp] theorem map_toD_v (ds : List D) : (ds.map O.v).map O.toD = ds := by
  rw [List.map_map]
  have h : (O.toD ∘ O.v : D → D) = id := by funext x; rw [Function.comp_apply, O.toD, id]
  rw [h, List.map_id]
@[simp] theorem compToD {α : Type} (f : α → D) : O.toD ∘ (fun x => O.v (f x)) = f := by funext x; simp
@[simp] theorem compToD' : O.toD ∘ O.v = id := by funext x; simp
@[simp] theorem opAdd_int (b1 b2 : Bool) (i j : Int) : opAdd b1 b2 (.int i) (.int j) = some (.int (i + j)) := (rfl)
@[simp] theorem opAdd_str (b1 b2 : Bool) (x y : List Nat) : opAdd b1 b2 (.str x) (.str y) = if x.length + y.length ≤ 16777216 then some (.str (x ++ y)) else none := (rfl)
@[simp] theorem opAdd_lst (b1 b2 : Bool) (x y : List D) : opAdd b1 b2 (.lst x) (.lst y) = if x.length + y.length ≤ 16777216 ∧ okEl b1 x = true ∧ okEl b2 y = true then some (.lst (x ++ y)) else none := (rfl)
@[simp] theorem opSub_int (i j : Int) : opSub (.int i) (.int j) = some (.int (i - j)) := (rfl)
@[simp] theorem opMul_int (i j : Int) : opMul (.int i) (.int j) = if (-(2 ^ 64) < i ∧ i < 2 ^ 64) ∨ (-(2 ^ 64) < j ∧ j < 2 ^ 64) then some (.int (i * j)) else none := (rfl)
@[simp] theorem opMod_int (i j : Int) : opMod (.int i) (.int j) = if 0 < j then some (.int (i % j)) else none := (rfl)
@[simp] theorem opDiv_int (i j : Int) : opDiv (.int i) (.int j) = if 0 < j ∧ j < 1073741824 then some (.int (i / j)) else none := (rfl)
@[simp] theorem opRel_int (f : Int → Int → Bool) (i j : Int) : opRel f (.int i) (.int j) = some (.bl (f i j)) := (rfl)
@[simp] theorem opIs_non (d : D) : opIs d .non = some (.bl d.isNon) := (rfl)
@[simp] theorem opIsnt_non (d : D) : opIsnt d .non = some (.bl (!d.isNon)) := (rfl)
@[simp] theorem isNon_non : D.isNon .non = true := (rfl)
@[simp] theorem isNon_str (l : List Nat) : D.isNon (.str l) = false := (rfl)
@[simp] theorem isNon_int (i : Int) : D.isNon (.int i) = false := (rfl)
@[simp] theorem isNon_bl (i : Bool) : D.isNon (.bl i) = false := (rfl)
@[simp] theorem isNon_tup (i : List D) : D.isNon (.tup i) = false := (rfl)
@[simp] theorem isNon_lst (i : List D) : D.isNon (.lst i) = false := (rfl)
@[simp] theorem fLen_lst (ds : List D) : fLen [.lst ds] = some (.int ds.length) := (rfl)
@[simp] theorem fLen_tup (ds : List D) : fLen [.tup ds] = some (.int ds.length) := (rfl)
@[simp] theorem fLen_str (l : List Nat) : fLen [.str l] = if l.length ≤ 16777216 then some (.int l.length) else none := (rfl)
@[simp] theorem fAbs_int (i : Int) : fAbs [.int i] = some (.int (if i < 0 then -i else i)) := (rfl)
@[simp] theorem fInt_bl (t : Bool) : fInt [.bl t] = some (.int (if t then 1 else 0)) := (rfl)
@[simp] theorem fMin2_int (i j : Int) : fMin2 [.int i, .int j] = some (.int (if j < i then j else i)) := (rfl)
@[simp] theorem fMax2_int (i j : Int) : fMax2 [.int i, .int j] = some (.int (if j > i then j else i)) := (rfl)
@[simp] theorem fTuple_lst (b : Bool) (ds : List D) : fTuple b [.lst ds] = if okEl b ds then some (.tup ds) else none := (rfl)
@[simp] theorem fTuple_tup (b : Bool) (ds : List D) : fTuple b [.tup ds] = if okEl b ds then some (.tup ds) else none := (rfl)
@[simp] theorem fList_lst (b : Bool) (ds : List D) : fList b [.lst ds] = if okEl b ds then some (.lst ds) else none := (rfl)
@[simp] theorem fList_tup (b : Bool) (ds : List D) : fList b [.tup ds] = if okEl b ds then some (.lst ds) else none := (rfl)
@[simp] theorem fSum_lst (ds : List D) : fSum [.lst ds] = (asInts ds).map fun ns => .int ns.sum := (rfl)
@[simp] theorem opIx_lst (b : Bool) (ds : List D) (i : Int) : opIx b (.lst ds) (.int i) = (L2.atI ds i).bind fun d => if okE b d then some d else none := (rfl)
@[simp] theorem opIx_tup (b : Bool) (ds : List D) (i : Int) : opIx b (.tup ds) (.int i) = (L2.atI ds i).bind fun d => if okE b d then some d else none := (rfl)
@[simp] theorem opIx_str (b : Bool) (l : List Nat) (i : Int) : opIx b (.str l) (.int i) = if l.length ≤ 16777216 then (L2.atI l i).map fun x => .str [x] else none := (rfl)
@[simp] theorem opSl_lst (b : Bool) (ds : List D) (lo hi : Option Int) : opSl b (.lst ds) lo hi = if okEl b (cutD ds lo hi) then some (.lst (cutD ds lo hi)) else none := (rfl)
@[simp] theorem opSl_tup (b : Bool) (ds : List D) (lo hi : Option Int) : opSl b (.tup ds) lo hi = if okEl b (cutD ds lo hi) then some (.tup (cutD ds lo hi)) else none := (rfl)
@[simp] theorem opSl_str (b : Bool) (l : List Nat) (lo hi : Option Int) : opSl b (.str l) lo hi = if l.length ≤ 16777216 then some (.str (cutD l lo hi)) else none := (rfl)
@[simp] theorem ixO_lst (os : List O) (k : Int) : ixO (.lst os) (.int k) = (L2.atI os k).bind fun o => match o with | .v d => some d | _ => none := (rfl)
@[simp] theorem ixO_v (d k : D) : ixO (.v d) k = opIx true d k := by cases k <;> rfl
@[simp] theorem fLstO_def (ds : List D) : fLstO ds = if ds.length ≤ 16777216 then some (.lst (ds.map O.v)) else none := (rfl)
@[simp] theorem fLst_def (ds : List D) : fLst ds = if ds.length ≤ 16777216 then some (.lst ds) else none := (rfl)
@[simp] theorem fTup_def (ds : List D) : fTup ds = if ds.length ≤ 16777216 then some (.tup ds) else none := (rfl)
@[simp] theorem asA_lst (b : Bool) (ds : List D) : asA b (.lst ds) = if okEl b ds then some ds else none := (rfl)
@[simp] theorem asA_tup (b : Bool) (ds : List D) : asA b (.tup ds) = if okEl b ds then some ds else none := (rfl)
@[simp] theorem asA_str (b : Bool) (l : List Nat) : asA b (.str l) = if l.length ≤ 16777216 then some (l.map fun x => .str [x]) else none := (rfl)
@[simp] theorem asI_int (i : Int) : asI (.int i) = if -(2 ^ 62) ≤ i ∧ i < 2 ^ 62 then some i else none := (rfl)
@[simp] theorem fJoin_lst (l : List Nat) (ds : List D) : fJoin l [.lst ds] = (asSs ds).bind fun xs => if (xs.map List.length).sum + xs.length * l.length ≤ 16777216 then some (.str (TL.joinL l xs)) else none := (rfl)
@[simp] theorem compL_nil (t : Env → R Bool) (g : Env → R D) (i : Nat) (c : Env) : compL t g i c [] = .ok [] := (rfl)
theorem compL_cons (t : Env → R Bool) (g : Env → R D) (i : Nat) (c : Env) (d : D) (ds : List D) : compL t g i c (d :: ds) = (noX (t (c.set i (some (.v d)))) >>= fun b => if b then noX (g (c.set i (some (.v d)))) >>= fun x => compL t g i c ds >>= fun xs => .ok (x :: xs) else compL t g i c ds) := (rfl)
@[simp] theorem forL_nil (i : Nat) (g : Env → Rs) (c : Env) : forL i g [] c = .ok .nx c := (rfl)
theorem forL_cons (i : Nat) (g : Env → Rs) (d : D) (ds : List D) (c : Env) : forL i g (d :: ds) c = match g (c.set i (some (.v d))) with
    | .ok .nx c' => forL i g ds c'
    | .ok .ct c' => forL i g ds c'
    | .ok .bk c' => .ok .nx c'
    | r => r := (rfl)
theorem runF_def (n : Nat) (body : Env → Rs) (ds : List D) : runF n body ds = match body (ds.map (fun d => some (O.v d)) ++ List.replicate (n - ds.length) none) with
  | .ok (.rt d) _ => .ok d
  | .ok .nx _ => .ok .non
  | .ex e _ => .ex e
  | _ => .stuck := (rfl)

/-! ### places -/
theorem atI_ofNat {α : Type} (xs : List α) (k : Nat) : L2.atI xs (k : Int) = xs[k]? := by
  unfold L2.atI L2.ixN
  rw [if_pos (Int.natCast_nonneg k)]
  by_cases h : (k : Int) < xs.length
  · rw [if_pos h]; rfl
  · rw [if_neg h]
    have : xs.length ≤ k := by omega
    rw [List.getElem?_eq_none this]; rfl
theorem atI_pos {α : Type} (xs : List α) {i : Int} (h : 0 ≤ i) : L2.atI xs i = xs[i.toNat]? := by
  have := atI_ofNat xs i.toNat
  rwa [Int.toNat_of_nonneg h] at this
theorem ixN_pos {n : Nat} {i : Int} (h : 0 ≤ i) (k : i < n) : L2.ixN n i = some i.toNat := by
  unfold L2.ixN
  rw [if_pos h, if_pos k]
theorem sIx_nat' (n d k : Nat) : HT.sIx n d (some (k : Int)) = min k n := HT.sIx_nat n d k
theorem cut_nat {α : Type} (xs : List α) (i j : Nat) : cutD xs (some (i : Int)) (some (j : Int)) = (xs.drop (min i xs.length)).take (min j xs.length - min i xs.length) := by
  unfold cutD
  rw [HT.sIx_nat, HT.sIx_nat]
theorem cut_to {α : Type} (xs : List α) (j : Nat) : cutD xs none (some (j : Int)) = xs.take j := by
  unfold cutD
  rw [HT.sIx_nat, HT.sIx_none]
  simp
theorem cut_from {α : Type} (xs : List α) (i : Nat) : cutD xs (some (i : Int)) none = xs.drop i := by
  unfold cutD
  rw [HT.sIx_nat, HT.sIx_none]
  by_cases h : i ≤ xs.length
  · rw [Nat.min_eq_left h]
    exact List.take_of_length_le (by simp)
  · rw [Nat.min_eq_right (by omega)]
    simp
    omega
theorem rangeD_nat (n : Nat) : rangeD 0 (n : Int) = (List.range n).map fun (k : Nat) => D.int k := by
  unfold rangeD
  simp
/-! ### loops -/
/-- a loop whose turns all go on; slot i apart -/
theorem forL_inv (i : Nat) (g : Env → Rs) (ds : List D) (I : Nat → Env) (h : ∀ j d, ds[j]? = some d → ∃ c', g ((I j).set i (some (.v d))) = .ok .nx c' ∧ ∀ x, c'.set i x = (I (j + 1)).set i x) :
    ∃ x, forL i g ds (I 0) = .ok .nx ((I ds.length).set i x) := by
  have self : ∀ c : Env, ∃ x, c = c.set i x := fun c => by
    by_cases hi : i < c.length
    · exact ⟨c[i], (List.set_getElem_self hi).symm⟩
    · exact ⟨none, (List.set_eq_of_length_le (by omega)).symm⟩
  have main : ∀ (n j : Nat) (c : Env), j + n = ds.length → (∃ x, c = (I j).set i x) → ∃ x, forL i g (ds.drop j) c = .ok .nx ((I ds.length).set i x) := by
    intro n
    induction n with
    | zero =>
      intro j c hj ⟨x, hc⟩
      have : j = ds.length := by omega
      subst this
      rw [List.drop_length, hc]
      exact ⟨x, rfl⟩
    | succ n ih =>
      intro j c hj ⟨x, hc⟩
      have hlt : j < ds.length := by omega
      have hd := List.getElem?_eq_getElem hlt
      rw [drop_cons hd, forL_cons]
      obtain ⟨c', h1, h2⟩ := h j _ hd
      rw [hc, List.set_set, h1]
      obtain ⟨y, hy⟩ := self c'
      exact ih (j + 1) c' (by omega) ⟨y, by rw [← h2 y]; exact hy⟩
  obtain ⟨x, hx⟩ := self (I 0)
  have := main ds.length 0 (I 0) (by omega) ⟨x, hx⟩
  simpa using this
/-- a comprehension without a test -/
theorem compL_map (g : Env → R D) (i : Nat) (c : Env) (f : D → D) : ∀ (ds : List D), (∀ d ∈ ds, g (c.set i (some (.v d))) = .ok (f d)) → compL tYes' g i c ds = .ok (ds.map f)
  | [], _ => rfl
  | d :: ds, h => by
    rw [compL_cons, tYes_def]
    simp only [noX_ok, ok_bind, if_true]
    rw [h d List.mem_cons_self, compL_map g i c f ds fun d hd => h d (List.mem_cons_of_mem _ hd)]
    rfl
/-- .. with one -/
theorem compL_filter (t : Env → R Bool) (g : Env → R D) (i : Nat) (c : Env) (p : D → Bool) (f : D → D) : ∀ (ds : List D), (∀ d ∈ ds, t (c.set i (some (.v d))) = .ok (p d)) → (∀ d ∈ ds, p d = true → g (c.set i (some (.v d))) = .ok (f d)) → compL t g i c ds = .ok ((ds.filter p).map f)
  | [], _, _ => rfl
  | d :: ds, h, k => by
    have ih := compL_filter t g i c p f ds (fun d hd => h d (List.mem_cons_of_mem _ hd)) fun d hd => k d (List.mem_cons_of_mem _ hd)
    rw [compL_cons, h d List.mem_cons_self]
    simp only [noX_ok, ok_bind]
    cases hp : p d with
    | true =>
      rw [if_pos rfl, k d List.mem_cons_self hp, ih, List.filter_cons_of_pos hp]
      rfl
    | false =>
      rw [if_neg (by decide), ih, List.filter_cons_of_neg (by simp [hp])]
end VS

/-! VS: more reckoning. -/
namespace VS
open PySem PySem.Spec PyProof.Rows L2
@[simp] theorem pln_int (n : Nat) (i : Int) : D.pln n (.int i) = true := by cases n <;> simp [D.pln]
@[simp] theorem pln_bl (n : Nat) (i : Bool) : D.pln n (.bl i) = true := by cases n <;> simp [D.pln]
@[simp] theorem pln_non (n : Nat) : D.pln n .non = true := by cases n <;> simp [D.pln]
@[simp] theorem pln_str (n : Nat) (l : List Nat) : D.pln n (.str l) = l.all (· < 0x110000) := by cases n <;> simp [D.pln]
@[simp] theorem pln_lst (n : Nat) (l : List D) : D.pln (n + 1) (.lst l) = D.plns n l := by simp [D.pln]
@[simp] theorem pln_tup (n : Nat) (l : List D) : D.pln (n + 1) (.tup l) = D.plns n l := by simp [D.pln]
@[simp] theorem eqv_int (i j : Int) : D.eqv (.int i) (.int j) = (i == j) := by simp [D.eqv]
@[simp] theorem eqv_str (i j : List Nat) : D.eqv (.str i) (.str j) = (i == j) := by simp [D.eqv]
mutual
theorem eqv_self : ∀ (n : Nat) (d : D), D.pln n d = true → D.eqv d d = true
  | n, .non, _ => by simp [D.eqv]
  | n, .bl _, _ => by simp [D.eqv]
  | n, .int _, _ => by simp [D.eqv]
  | n, .str _, _ => by simp [D.eqv]
  | 0, .tup _, h => by simp [D.pln] at h
  | 0, .lst _, h => by simp [D.pln] at h
  | n + 1, .tup ds, h => by rw [pln_tup] at h; rw [D.eqv]; exact eqvs_self n ds h
  | n + 1, .lst ds, h => by rw [pln_lst] at h; rw [D.eqv]; exact eqvs_self n ds h
  | n, .dic _ _, h => by simp [D.pln] at h
  | n, .dlk _ _, h => by simp [D.pln] at h
  | n, .ndk _ _, h => by simp [D.pln] at h
  | n, .nlk _ _, h => by simp [D.pln] at h
  | n, .rng _ _, h => by simp [D.pln] at h
  | n, .obj _ _ _, h => by simp [D.pln] at h
theorem eqvs_self : ∀ (n : Nat) (ds : List D), D.plns n ds = true → D.eqvs ds ds = true
  | n, [], _ => by simp [D.eqvs]
  | n, d :: ds, h => by
    rw [D.plns, Bool.and_eq_true] at h
    rw [D.eqvs, eqv_self n d h.1, eqvs_self n ds h.2]; rfl
end
@[simp] theorem opEq_int (i j : Int) : opEq (.int i) (.int j) = some (.bl (i == j)) := by simp [opEq]
@[simp] theorem opNe_int (i j : Int) : opNe (.int i) (.int j) = some (.bl (!(i == j))) := by simp [opNe]
@[simp] theorem opNe_bl (i j : Bool) : opNe (.bl i) (.bl j) = some (.bl (!(i == j))) := by simp [opNe, D.eqv]
@[simp] theorem opEq_bl (i j : Bool) : opEq (.bl i) (.bl j) = some (.bl (i == j)) := by simp [opEq, D.eqv]
theorem opEq_self {d : D} (h : D.pln 64 d = true) : opEq d d = some (.bl true) := by simp [opEq, h, eqv_self 64 d h]
/-- a loop all of whose turns go on -/
theorem forL_ex (i : Nat) (g : Env → Rs) (P : Nat → Env → Prop) : ∀ (ds : List D) (c : Env), (∀ j d c, ds[j]? = some d → P j c → ∃ c', g (c.set i (some (.v d))) = .ok .nx c' ∧ P (j + 1) c') → P 0 c → ∃ c', forL i g ds c = .ok .nx c' ∧ P ds.length c' := by
  intro ds c h p
  have main : ∀ (n j : Nat) (c : Env), j + n = ds.length → P j c → ∃ c', forL i g (ds.drop j) c = .ok .nx c' ∧ P ds.length c' := by
    intro n
    induction n with
    | zero =>
      intro j c hj pc
      have : j = ds.length := by omega
      subst this
      rw [List.drop_length]
      exact ⟨c, rfl, pc⟩
    | succ n ih =>
      intro j c hj pc
      have hlt : j < ds.length := by omega
      have hd := List.getElem?_eq_getElem hlt
      rw [drop_cons hd, forL_cons]
      obtain ⟨c', h1, h2⟩ := h j _ c hd pc
      rw [h1]
      exact ih (j + 1) c' (by omega) h2
  simpa using main ds.length 0 c (by omega) p
/-- .. over a range from 0 -/
theorem forL_rg (i : Nat) (g : Env → Rs) (n : Int) (P : Nat → Env → Prop) (c : Env) (h : ∀ (j : Nat) (c : Env), (j : Int) < n → P j c → ∃ c', g (c.set i (some (.v (.int (j : Int))))) = .ok .nx c' ∧ P (j + 1) c') (p : P 0 c) : ∃ c', forL i g (rangeD 0 n) c = .ok .nx c' ∧ P n.toNat c' := by
  have := forL_ex i g P (rangeD 0 n) c (fun j d c hd pc => by
    unfold rangeD at hd
    rw [List.getElem?_map] at hd
    rcases Option.map_eq_some_iff.mp hd with ⟨k, hk, rfl⟩
    rcases List.getElem?_eq_some_iff.mp hk with ⟨hl, rfl⟩
    simp at hl
    simp
    exact h j c (by omega) pc) p
  simpa [rangeD] using this
/-- a while loop all of whose turns go on; m bounds the turns left -/
theorem whileL_ex (t : Env → R Bool) (g : Env → Rs) (P : Nat → Env → Prop) (Q : Env → Prop) (h : ∀ m c, P m c → (t c = .ok false ∧ Q c) ∨ (t c = .ok true ∧ ∃ m' c', m' < m ∧ g c = .ok .nx c' ∧ P m' c')) : ∀ (f m : Nat) (c : Env), m < f → P m c → ∃ c', whileL t g f c = .ok .nx c' ∧ Q c' := by
  intro f
  induction f with
  | zero => intro m c hm; omega
  | succ f ih =>
    intro m c hm p
    rw [whileL]
    rcases h m c p with ⟨ht, q⟩ | ⟨ht, m', c', hlt, hg, p'⟩
    · rw [ht]; exact ⟨c, rfl, q⟩
    · rw [ht, st_ok, if_pos rfl, hg]
      exact ih m' c' (by omega) p'
@[simp] theorem atI_map_int (ns : List Int) (k : Nat) : atI (ns.map D.int) (k : Int) = (ns[k]?).map D.int := by
  rw [atI_ofNat, List.getElem?_map]
theorem rangeD_get {lo hi : Int} {j : Nat} (h : lo + j < hi) : (rangeD lo hi)[j]? = some (.int (lo + j)) := by
  unfold rangeD
  rw [List.getElem?_map, List.getElem?_range (by omega)]
  rfl
end VS
namespace VS
/-- what two equal plain things are, to the laws' own sameness -/
inductive Sm : Nat → D → Prop
  | non {n} : Sm n .non
  | bl {n} (t : Bool) : Sm n (.bl t)
  | int {n} (i : Int) : Sm n (.int i)
  | str {n} (l : List Nat) (h : l.all (· < 0x110000) = true) : Sm n (.str l)
  | lst {n} (ds : List D) (h : (ds.length : Int) < 4611686018427387904) (k : ∀ d ∈ ds, Sm n d) : Sm (n + 1) (.lst ds)
  | tup {n} (ds : List D) (h : (ds.length : Int) < 4611686018427387904) (k : ∀ d ∈ ds, Sm n d) : Sm (n + 1) (.tup ds)
theorem asI_small {i : Int} (h : 0 ≤ i) (k : i < 4611686018427387904) : asI (.int i) = some i := by
  rw [asI_int, if_pos ⟨by omega, by omega⟩]
theorem asI_zero : asI (.int 0) = some 0 := (rfl)
@[simp] theorem runF_def' (n : Nat) (body : Env → Rs) (ds : List D) : runF n body ds = match body (ds.map (fun d => some (O.v d)) ++ List.replicate (n - ds.length) none) with
  | .ok (.rt d) _ => .ok d
  | .ok .nx _ => .ok .non
  | .ex e _ => .ex e
  | _ => .stuck := (rfl)
@[simp] theorem asInts_ints (ns : List Int) : asInts (ns.map D.int) = some ns := by
  induction ns with
  | nil => rfl
  | cons n ns ih => rw [List.map_cons, asInts_cons, ih]; rfl
@[simp] theorem asSs_strs (ns : List (List Nat)) : asSs (ns.map D.str) = some ns := by
  induction ns with
  | nil => rfl
  | cons n ns ih => rw [List.map_cons, asSs_cons, ih]; rfl
end VS

/-! VS: a body told step by step. -/
namespace VS
open PySem PySem.Spec PyProof.Rows L2
/-- from c the text comes to its end with d -/
def Ret (g : Env → Rs) (c : Env) (d : D) : Prop := ∃ c', g c = .ok (.rt d) c'
/-- from c the text goes on at c' -/
def Nx (g : Env → Rs) (c c' : Env) : Prop := g c = .ok .nx c'
theorem ret_of {n : Nat} {body : Env → Rs} {ds : List D} {d : D} (h : Ret body (ds.map (fun d => some (O.v d)) ++ List.replicate (n - ds.length) none) d) : runF n body ds = .ok d := by
  obtain ⟨c', h⟩ := h
  rw [runF_def, h]
theorem Ret.seq {g k : Env → Rs} {c c' : Env} {d : D} (h : Nx g c c') (r : Ret k c' d) : Ret (sSeq g k) c d := by
  obtain ⟨c2, r⟩ := r
  exact ⟨c2, by rw [sSeq_def, h]; exact r⟩
theorem Ret.fst {g k : Env → Rs} {c : Env} {d : D} (r : Ret g c d) : Ret (sSeq g k) c d := by
  obtain ⟨c2, r⟩ := r
  exact ⟨c2, by rw [sSeq_def, r]⟩
theorem Ret.ret {g : Env → R D} {c : Env} {d : D} (h : g c = .ok d) : Ret (sRet g) c d := ⟨c, by rw [sRet_def, h]; rfl⟩
theorem Ret.fz {g : Env → Rs} {c : Env} {d : D} {i : Nat} (h : Ret g (fz i c) d) : Ret (sFz i g) c d := h
theorem Ret.yes {t : Env → R Bool} {g k : Env → Rs} {c : Env} {d : D} (h : t c = .ok true) (r : Ret g c d) : Ret (sIf t g k) c d := by
  obtain ⟨c2, r⟩ := r
  exact ⟨c2, by rw [sIf_def, h]; exact r⟩
theorem Ret.no {t : Env → R Bool} {g k : Env → Rs} {c : Env} {d : D} (h : t c = .ok false) (r : Ret k c d) : Ret (sIf t g k) c d := by
  obtain ⟨c2, r⟩ := r
  exact ⟨c2, by rw [sIf_def, h]; exact r⟩
theorem Nx.seq {g k : Env → Rs} {c c' c2 : Env} (h : Nx g c c') (r : Nx k c' c2) : Nx (sSeq g k) c c2 := by
  unfold Nx at *
  rw [sSeq_def, h]; exact r
theorem Nx.yes {t : Env → R Bool} {g k : Env → Rs} {c c' : Env} (h : t c = .ok true) (r : Nx g c c') : Nx (sIf t g k) c c' := by
  unfold Nx at *
  rw [sIf_def, h]; exact r
theorem Nx.no {t : Env → R Bool} {g k : Env → Rs} {c c' : Env} (h : t c = .ok false) (r : Nx k c c') : Nx (sIf t g k) c c' := by
  unfold Nx at *
  rw [sIf_def, h]; exact r
theorem Nx.nil {c : Env} : Nx sNil c c := rfl
theorem Nx.set {g : Env → R D} {c : Env} {d : D} {i : Nat} (h : g c = .ok d) : Nx (sSet i g) c (c.set i (some (.v d))) := by
  unfold Nx
  rw [sSet_def, h]; rfl
theorem Nx.setO {g : Env → R O} {c : Env} {d : O} {i : Nat} (h : g c = .ok d) : Nx (sSetO i g) c (c.set i (some d)) := by
  unfold Nx
  rw [sSetO_def, h]; rfl
theorem Nx.fz {g : Env → Rs} {c c' : Env} {i : Nat} (h : Nx g (fz i c) c') : Nx (sFz i g) c c' := h
theorem Nx.to {g : Env → Rs} {c c' c2 : Env} (h : Nx g c c') (e : c' = c2) : Nx g c c2 := e ▸ h
theorem Nx.for {i : Nat} {gs : Env → R (List D)} {g : Env → Rs} {c c' : Env} {ds : List D} (h : gs c = .ok ds) (k : forL i g ds c = .ok .nx c') : Nx (sFor i gs g) c c' := by
  unfold Nx
  rw [sFor_def, h]; exact k
theorem Nx.expr {g : Env → R D} {c : Env} {d : D} (h : g c = .ok d) : Nx (sExpr g) c c := by
  unfold Nx
  rw [sExpr_def, h]; rfl
end VS

/-! VS: several names at once; sorted texts. -/
namespace VS
open PySem PySem.Spec PyProof.Rows L2
/-! ### a, b = e -/
def setAll : List Nat → List D → Env → Env
  | i :: is, d :: ds, c => setAll is ds (c.set i (some (.v d)))
  | _, _, c => c
def sTup (is : List Nat) (g : Env → R D) : Env → Rs := fun c => (g c).st c fun d => match d with
  | .tup ds => if ds.length = is.length then .ok .nx (setAll is ds c) else .stuck
  | _ => .stuck
def gNs : List Nat → TGs
  | [] => gNil
  | i :: is => gCons (gName i) (gNs is)
theorem gNs_run {E : Wd} {B : Bs} {G H : Hp} {pn : List Nat} (P : PinOk pn B) : ∀ (is : List Nat) (ds : List D) (vs : List V) (c : Env) (σ : L2.St) (fp : List Addr) (Q : L2.St → Hp → Prop), (∀ i ∈ is, i ∉ pn) → RpL E G vs ds → ds.length = is.length → Abs E B G H c σ fp →
    (∀ σ' fp', Abs E B G H (setAll is ds c) σ' fp' → Q σ' H) → gNs is vs σ H Q
  | [], [], _, c, σ, fp, Q, _, r, _, A, q => by
    cases r
    exact ⟨rfl, q σ fp A⟩
  | [], _ :: _, _, _, _, _, _, _, _, e, _, _ => by simp at e
  | _ :: _, [], _, _, _, _, _, _, _, e, _, _ => by simp at e
  | i :: is, d :: ds, _, c, σ, fp, Q, hi, r, e, A, q => by
    cases r with
    | cons r rs =>
      obtain ⟨fr, A2⟩ := A.setV (i := i) r (P.ne (hi i List.mem_cons_self))
      exact ⟨_, _, rfl, gNs_run P is ds _ _ _ fr Q (fun j hj => hi j (List.mem_cons_of_mem _ hj)) rs (by simpa using e) A2 q⟩
section
variable {X : Cx} {W : WX} {pn : List Nat} {e : Expr} {pos : Pos}
theorem pxs_tup {es : List Expr} {k : Nat} {p : Pos} (is : List Nat) {g : Env → R D} (h : PX X W true e g) (hc : X.calm = true) (ht : PGs X es (gNs is)) (hi : ∀ i ∈ is, i ∉ pn := by decide)
    (hn : (assignEach es X.env).length = is.length := by rfl) (hst : (assignEach es X.env).findIdx? (·.1) = none := by rfl)
    (hs : swapsWithSole [.Tuple es k p] e pos.line X.env = pure false := by rfl) (hw : swappedStores [.Tuple es k p] e X.env = pure none := by rfl)
    (h1 : (assignEach [.Tuple es k p] X.env).map (·.2) = [assign (.Tuple es k p) X.env] := by rfl) : PXS X W pn (.Assign [.Tuple es k p] e pos) (sTup is g) :=
  ps_mono (ps_asg h (pg_tup hc ht hn hst) hs hw h1) fun Dn σ H ⟨B, G, c, fp, A, P, q⟩ => tx_st A q fun d e v G1 H1 s1 t1 A1 r1 q1 => by
    cases d with
    | tup ds =>
      simp only at q1
      split at q1
      · rename_i hl
        obtain ⟨a, vs, rfl, h2, r2⟩ := r1.tupH (b := true) A1.fine.le
        exact ⟨a, vs, rfl, h2, by rw [r2.length, hl], gNs_run P is ds vs c σ fp Dn.nx hi r2 hl A1 fun σ' fp' A2 => q1 σ' G1 H1 fp' (Same.refl _) A2⟩
      · exact q1.elim
    | _ => exact False.elim q1
end
@[simp] theorem sTup_def (is : List Nat) (g : Env → R D) (c : Env) : sTup is g c = (g c).st c fun d => match d with
  | .tup ds => if ds.length = is.length then .ok .nx (setAll is ds c) else .stuck
  | _ => .stuck := (rfl)
@[simp] theorem setAll_cons (i : Nat) (is : List Nat) (d : D) (ds : List D) (c : Env) : setAll (i :: is) (d :: ds) c = setAll is ds (c.set i (some (.v d))) := (rfl)
@[simp] theorem setAll_nil (c : Env) : setAll [] [] c = c := (rfl)
/-! ### sorted texts -/
theorem lt_self : ∀ x : List Nat, ltCps x x = false
  | [] => rfl
  | a :: x => by simp [ltCps, lt_self x]
theorem lt_anti : ∀ x y : List Nat, ltCps x y = false → ltCps y x = false → x = y
  | [], [], _, _ => rfl
  | [], _ :: _, h, _ => by simp [ltCps] at h
  | _ :: _, [], _, h => by simp [ltCps] at h
  | a :: x, b :: y, h, k => by
    simp [ltCps] at h k
    have e : a = b := by omega
    subst e
    rw [lt_anti x y (by simpa using h.2) (by simpa using k.2)]
theorem le_trans' : ∀ x y z : List Nat, ltCps y x = false → ltCps z y = false → ltCps z x = false
  | [], [], [], _, _ => rfl
  | [], [], _ :: _, _, _ => rfl
  | [], _ :: _, [], _, h => by simp [ltCps] at h
  | [], _ :: _, _ :: _, _, _ => rfl
  | _ :: _, [], _, h, _ => by simp [ltCps] at h
  | _ :: _, _ :: _, [], _, h => by simp [ltCps] at h
  | a :: x, b :: y, c :: z, h, k => by
    simp [ltCps] at h k ⊢
    refine ⟨by omega, fun e => ?_⟩
    subst e
    have e : b = c := by omega
    subst e
    exact le_trans' x y z (by simpa using h.2) (by simpa using k.2)
def rL : List Nat → List (List Nat) → Bool
  | _, [] => true
  | p, x :: r => !ltCps x p && rL x r
def sL : List (List Nat) → Bool
  | [] => true
  | x :: r => rL x r
theorem rL_all : ∀ (p : List Nat) (r : List (List Nat)), rL p r = true → (∀ x ∈ r, ltCps x p = false) ∧ sL r = true
  | _, [], _ => ⟨fun x h => (nomatch h), rfl⟩
  | p, x :: r, h => by
    rw [rL, Bool.and_eq_true] at h
    have ih := rL_all x r h.2
    have hx : ltCps x p = false := by simpa using h.1
    refine ⟨fun y hy => ?_, h.2⟩
    rcases List.mem_cons.mp hy with rfl | hy
    · exact hx
    · exact le_trans' p x y hx (ih.1 y hy)
theorem sL_uniq : ∀ (xs ys : List (List Nat)), xs.Perm ys → sL xs = true → sL ys = true → xs = ys
  | [], ys, h, _, _ => h.nil_eq
  | x :: xs, [], h, _, _ => h.eq_nil
  | x :: xs, y :: ys, h, hx, hy => by
    obtain ⟨a1, a2⟩ := rL_all x xs hx
    obtain ⟨b1, b2⟩ := rL_all y ys hy
    have e : x = y := by
      have m1 : y ∈ x :: xs := h.mem_iff.mpr List.mem_cons_self
      have m2 : x ∈ y :: ys := h.mem_iff.mp List.mem_cons_self
      rcases List.mem_cons.mp m1 with e | m1
      · exact e.symm
      · rcases List.mem_cons.mp m2 with e | m2
        · exact e
        · exact lt_anti x y (b1 x m2) (a1 y m1)
    subst e
    rw [sL_uniq xs ys h.cons_inv a2 b2]
open Classical in
noncomputable def sortS (xs : List (List Nat)) : List (List Nat) := if h : ∃ ys, ys.Perm xs ∧ sL ys = true then h.choose else []
theorem sortS_eq {xs ys : List (List Nat)} (h : ys.Perm xs) (k : sL ys = true) : sortS xs = ys := by
  have e : ∃ ys, ys.Perm xs ∧ sL ys = true := ⟨ys, h, k⟩
  unfold sortS
  rw [dif_pos e]
  exact sL_uniq _ _ (e.choose_spec.1.trans h.symm) e.choose_spec.2 k
theorem sortS_perm {xs ys : List (List Nat)} (h : xs.Perm ys) : sortS xs = sortS ys := by
  by_cases e : ∃ zs, zs.Perm xs ∧ sL zs = true
  · obtain ⟨zs, h1, h2⟩ := e
    rw [sortS_eq h1 h2, sortS_eq (h1.trans h) h2]
  · have e' : ¬ ∃ zs, zs.Perm ys ∧ sL zs = true := fun ⟨zs, h1, h2⟩ => e ⟨zs, h1.trans h.symm, h2⟩
    unfold sortS
    rw [dif_neg e, dif_neg e']
noncomputable def fSortS : List D → Option D
  | [.lst ds] => (asSs ds).bind fun xs => if xs.length < 64 then some (.lst ((sortS xs).map D.str)) else none
  | _ => none
theorem rS_S : ∀ (p : List Nat) (xs : List (List Nat)), risingS (S p) (xs.map S) = rL p xs
  | _, [] => rfl
  | p, x :: xs => by rw [List.map_cons, risingS, rL, rS_S x xs, S_list, S_list]
theorem sS_S (xs : List (List Nat)) : sortedS (xs.map S) = sL xs := by
  cases xs with
  | nil => rfl
  | cons x xs => exact rS_S x xs
theorem RpL.ofStr {E : Wd} {G : Hp} : ∀ xs : List (List Nat), RpL E G ((xs.map S).map V.str) (xs.map D.str)
  | [] => .nil
  | x :: xs => .cons (.str x) (RpL.ofStr xs)
variable {X : Cx} {b : Bool} in
theorem ok_sortS : CallOk ⟨X.K, X.mg, X.w⟩ (rSortedS X.K) b true fSortS := by
  intro B G H c σ fp vs ds d Q A r e p
  unfold fSortS at e
  split at e
  · obtain ⟨xs, e1, e2⟩ := Option.bind_eq_some_iff.mp e
    split at e2
    · rename_i hl
      cases e2
      obtain ⟨v, rfl, rv⟩ := r.one
      obtain ⟨a, vs, rfl, h1, r1⟩ := rv.lstH A.fine.le
      rw [asSs_rp r1 e1] at h1
      refine ⟨a, xs.map S, rfl, h1, by simpa using hl, fun ys q hp hs hq => ?_⟩
      obtain ⟨zs, rfl⟩ : ∃ zs : List (List Nat), ys = zs.map S := by
        refine ⟨ys.map fun s => s.cps.toList, ?_⟩
        rw [List.map_map]
        conv => lhs; rw [← List.map_id ys]
        refine List.map_congr_left fun y hy => ?_
        obtain ⟨x, _, rfl⟩ := List.mem_map.mp (hp.mem_iff.mp hy)
        rfl
      have hpl : zs.Perm xs := by
        have := hp.map fun s : Str => s.cps.toList
        rw [List.map_map, List.map_map] at this
        have e : ((fun s : Str => s.cps.toList) ∘ S) = id := by funext x; rfl
        rwa [e, List.map_id, List.map_id] at this
      rw [sS_S] at hs
      rw [sortS_eq hpl hs] at p
      exact p.new A hq fun s => .lst (.inl (.inl upd_same)) (RpL.ofStr _)
    · cases e2
  · cases e
@[simp] theorem fSortS_lst (ds : List D) : fSortS [.lst ds] = (asSs ds).bind fun xs => if xs.length < 64 then some (.lst ((sortS xs).map D.str)) else none := (rfl)
end VS

/-! VS: the place of a text in a list of texts. -/
namespace VS
open PySem PySem.Spec PyProof.Rows L2
def fLIx (ds : List D) : List D → Option D
  | [.str k] => (asSs ds).bind fun xs => if xs.idxOf k < xs.length then some (.int (xs.idxOf k : Nat)) else none
  | _ => none
def eLIx (g : Env → R D) (gs : Env → R (List D)) : Env → R D := fun c => g c >>= fun d => match d with
  | .lst ds => gs c >>= fun es => lift (fLIx ds es)
  | _ => .stuck
@[simp] theorem eLIx_def (g : Env → R D) (gs : Env → R (List D)) (c : Env) : eLIx g gs c = g c >>= fun d => match d with
  | .lst ds => gs c >>= fun es => lift (fLIx ds es)
  | _ => .stuck := (rfl)
theorem eqS (a b : List Nat) : eqV (.str (S a)) (.str (S b)) = (a == b) := by
  show (S a == S b) = (a == b)
  rw [Bool.eq_iff_iff, beq_iff_eq, beq_iff_eq]
  constructor
  · intro h
    have := congrArg (fun s : Str => s.cps.toList) h
    simpa using this
  · intro h; rw [h]
section
variable {X : Cx} {W : WX} {b b1 b' : Bool}
theorem px_li {o e : Expr} {es : List Expr} {g : Env → R D} {gs : Env → R (List D)} {apos cpos : Pos}
    (ho : PX X W b1 o g) (ha : PXA X W b (e :: es) gs)
    (hbase : attributeBase o "index" X.env (eval o X.env) = eval o X.env := by rfl)
    (hfew : ((backTo cpos (starEach (e :: es) X.env)).all (fun x => !x.1) && (backToKw cpos (keywordEach [] X.env)).all (fun x => x.1.isSome)
      && decide ((e :: es).length + ([] : List Keyword).length + (if ([] : List Keyword).isEmpty then 0 else 1) < 30)) = true := by rfl)
    (hline : (apos.endLine == cpos.line) = true := by rfl) (hs : starEach (e :: es) X.env = (false, eval e X.env) :: starEach es X.env := by rfl) (hplain : (backTo cpos (starEach es X.env)).any (·.1) = false := by rfl) :
    PX X W b' (.Call (.Attribute o "index" apos) (e :: es) [] cpos) (eLIx g gs) :=
  pe_mono (pe_bm PySem.F.plainAttrs_list PySem.F.slot_list_index PySem.F.type_list_index mt_index ho ha hbase hfew hline hs hplain) fun σ H Q ⟨B, G, c, fp, A, q⟩ => tx_seq A q fun d e v G1 H1 s1 t1 A1 r1 q1 => by
    cases d with
    | lst ds =>
      obtain ⟨a, vs, rfl, h2, r2⟩ := r1.lstH A1.fine.le
      refine ⟨.inl ⟨rfl, _, h2⟩, txa_seq A1 q1 fun es e2 ws G2 H2 s2 t2 A2 r3 q2 => ?_⟩
      obtain ⟨d3, e3, p3⟩ := Res.lift q2
      unfold fLIx at e3
      split at e3
      · rename_i k
        obtain ⟨xs, e4, e5⟩ := Option.bind_eq_some_iff.mp e3
        split at e5
        · rename_i hlt
          cases e5
          obtain ⟨v, rfl, rv⟩ := r3.one
          cases rv.strH
          have hv := asSs_rp r2 e4
          subst hv
          refine ⟨a, _, _, xs.idxOf k, .str (S k), rfl, rfl, Same.sqL t2 h2, rfl, by simp [flatV], ?_, by rw [eqS]; simp, ?_, ?_⟩
          · rw [List.map_map, List.getElem?_map, List.getElem?_eq_getElem hlt, List.getElem_idxOf hlt]; rfl
          · intro m z hm hz
            rw [List.map_map, List.getElem?_map] at hz
            obtain ⟨y, hy, rfl⟩ := Option.map_eq_some_iff.mp hz
            show eqV (.str (S y)) (.str (S k)) = false
            rw [eqS]
            obtain ⟨hml, rfl⟩ := List.getElem?_eq_some_iff.mp hy
            have := List.not_of_lt_findIdx (p := (· == k)) (xs := xs) (i := m) hm
            simpa using this
          · exact (p3.grow (s1.trans s2) (t1.trans t2)).here A2 (.int _)
        · cases e5
      · cases e3
    | _ => exact False.elim q1
end
end VS

/-! VS: owned dicts. -/
namespace VS
open PySem PySem.Spec PyProof.Rows L2
/-- the items, those of the key anew -/
def rep : List D → List O → Key → D → List O
  | x :: ks, o :: os, kk, d => (if D.key x = some kk then .v d else o) :: rep ks os kk d
  | _, _, _, _ => []
theorem OwnL.rep {E : Wd} {G H : Hp} {v : V} {d : D} {kk : Key} (r : Rp E G v d) : ∀ {kvs : List (Key × V)} {ks : List D} {os : List O} {fp : List Addr}, ks.map D.key = kvs.map (fun p => some p.1) → OwnL E G H (kvs.map (·.2)) os fp → fp.Nodup →
    ∃ fq, OwnL E G H ((kvs.map fun kv => if kv.1 = kk then (kv.1, v) else kv).map (·.2)) (VS.rep ks os kk d) fq ∧ fq.Nodup ∧ ∀ p ∈ fq, p ∈ fp
  | [], ks, os, fp, e, h, n => by
    cases h
    cases ks with
    | nil => exact ⟨[], .nil, List.nodup_nil, fun p hp => hp⟩
    | cons x ks => simp at e
  | (k, w) :: kvs, ks, os, fp, e, h, n => by
    cases ks with
    | nil => simp at e
    | cons x ks =>
      have e1 : D.key x = some k := by simpa using (List.cons.inj e).1
      have e2 : ks.map D.key = kvs.map (fun p => some p.1) := (List.cons.inj e).2
      cases h with
      | @cons _ _ o os f1 f2 h hs =>
        obtain ⟨n1, n2, n3⟩ := List.nodup_append.mp n
        obtain ⟨fq, k1, k2, k3⟩ := OwnL.rep r e2 hs n2
        by_cases g : k = kk
        · refine ⟨[] ++ fq, ?_, by simpa using k2, fun p hp => List.mem_append_right _ (k3 p (by simpa using hp))⟩
          rw [VS.rep, if_pos (by rw [e1, g])]
          simp only [List.map_cons, if_pos g]
          exact .cons (.v r) k1
        · refine ⟨f1 ++ fq, ?_, List.nodup_append.mpr ⟨n1, k2, fun a ha b hb => n3 a ha b (k3 b hb)⟩, fun p hp => ?_⟩
          · rw [VS.rep, if_neg (by rw [e1]; exact fun z => g (Option.some.inj z))]
            simp only [List.map_cons, if_neg g]
            exact .cons h k1
          · rcases List.mem_append.mp hp with hp | hp
            · exact List.mem_append_left _ hp
            · exact List.mem_append_right _ (k3 p hp)
def atD (i : Nat) (c : Env) : Option (List D × List O) := match c[i]? with
  | some (some (.dic ks os)) => some (ks, os)
  | _ => none
theorem atD_eq {i : Nat} {c : Env} {q : List D × List O} (h : atD i c = some q) : c[i]? = some (some (.dic q.1 q.2)) := by
  unfold atD at h
  split at h
  · cases h; assumption
  · cases h
def hasK (ks : List D) (kk : Key) : Bool := ks.any fun x => decide (D.key x = some kk)
/-- d[k] = e -/
def dPut (ks : List D) (os : List O) (k : D) (kk : Key) (d : D) : Option O :=
  if ks.length < 16777216 then some (if hasK ks kk then .dic ks (rep ks os kk d) else .dic (ks ++ [k]) (os ++ [.v d])) else none
def sDSet (i : Nat) (gi g : Env → R D) : Env → Rs := fun c => (g c).st c fun d => (lift (atD i c)).st c fun q => (gi c).st c fun k => (lift (D.key k)).st c fun kk => (lift (dPut q.1 q.2 k kk d)).st c fun o => .ok .nx (c.set i (some o))
theorem hasK_kvs {ks : List D} {kvs : List (Key × V)} (e : ks.map D.key = kvs.map (fun p => some p.1)) (kk : Key) : hasK ks kk = kvs.any fun kv => decide (kv.1 = kk) := by
  have : hasK ks kk = (ks.map D.key).any fun x => decide (x = some kk) := by unfold hasK; rw [List.any_map]; rfl
  rw [this, e, List.any_map]
  congr 1
  funext p
  simp
theorem rp_key {E : Wd} {G : Hp} {v : V} {k : D} {kk : Key} (r : Rp E G v k) (e : D.key k = some kk) : v = kV kk := by
  cases k <;> simp [D.key] at e
  · subst e; exact r.intH
  · subst e; exact r.strH
section
variable {X : Cx} {W : WX} {b : Bool} {pn : List Nat} {e : Expr} {pos : Pos}
theorem pxs_dset {x : Str} {ei : Expr} {p p2 : Pos} (i : Nat) {gi g : Env → R D} (hu : X.A.units + 1 < cLine) (h : PX X W true e g) (hi : PX X W b ei gi) (hN : X.N[i]? = some x := by rfl) (hv : Vis X.env.scope x := by first | exact Or.inl rfl | exact Or.inr (Or.inl rfl) | exact Or.inr (Or.inr rfl)) (hd : (x == ("__debug__" : Str)) = false := by decide) (hcd : (x == ("__classdict__" : Str)) = false := by decide)
    (hs : swapsWithSole [.Subscript (.Name x p) ei p2] e pos.line X.env = pure false := by rfl) (hw : swappedStores [.Subscript (.Name x p) ei p2] e X.env = pure none := by rfl)
    (h1 : (assignEach [.Subscript (.Name x p) ei p2] X.env).map (·.2) = [assign (.Subscript (.Name x p) ei p2) X.env] := by rfl)
    (ha : ∀ v, assign (.Subscript (.Name x p) ei p2) X.env v = (do
      let ov ← holding [v] (eval (.Name x p) X.env)
      let iv ← holding [v, ov] (eval ei X.env)
      standAt p2
      holding [v, ov, iv] (setItem ov iv v)
      release [v, ov, iv] []) := by intro _; rfl) : PXS X W pn (.Assign [.Subscript (.Name x p) ei p2] e pos) (sDSet i gi g) :=
  ps_mono (ps_asg h (pg_sub (pe_var hN hv hd hcd) hi (set_dict hu) ha) hs hw h1) fun Dn σ H ⟨B, G, c, fp, A, P, q⟩ => tx_st A q fun d e w G1 H1 s1 t1 A1 r1 q1 => by
    obtain ⟨⟨ks, os⟩, e0, q1⟩ := lift_st q1
    have e1 := atD_eq e0
    obtain ⟨v, fq, h1, h2, _, _, _⟩ := A1.poke e1
    cases h2 with
    | @dic a kvs _ _ fq ha hk ho =>
      refine ⟨_, h1, tx_st A1 q1 fun k e3 w2 G2 H2 s2 t2 A2 r2 q2 => ?_⟩
      obtain ⟨kk, ek, q3⟩ := lift_st q2
      obtain ⟨o, eo, q4⟩ := lift_st q3
      obtain ⟨v, fq, h1', h2, n, hin, hpk⟩ := A2.poke e1
      rw [h1] at h1'
      cases h1'
      cases h2 with
      | @dic _ kvs _ _ fq ha hk ho =>
        have hw2 := rp_key r2 ek
        have hh := hasK_kvs hk kk
        have hkl : ks.length = kvs.length := by simpa using congrArg List.length hk
        have nn := List.nodup_cons.mp n
        have ho2 := ho.upd (p := a) (u := .dK (putK kvs kk w)) nn.1
        unfold dPut at eo
        split at eo
        · rename_i hl
          cases eo
          refine ⟨a, _, rfl, .inl ⟨kvs, kk, ha, hw2, by rw [← hkl, sizeLine_eq]; exact hl, rfl⟩, ?_⟩
          cases hb : hasK ks kk with
          | true =>
            rw [hb] at q4
            have hb2 : (kvs.any fun kv => decide (kv.1 = kk)) = true := by rw [← hh]; exact hb
            have hput : putK kvs kk w = kvs.map (fun kv => if kv.1 = kk then (kv.1, w) else kv) := by unfold putK; rw [if_pos hb2]
            obtain ⟨fr, k1, k2, k3⟩ := ho2.rep (kk := kk) (r1.mono s2) hk nn.2
            have hk' : ks.map D.key = (putK kvs kk w).map (fun p => some p.1) := by
              rw [hk, hput, List.map_map]
              apply List.map_congr_left
              intro p _
              simp only [Function.comp_def]
              split <;> rfl
            rw [← hput] at k1
            obtain ⟨fp', A3⟩ := hpk List.mem_cons_self (u := .dK (putK kvs kk w)) rfl (.dic upd_same hk' k1) (List.nodup_cons.mpr ⟨fun z => nn.1 (k3 a z), k2⟩) (fun q hq => by
              rcases List.mem_cons.mp hq with z | z
              · rw [z]; exact List.mem_cons_self
              · exact List.mem_cons_of_mem _ (k3 q z))
            exact q4 σ G2 _ fp' (Same.refl _) A3
          | false =>
            rw [hb] at q4
            have hb2 : ¬ (kvs.any fun kv => decide (kv.1 = kk)) = true := by rw [← hh, hb]; exact Bool.false_ne_true
            have hput : putK kvs kk w = kvs ++ [(kk, w)] := by unfold putK; rw [if_neg hb2]
            have hk' : (ks ++ [k]).map D.key = (putK kvs kk w).map (fun p => some p.1) := by
              rw [hput, List.map_append, List.map_append, hk]
              simp [ek]
            have ho' : OwnL ⟨X.K, X.mg, X.w⟩ G2 (upd H2 a (.dK (putK kvs kk w))) ((putK kvs kk w).map (·.2)) (os ++ [.v d]) (fq ++ ([] ++ [])) := by
              rw [hput, List.map_append]
              rw [hput] at ho2
              exact ho2.append (.cons (.v (r1.mono s2)) .nil)
            obtain ⟨fp', A3⟩ := hpk List.mem_cons_self (u := .dK (putK kvs kk w)) rfl (.dic upd_same hk' ho') (by simpa using n) (fun q hq => by simpa using hq)
            exact q4 σ G2 _ fp' (Same.refl _) A3
        · cases eo
/-! ### reading -/
def dGet : List D → List O → Key → Option O
  | x :: ks, o :: os, kk => if D.key x = some kk then some o else dGet ks os kk
  | _, _, _ => none
theorem dGet_own {E : Wd} {G H : Hp} {kk : Key} : ∀ {kvs : List (Key × V)} {ks : List D} {os : List O} {fp : List Addr}, ks.map D.key = kvs.map (fun p => some p.1) → OwnL E G H (kvs.map (·.2)) os fp →
    (∀ o, dGet ks os kk = some o → ∃ v fq, valV kvs kk = some v ∧ Own E G H v o fq) ∧ (dGet ks os kk = none → valV kvs kk = none)
  | [], ks, os, fp, e, h => by
    cases h
    cases ks with
    | nil => exact ⟨fun o z => by simp [dGet] at z, fun _ => rfl⟩
    | cons x ks => simp at e
  | (k, w) :: kvs, ks, os, fp, e, h => by
    cases ks with
    | nil => simp at e
    | cons x ks =>
      have e1 : D.key x = some k := by simpa using (List.cons.inj e).1
      have e2 : ks.map D.key = kvs.map (fun p => some p.1) := (List.cons.inj e).2
      cases h with
      | @cons _ _ o os f1 f2 h hs =>
        have ih := dGet_own (kk := kk) e2 hs
        by_cases g : k = kk
        · rw [dGet, if_pos (by rw [e1, g])]
          refine ⟨fun o' z => ?_, fun z => nomatch z⟩
          cases z
          exact ⟨w, f1, valV_pos g, h⟩
        · rw [dGet, if_neg (by rw [e1]; exact fun z => g (Option.some.inj z)), valV_neg g]
          exact ih
/-- a dict at a name, owned or known -/
def atDk (i : Nat) (c : Env) : Option (List D × List O) := match c[i]? with
  | some (some (.dic ks os)) => some (ks, os)
  | some (some (.v (.dic ks ds))) => some (ks, ds.map .v)
  | some (some (.v (.dlk ks ds))) => some (ks, ds.map .v)
  | _ => none
theorem Abs.dict {E : Wd} {B : Bs} {G H : Hp} {c : Env} {σ : L2.St} {fp : List Addr} {i : Nat} {q : List D × List O} (A : Abs E B G H c σ fp) (h : atDk i c = some q) :
    ∃ a kvs fq, σ[i]? = some (some (.ref a)) ∧ Rd H a (.dK kvs) ∧ q.1.map D.key = kvs.map (fun p => some p.1) ∧ OwnL E G H (kvs.map (·.2)) q.2 fq := by
  unfold atDk at h
  split at h
  · rename_i ks os e1
    cases h
    obtain ⟨v, fq, h1, h2, _⟩ := A.cells.get e1
    cases h2 with
    | @dic a kvs _ _ fq ha hk ho => exact ⟨a, kvs, fq, h1, .inl ha, hk, ho⟩
  · rename_i ks ds e1
    cases h
    obtain ⟨v, fq, h1, h2, _⟩ := A.cells.get e1
    cases h2 with
    | v r =>
      cases r with
      | @dic a kvs _ _ hr hk ho => exact ⟨a, kvs, [], h1, Same.rd A.fine.le hr, hk, ownL_v ho⟩
  · rename_i ks ds e1
    cases h
    obtain ⟨v, fq, h1, h2, _⟩ := A.cells.get e1
    cases h2 with
    | v r =>
      cases r with
      | @dlk a o kvs _ _ hr hk ho => exact ⟨a, kvs, [], h1, .inr ⟨o, A.fine.le _ _ hr⟩, hk, ownL_v ho⟩
  · cases h
theorem dget_rd {H : Hp} {a : Addr} {kvs : List (Key × V)} {k : Key} (h : Rd H a (.dK kvs)) : DGet H a (kV k) (valV kvs k) := .inl ⟨kvs, k, h, rfl, rfl⟩
/-- d[k] of an owned dict whose items are values -/
def eDIx (i : Nat) (gk : Env → R D) : Env → R D := fun c => match atDk i c with
  | some q => gk c >>= fun k => lift (D.key k) >>= fun kk => lift ((dGet q.1 q.2 kk).bind fun o => match o with | .v d => some d | _ => none)
  | none => .stuck
theorem px_dix {x : Str} {p : Pos} (i : Nat) {eb : Expr} {gb : Env → R D} (hu : X.A.units + 1 < cLine) (hb : PX X W b eb gb) (hN : X.N[i]? = some x := by rfl) (hv : Vis X.env.scope x := by first | exact Or.inl rfl | exact Or.inr (Or.inl rfl) | exact Or.inr (Or.inr rfl)) (hd : (x == ("__debug__" : Str)) = false := by decide)
    (hcd : (x == ("__classdict__" : Str)) = false := by decide) (hs : NoSl eb := by exact fun _ _ => rfl) : PX X W true (.Subscript (.Name x p) eb pos) (eDIx i gb) :=
  pe_mono (pe_dget hu (pe_var hN hv hd hcd) hb hs) fun σ H Q ⟨B, G, c, fp, A, q⟩ => by
    unfold eDIx at q
    split at q
    · rename_i ko e0
      obtain ⟨a0, kvs0, fq0, h1, _, _, _⟩ := A.dict e0
      refine ⟨_, h1, tx_seq A q fun k e3 w G1 H1 s1 t1 A1 r1 q1 => ?_⟩
      cases hk : D.key k with
      | none => rw [hk] at q1; exact q1.elim
      | some kk =>
        rw [hk] at q1
        obtain ⟨d, e4, p4⟩ := Res.lift q1
        obtain ⟨a, kvs, fq, h1', ha, hk', ho⟩ := A1.dict e0
        rw [h1] at h1'
        cases h1'
        obtain ⟨o, e5, e6⟩ := Option.bind_eq_some_iff.mp e4
        obtain ⟨v8, f8, e9, e10⟩ := (dGet_own (kk := kk) hk' ho).1 o e5
        cases o with
        | v d' =>
          cases e6
          cases e10 with
          | v rv =>
            have hw := rp_key r1 hk
            subst hw
            exact ⟨_, v8, rfl, by rw [← e9]; exact dget_rd ha, p4 _ G1 H1 s1 t1 A1 rv⟩
        | _ => cases e6
    · exact q.elim
/-- k in d, of an owned dict -/
def eDIn (neg : Bool) (i : Nat) (gk : Env → R D) : Env → R D := fun c => match atDk i c with
  | some q => gk c >>= fun k => lift (D.key k) >>= fun kk => .ok (.bl (cond neg (!hasK q.1 kk) (hasK q.1 kk)))
  | none => .stuck
theorem TXin {i : Nat} {gb : Env → R D} {neg : Bool} {td : TE} {σ : L2.St} {H : Hp} {Q : VK} (hv : ∀ (σ : L2.St) (H : Hp) (Q : VK) (v : V), σ[i]? = some (some v) → Q v H → td σ H Q)
    (q : TX ⟨X.K, X.mg, X.w⟩ W true (eDIn neg i gb) σ H Q) : TX ⟨X.K, X.mg, X.w⟩ W b gb σ H fun y H1 => td σ H1 fun x H2 => ∃ a o, x = .ref a ∧ DGet H2 a y o ∧ Q (.bl (cond neg (!o.isSome) o.isSome)) H2 := by
  obtain ⟨B, G, c, fp, A, q⟩ := q
  unfold eDIn at q
  split at q
  · rename_i ko e0
    obtain ⟨a0, kvs0, fq0, h1, _, _, _⟩ := A.dict e0
    refine tx_seq A q fun k e3 w G1 H1 s1 t1 A1 r1 q1 => hv σ H1 _ _ h1 ?_
    cases hk : D.key k with
    | none => rw [hk] at q1; exact q1.elim
    | some kk =>
      rw [hk] at q1
      obtain ⟨a, kvs, fq, h1', ha, hk', ho⟩ := A1.dict e0
      rw [h1] at h1'
      cases h1'
      have hw := rp_key r1 hk
      subst hw
      refine ⟨_, _, rfl, dget_rd ha, ?_⟩
      rw [← valV_any, ← hasK_kvs hk' kk]
      exact q1 _ G1 H1 s1 t1 A1 (.bl _)
  · exact q.elim
theorem px_din {x : Str} {p : Pos} (i : Nat) {eb : Expr} {gb : Env → R D} (hu : X.A.units + 1 < cLine) (hb : PX X W b eb gb) (hN : X.N[i]? = some x := by rfl) (hv : Vis X.env.scope x := by first | exact Or.inl rfl | exact Or.inr (Or.inl rfl) | exact Or.inr (Or.inr rfl)) (hd : (x == ("__debug__" : Str)) = false := by decide)
    (hcd : (x == ("__classdict__" : Str)) = false := by decide) : PX X W true (.Compare eb [.In] [.Name x p] pos) (eDIn false i gb) :=
  pe_mono (pe_cmp (pc_din hu hb (pe_var hN hv hd hcd)) rfl) fun σ H Q q => TXin (neg := false) (fun σ H Q v e q => ⟨v, e, q⟩) q
theorem px_dnotin {x : Str} {p : Pos} (i : Nat) {eb : Expr} {gb : Env → R D} (hu : X.A.units + 1 < cLine) (hb : PX X W b eb gb) (hN : X.N[i]? = some x := by rfl) (hv : Vis X.env.scope x := by first | exact Or.inl rfl | exact Or.inr (Or.inl rfl) | exact Or.inr (Or.inr rfl)) (hd : (x == ("__debug__" : Str)) = false := by decide)
    (hcd : (x == ("__classdict__" : Str)) = false := by decide) : PX X W true (.Compare eb [.NotIn] [.Name x p] pos) (eDIn true i gb) :=
  pe_mono (pe_cmp (pc_dnotin hu hb (pe_var hN hv hd hcd)) rfl) fun σ H Q q => TXin (neg := true) (fun σ H Q v e q => ⟨v, e, q⟩) q
theorem pxt_din {x : Str} {p : Pos} (i : Nat) {eb : Expr} {gb : Env → R D} (hu : X.A.units + 1 < cLine) (hb : PX X W b eb gb) (hN : X.N[i]? = some x := by rfl) (hv : Vis X.env.scope x := by first | exact Or.inl rfl | exact Or.inr (Or.inl rfl) | exact Or.inr (Or.inr rfl)) (hd : (x == ("__debug__" : Str)) = false := by decide)
    (hcd : (x == ("__classdict__" : Str)) = false := by decide) : PXT X W (.Compare eb [.In] [.Name x p] pos) (eB (eDIn false i gb)) :=
  pt_mono (pt_cmp (pc_din hu hb (pe_var hN hv hd hcd)) rfl) fun σ H Q q => TXin (neg := false) (fun σ H Q v e q => ⟨v, e, q⟩) (tx_test (b := true) σ H Q q)
theorem pxt_dnotin {x : Str} {p : Pos} (i : Nat) {eb : Expr} {gb : Env → R D} (hu : X.A.units + 1 < cLine) (hb : PX X W b eb gb) (hN : X.N[i]? = some x := by rfl) (hv : Vis X.env.scope x := by first | exact Or.inl rfl | exact Or.inr (Or.inl rfl) | exact Or.inr (Or.inr rfl)) (hd : (x == ("__debug__" : Str)) = false := by decide)
    (hcd : (x == ("__classdict__" : Str)) = false := by decide) : PXT X W (.Compare eb [.NotIn] [.Name x p] pos) (eB (eDIn true i gb)) :=
  pt_mono (pt_cmp (pc_dnotin hu hb (pe_var hN hv hd hcd)) rfl) fun σ H Q q => TXin (neg := true) (fun σ H Q v e q => ⟨v, e, q⟩) (tx_test (b := true) σ H Q q)
/-! ### a new dict -/
def eDNew : Env → R O := fun _ => .ok (.dic [] [])
theorem pf_dnew : PF X W (.Dict [] [] pos) eDNew :=
  pe_mono pe_dnewK fun σ H Q ⟨B, G, c, fp, A, q⟩ => fun p hp => by
    have q' : PostF ⟨X.K, X.mg, X.w⟩ B c σ fp G H Q (.dic [] []) := q
    refine q' (.ref p) G _ [p] (Same.refl _) (same_upd hp) (A.newO hp rfl) (.dic (kvs := []) upd_same rfl .nil) (by simp) fun q hq => ?_
    have : q = p := by simpa using hq
    subst this
    exact ⟨hp, A.fine.fresh hp⟩
/-- {k: v} of constants -/
def eD1 (k d : D) : Env → R O := fun _ => .ok (.dic [k] [.v d])
theorem pf_d1 {ke ve : Expr} {k d : D} {kk : Key} {w : V} (hk : PE X ke fun _ H Q => Q (kV kk) H) (hv : PE X ve fun _ H Q => Q w H) (ek : D.key k = some kk) (hd : ∀ G : Hp, Rp ⟨X.K, X.mg, X.w⟩ G w d) : PF X W (.Dict [some ke] [ve] pos) (eD1 k d) :=
  pe_mono (pe_disp (pps_cons hk hv pps_nil) rfl rfl (by simp) (by simp)) fun σ H Q ⟨B, G, c, fp, A, q⟩ => fun p hp => by
    have q' : PostF ⟨X.K, X.mg, X.w⟩ B c σ fp G H Q (.dic [k] [.v d]) := q
    refine ⟨upd_same, [(kk, w)], rfl, by simp, ?_⟩
    have e : upd (upd H p (.dK [])) p (.dK (mergeK [] [(kk, w)])) = upd H p (.dK [(kk, w)]) := by
      funext a
      by_cases ha : a = p
      · subst ha; rw [upd_same, upd_same]; rfl
      · rw [upd_ne ha, upd_ne ha, upd_ne ha]
    rw [e]
    refine q' (.ref p) G _ [p] (Same.refl _) (same_upd hp) (A.newO hp rfl) (.dic (kvs := [(kk, w)]) upd_same (by simp [ek]) (.cons (.v (hd G)) .nil)) (by simp) fun q hq => ?_
    have : q = p := by simpa using hq
    subst this
    exact ⟨hp, A.fine.fresh hp⟩
theorem kc_int {i : Int} {j : Nat} : PE X (.Constant (.int i) j pos) fun _ H Q => Q (kV (.inl i)) H := pe_mono pe_int fun _ _ _ q => q
theorem kc_str {x : Str} {j : Nat} (l : List Nat) (h : x = S l := by decide +kernel) : PE X (.Constant (.str x) j pos) fun _ H Q => Q (kV (.inr (S l))) H := by
  subst h
  exact pe_mono pe_str fun _ _ _ q => q
theorem vc_int {i : Int} {j : Nat} : PE X (.Constant (.int i) j pos) fun _ H Q => Q (.int i) H := pe_mono pe_int fun _ _ _ q => q
theorem vc_bl {t : Bool} {j : Nat} : PE X (.Constant (.bool t) j pos) fun _ H Q => Q (.bl t) H := pe_mono pe_bl fun _ _ _ q => q
theorem vc_str {x : Str} {j : Nat} (l : List Nat) (h : x = S l := by decide +kernel) : PE X (.Constant (.str x) j pos) fun _ H Q => Q (.str (S l)) H := by
  subst h
  exact pe_mono pe_str fun _ _ _ q => q
/-! ### list(d), the keys -/
def fListD : List D → Option D
  | [.dic ks _] => some (.lst ks)
  | _ => none
theorem ok_listD : CallOk ⟨X.K, X.mg, X.w⟩ (fun xs H Q => ∃ (a : Addr) (kvs : List (Key × V)), xs = [.ref a] ∧ Rd H a (.dK kvs) ∧ ∀ p, H p = none → Q (.ref p) (upd H p (.lst (kvs.map fun kv => kV kv.1)))) b true fListD := by
  intro B G H c σ fp vs ds d Q A r e p
  unfold fListD at e
  split at e
  · cases e
    obtain ⟨v, rfl, rv⟩ := r.one
    cases rv with
    | dic h hk hr => exact ⟨_, _, rfl, Same.rd (same_vw b A.fine.le) h, fun q hq => p.new A hq fun s => .lst (.inl (.inl upd_same)) (keys_rp hk)⟩
  · cases e
/-! ### d.get(k, e) of an owned dict whose items are values -/
def eDGt (i : Nat) (gk ge : Env → R D) : Env → R D := fun c => match atDk i c with
  | some q => gk c >>= fun k => lift (D.key k) >>= fun kk => ge c >>= fun d => lift (match dGet q.1 q.2 kk with | some (.v e) => some e | some _ => none | none => some d)
  | none => .stuck
theorem px_dgt {x : Str} {p apos cpos : Pos} (i : Nat) {eb ef : Expr} {gb ge : Env → R D} (hu : X.A.units + 1 < cLine) (hb : PX X W b eb gb) (he : PX X W true ef ge) (m : M2 X (.Name x p) "get" apos eb ef cpos) (hN : X.N[i]? = some x := by rfl) (hv : Vis X.env.scope x := by first | exact Or.inl rfl | exact Or.inr (Or.inl rfl) | exact Or.inr (Or.inr rfl)) (hd : (x == ("__debug__" : Str)) = false := by decide)
    (hcd : (x == ("__classdict__" : Str)) = false := by decide) : PX X W true (.Call (.Attribute (.Name x p) "get" apos) [eb, ef] [] cpos) (eDGt i gb ge) :=
  pe_mono (pe_dget2 hu (pe_var hN hv hd hcd) hb he m) fun σ H Q ⟨B, G, c, fp, A, q⟩ => by
    unfold eDGt at q
    split at q
    · rename_i ko e0
      obtain ⟨a, kvs, fq, h1, ha, hk', ho⟩ := A.dict e0
      · refine ⟨_, h1, a, rfl, .inl ⟨kvs, ha⟩, tx_seq A q fun k e3 w G1 H1 s1 t1 A1 r1 q1 => ?_⟩
        cases hk : D.key k with
        | none => rw [hk] at q1; exact q1.elim
        | some kk =>
          rw [hk] at q1
          refine tx_seq A1 q1 fun d e4 w2 G2 H2 s2 t2 A2 r2 q2 => ?_
          obtain ⟨d3, e5, p4⟩ := Res.lift q2
          obtain ⟨a', kvs, fq, h1', ha, hk', ho⟩ := A2.dict e0
          rw [h1] at h1'
          cases h1'
          · have g := dGet_own (kk := kk) hk' ho
            have hw := rp_key r1 hk
            subst hw
            refine ⟨valV kvs kk, dget_rd ha, ?_⟩
            split at e5
            · rename_i e6
              cases e5
              obtain ⟨v8, f8, e9, e10⟩ := g.1 _ e6
              rw [e9]
              cases e10 with
              | v rv => exact p4 _ G2 H2 (s1.trans s2) (t1.trans t2) A2 rv
            · cases e5
            · rename_i e6
              cases e5
              rw [g.2 e6]
              exact p4 _ G2 H2 (s1.trans s2) (t1.trans t2) A2 r2
    · exact q.elim
end
end VS

/-! VS: a range downward. -/
namespace VS
open PySem PySem.Spec PyProof.Rows L2
def rangeN (i j : Int) : List D := (List.range (i - j).toNat).map fun (k : Nat) => .int (i + (k : Int) * (-1))
def eItN (ga gb gc : Env → R D) : Env → R (List D) := fun c => ga c >>= fun d => lift (asI d) >>= fun lo => gb c >>= fun d2 => lift (asI d2) >>= fun hi => gc c >>= fun d3 => match d3 with
  | .int s => if s = -1 then .ok (rangeN lo hi) else .stuck
  | _ => .stuck
theorem wk_rngN {E : Wd} {Hs G : Hp} {i j : Int} : Wk E (Itc i (-1) (i - j).toNat) Hs G (rangeN i j) := by
  have hl : (rangeN i j).length = (i - j).toNat := by simp [rangeN]
  refine ⟨fun k H s hk => ?_, fun k H x H' s y => ⟨y.1, fun d e => ?_⟩, fun k H s hk => ?_⟩
  · rw [hl] at hk; exact hk
  · unfold rangeN at e
    rw [List.getElem?_map] at e
    obtain ⟨m, hm, rfl⟩ := Option.map_eq_some_iff.mp e
    obtain ⟨hk, rfl⟩ := List.getElem?_eq_some_iff.mp hm
    rw [List.getElem_range, y.2]
    exact .int _
  · rw [hl] at hk; exact hk
section
variable {X : Cx} {W : WX} {b b2 b3 b' : Bool} {tg : Expr}
theorem src_rn {a a2 a3 : Expr} {ga gb gc : Env → R D} {p2 p3 : Pos} (hm : X.mg "range" = none) (h : PX X W b a ga) (h2 : PX X W b2 a2 gb) (h3 : PX X W b3 a3 gc) (hg : Gl X "range" := by rfl)
    (hs1 : starEach [a3] X.env = (false, eval a3 X.env) :: starEach [] X.env := by rfl) (hs2 : starEach [a2, a3] X.env = (false, eval a2 X.env) :: starEach [a3] X.env := by rfl)
    (hs3 : starEach [a, a2, a3] X.env = (false, eval a X.env) :: starEach [a2, a3] X.env := by rfl) (hpl : (backTo p3 (starEach [a2, a3] X.env)).any (·.1) = false := by rfl) :
    PSrc X W b' tg (.Call (.Name "range" p2) [a, a2, a3] [] p3) (iRng3 (tCons (TX ⟨X.K, X.mg, X.w⟩ W b ga) (tCons (TX ⟨X.K, X.mg, X.w⟩ W b2 gb) (tCons (TX ⟨X.K, X.mg, X.w⟩ W b3 gc) tNil)))) (eItN ga gb gc) :=
  ⟨pi_range3 hg hm (pa_cons h (pa_cons h2 (pa_cons h3 pa_nil hs1) hs2) hs3) hs3 hpl, fun {B G H c σ fp P R} A q k => by
    refine tx_seq A q fun d e v G1 H1 s1 t1 A1 r1 q1 => ?_
    cases hd : asI d with
    | none => rw [hd] at q1; exact q1.elim
    | some lo =>
      rw [hd] at q1
      obtain ⟨rfl, h1, h2⟩ := asI_rp r1 hd
      refine tx_seq A1 q1 fun d2 e2 v2 G2 H2 s2 t2 A2 r2 q2 => ?_
      cases hd2 : asI d2 with
      | none => rw [hd2] at q2; exact q2.elim
      | some hi =>
        rw [hd2] at q2
        obtain ⟨rfl, h3, h4⟩ := asI_rp r2 hd2
        refine tx_seq A2 q2 fun d3 e3 v3 G3 H3 s3 t3 A3 r3 q3 => ?_
        cases d3 with
        | int s =>
          by_cases hs : s = -1
          · subst hs
            have q4 : Res ⟨X.K, X.mg, X.w⟩ W B c σ fp G3 H3 (if (-1 : Int) = -1 then VS.R.ok (rangeN lo hi) else .stuck) P := q3
            rw [if_pos rfl] at q4
            refine ⟨lo, hi, -1, _, by rw [r3.intH], RgC.neg h1 h2 h3 h4, k _ G3 H3 _ ?_ ((s1.trans s2).trans s3) ((t1.trans t2).trans t3) A3 wk_rngN q4⟩
            unfold eItN
            rw [e]
            simp only [ok_bind, hd, lift_some, e2, hd2, e3]
            rfl
          · have q4 : Res ⟨X.K, X.mg, X.w⟩ W B c σ fp G3 H3 (if s = -1 then VS.R.ok (rangeN lo hi) else .stuck) P := q3
            rw [if_neg hs] at q4
            exact q4.elim
        | _ => exact q3.elim⟩
end
end VS

/-! VS: lists of owned lists. -/
namespace VS
open PySem PySem.Spec PyProof.Rows L2

def compLO (t : Env → R Bool) (g : Env → R O) (i : Nat) (c : Env) : List D → R (List O)
  | [] => .ok []
  | d :: ds => noX (t (c.set i (some (.v d)))) >>= fun b => if b then noX (g (c.set i (some (.v d)))) >>= fun x => compLO t g i c ds >>= fun xs => .ok (x :: xs) else compLO t g i c ds
def eLcsO (gs : Env → R (List D)) (t : Env → R Bool) (g : Env → R O) (i : Nat) : Env → R (List O) := fun c => gs c >>= fun ds => compLO t g i c ds >>= fun es => if es.length ≤ 16777216 then .ok es else .stuck
def eLcOO (gs : Env → R (List D)) (t : Env → R Bool) (g : Env → R O) (i : Nat) : Env → R O := fun c => eLcsO gs t g i c >>= fun es => .ok (.lst es)
/-- what stands between two turns of a comprehension of new things -/
structure LcAtO (E : Wd) (B : Bs) (c : Env) (σ : L2.St) (fp : List Addr) (H1 G1 : Hp) (p : Addr) (os : List O) (H : Hp) : Prop where
  ex : ∃ G' vs fq, Same G1 G' ∧ Abs E B G' H c σ fp ∧ H p = some (.lst vs) ∧ G' p = none ∧ OwnL E G' H vs os fq ∧ fq.Nodup ∧ p ∉ fq ∧ ∀ q ∈ fq, H1 q = none ∧ G' q = none
theorem OwnL.there {E : Wd} {G H : Hp} : ∀ {vs : List V} {os : List O} {fp : List Addr}, OwnL E G H vs os fp → ∀ p ∈ fp, H p ≠ none
  | _, [], _, h, p, hp => by cases h; cases hp
  | _, o :: os, _, h, p, hp => by
    cases h with
    | cons h r => exact (List.mem_append.mp hp).elim (fun z => h.there p z) fun z => r.there p z
section
variable {X : Cx} {W : WX} {pn : List Nat} {e elt : Expr} {ifs : List Expr} {pos : Pos} {wi : TI} {gs : Env → R (List D)} {t : Env → R Bool} {g : Env → R O} {i : Nat}
theorem compLO_ex : ∀ ds x (c : Env), compLO t g i c ds ≠ .ex x := by
  intro ds
  induction ds with
  | nil => intro x c z; cases z
  | cons d ds ih =>
    intro x c z
    rw [compLO] at z
    cases ht : t (c.set i (some (.v d))) with
    | ok b =>
      rw [ht] at z
      simp only [noX_ok, ok_bind] at z
      split at z
      · cases hg : g (c.set i (some (.v d))) with
        | ok y =>
          rw [hg] at z
          simp only [noX_ok, ok_bind] at z
          cases hc : compLO t g i c ds with
          | ok ys => rw [hc] at z; cases z
          | ex y => exact ih y _ hc
          | stuck => rw [hc] at z; cases z
        | ex y => rw [hg] at z; cases z
        | stuck => rw [hg] at z; cases z
      · exact ih x _ z
    | ex y => rw [ht] at z; cases z
    | stuck => rw [ht] at z; cases z
theorem tlc_ofO (K : PySem.W.Frag) (mg : Str → Option Value) (hX : X.K = K) (hmg : X.mg = mg) {tg : Expr} {b : Bool} (ha : PSrc X W b tg e wi gs) {B : Bs} {G H : Hp} {c : Env} {σ : L2.St} {fp : List Addr} {Q : VK} {P : List O → Prop} (A : Abs ⟨X.K, X.mg, X.w⟩ B G H c σ fp) (q : Res ⟨X.K, X.mg, X.w⟩ W B c σ fp G H (eLcsO gs t g i c) P)
    (k : ∀ es G1 H1 H2 p, Same G G1 → Same H H1 → Same H H2 → H p = none → p ∉ fp → B.H0 p = none → LcAtO ⟨X.K, X.mg, X.w⟩ B c σ fp H1 G1 p es H2 → P es → Q (.ref p) H2) : tLc wi (gName i) (TXT ⟨X.K, X.mg, X.w⟩ W0 t) (TF ⟨X.K, X.mg, X.w⟩ W0 g) [i] σ H Q := by
  refine ha.run (P := fun ds => Res ⟨X.K, X.mg, X.w⟩ W B c σ fp G H (compLO t g i c ds >>= fun es => if es.length ≤ 16777216 then R.ok es else .stuck) P) A ?_ fun ds G1 H1 J eds s1 t1 A1 w q1 => ?_
  · unfold eLcsO at q
    cases h : gs c with
    | ok ds => rw [h] at q; exact q
    | ex x => rw [h] at q; exact q
    | stuck => rw [h] at q; exact q
  · intro p hp
    cases hes : compLO t g i c ds with
    | stuck => rw [hes] at q1; exact q1.elim
    | ex x => exact (compLO_ex ds x c hes).elim
    | ok tot =>
      rw [hes] at q1
      by_cases hl : tot.length ≤ 16777216
      · have q2 : Res ⟨X.K, X.mg, X.w⟩ W B c σ fp G H (if tot.length ≤ 16777216 then R.ok tot else .stuck) P := q1
        rw [if_pos hl] at q2
        have pf : p ∉ fp := fun z => A1.cells.there p z hp
        have p0 : B.H0 p = none := A1.fine.there p hp
        refine ⟨fun j m H => m = ds.length - j ∧ j ≤ ds.length ∧ Same H1 (fun a => if a = p then H1 a else H a) ∧ ∃ es rest, LcAtO ⟨X.K, X.mg, X.w⟩ B c σ fp H1 G1 p es H ∧ compLO t g i c (ds.drop j) = .ok rest ∧ es ++ rest = tot,
          ⟨ds.length, by simp, Nat.zero_le _, fun a o e => ?_, [], tot, ⟨G1, [], [], Same.refl _, A1.newO hp rfl, upd_same, A1.fine.fresh hp, .nil, List.nodup_nil, (fun z => nomatch z), (fun q hq => nomatch hq)⟩, hes, rfl⟩, ?_⟩
        · have hne : a ≠ p := ne_of_none e hp
          show (if a = p then H1 a else upd H1 p (.lst []) a) = some o
          rw [if_neg hne, upd_ne hne]; exact e
        · rintro j m H2 ⟨rfl, hj, sm, es, rest, ⟨G2, vs, fq, s2, A2, hD, gD, r2, n2, d2, f2⟩, hc, htot⟩
          have ws : Same (vw b G1 H1) H2 := by
            cases b with
            | true => exact s2.trans A2.fine.le
            | false =>
              intro a o e
              have e : H1 a = some o := e
              have z := sm a o e
              have z : (if a = p then H1 a else H2 a) = some o := z
              rw [if_neg (ne_of_none e hp)] at z
              exact z
          by_cases hlt : j < ds.length
          · refine .inr ⟨w.go j H2 ws hlt, fun H' => j + 1 ≤ ds.length ∧ Same H1 (fun a => if a = p then H1 a else H' a) ∧ ∃ es rest, LcAtO ⟨X.K, X.mg, X.w⟩ B c σ fp H1 G1 p es H' ∧ compLO t g i c (ds.drop (j + 1)) = .ok rest ∧ es ++ rest = tot, fun H' ⟨h1, h2, h3⟩ => ⟨_, by omega, rfl, h1, h2, h3⟩, fun x H3 y => ?_⟩
            obtain ⟨rfl, hr⟩ := w.yl j H2 x H3 ws y
            have hd := List.getElem?_eq_getElem hlt
            rw [drop_cons hd, compLO] at hc
            obtain ⟨tb, ht, hc⟩ := bind_ok_eq hc
            have ht := noX_eq ht
            have hsig : (wipe σ [i]).set i (some x) = σ.set i (some x) := by rw [wipe1, List.set_set]
            show (fun σ2 H2 => wipe σ2 [i] = wipe σ [i] ∧ _) ((wipe σ [i]).set i (some x)) H3
            rw [hsig]
            refine ⟨by rw [wipe1, wipe1, List.set_set], ?_⟩
            obtain ⟨B', fr, A3, back⟩ := A2.enter (i := i) ((hr _ hd).mono s2)
            refine ⟨B', G2, _, fr, A3, ?_⟩
            rw [ht]
            intro G4 H4 s4 t4 A4
            have smn : ∀ {Hx Hy : Hp}, Same H1 (fun a => if a = p then H1 a else Hx a) → Same Hx Hy → Same H1 (fun a => if a = p then H1 a else Hy a) := fun {Hx Hy} h1 h2 a o e => by
              have z := h1 a o e
              by_cases hap : a = p
              · show (if a = p then H1 a else Hy a) = some o
                rw [if_pos hap]; exact e
              · have z : (if a = p then H1 a else Hx a) = some o := z
                rw [if_neg hap] at z
                show (if a = p then H1 a else Hy a) = some o
                rw [if_neg hap]; exact h2 a o z
            cases tb with
            | false =>
              rw [if_neg (by decide)]
              have hc : compLO t g i c (ds.drop (j + 1)) = .ok rest := hc
              obtain ⟨A5, gr⟩ := back G4 H4 _ _ _ s4 t4 A4
              exact ⟨hlt, smn sm t4, es, rest, ⟨G4, vs, fq, s2.trans s4, A5, t4 p _ hD, gr p (by rw [hD]; exact fun z => nomatch z) gD, r2.keep s4 (fun q hq u e => t4 q u e), n2, d2, fun q hq => ⟨(f2 q hq).1, gr q (r2.there q hq) (f2 q hq).2⟩⟩, hc, htot⟩
            | true =>
              rw [if_pos rfl]
              have hc : (noX (g (c.set i (some (.v ds[j])))) >>= fun x => compLO t g i c (ds.drop (j + 1)) >>= fun xs => R.ok (x :: xs)) = .ok rest := hc
              obtain ⟨x1, hg, hc⟩ := bind_ok_eq hc
              have hg := noX_eq hg
              obtain ⟨xs, hxs, hc⟩ := bind_ok_eq hc
              cases hc
              refine ⟨B', G4, _, fr, A4, ?_⟩
              rw [hg]
              intro v5 G5 H5 fn s5 t5 A5 w5 n5 d5
              obtain ⟨A6, gr⟩ := back G5 H5 _ _ _ (s4.trans s5) (t4.trans t5) A5
              have hD5 : H5 p = some (.lst vs) := t5 p _ (t4 p _ hD)
              have g5 : G5 p = none := gr p (by rw [hD]; exact fun z => nomatch z) gD
              have hvl : vs.length = es.length := r2.length
              have hle : es.length < tot.length := by rw [← htot]; simp
              have pn5 : p ∉ fn := fun z => by
                have := (d5 p z).1
                rw [t4 p _ hD] at this; cases this
              have h1n : ∀ q, H4 q = none → H1 q = none := fun q e => by
                cases h : H1 q with
                | none => rfl
                | some o =>
                  have z := smn sm t4 q o h
                  have z : (if q = p then H1 q else H4 q) = some o := z
                  rw [if_neg (ne_of_none h hp), e] at z
                  cases z
              have upk : ∀ {q : Addr} {u : HO}, q ≠ p → H5 q = some u → upd H5 p (.lst (vs ++ [v5])) q = some u := fun hq e => by rw [upd_ne hq]; exact e
              refine ⟨vs, hD5, by rw [hvl, sizeLine_eq]; omega, hlt, fun a o e => ?_, es ++ [x1], xs, ⟨G5, vs ++ [v5], fq ++ (fn ++ []), s2.trans (s4.trans s5), A6.pokeOut pf g5 p0 rfl, upd_same, g5, ?_, ?_, ?_, ?_⟩, hxs, by rw [← htot]; simp⟩
              · have z := smn (smn sm t4) t5 a o e
                by_cases hap : a = p
                · show (if a = p then H1 a else _) = some o
                  rw [if_pos hap]; exact e
                · have z : (if a = p then H1 a else H5 a) = some o := z
                  rw [if_neg hap] at z
                  show (if a = p then H1 a else upd H5 p _ a) = some o
                  rw [if_neg hap, upd_ne hap]; exact z
              · refine (r2.keep (s4.trans s5) fun q hq u e => upk (fun z => d2 (z ▸ hq)) (t5 q u (t4 q u e))).append (.cons ?_ .nil)
                exact w5.keep (Same.refl _) fun q hq u e => upk (fun z => pn5 (z ▸ hq)) e
              · rw [List.append_nil]
                refine List.nodup_append.mpr ⟨n2, n5, fun a ha b hb e => ?_⟩
                subst e
                have z1 := r2.there a ha
                cases hh : H3 a with
                | none => exact z1 hh
                | some o =>
                  have := (d5 a hb).1
                  rw [t4 a o hh] at this
                  cases this
              · rw [List.append_nil]
                exact fun z => (List.mem_append.mp z).elim d2 pn5
              · rw [List.append_nil]
                intro q hq
                rcases List.mem_append.mp hq with z | z
                · exact ⟨(f2 q z).1, gr q (r2.there q z) (f2 q z).2⟩
                · exact ⟨h1n q (d5 q z).1, (d5 q z).2⟩
          · have ej : j = ds.length := by omega
            subst ej
            rw [List.drop_length] at hc
            cases hc
            rw [List.append_nil] at htot
            subst htot
            have smH : Same H H2 := fun a o e => by
              have e1 := t1 a o e
              have z := sm a o e1
              have z : (if a = p then H1 a else H2 a) = some o := z
              rw [if_neg (ne_of_none e1 hp)] at z
              exact z
            exact .inl ⟨w.st _ H2 ws (Nat.le_refl _), k es G1 H1 H2 p s1 t1 smH (t1.free hp) pf p0 ⟨G2, vs, fq, s2, A2, hD, gD, r2, n2, d2, f2⟩ q2⟩
      · have q2 : Res ⟨X.K, X.mg, X.w⟩ W B c σ fp G H (if tot.length ≤ 16777216 then R.ok tot else .stuck) P := q1
        rw [if_neg hl] at q2
        exact q2.elim
theorem tlc_oo {tg : Expr} {b : Bool} (ha : PSrc X W b tg e wi gs) : ∀ σ H Q, TF ⟨X.K, X.mg, X.w⟩ W (eLcOO gs t g i) σ H Q → tLc wi (gName i) (TXT ⟨X.K, X.mg, X.w⟩ W0 t) (TF ⟨X.K, X.mg, X.w⟩ W0 g) [i] σ H Q := fun σ H Q ⟨B, G, c, fp, A, q⟩ => by
  refine tlc_ofO X.K X.mg rfl rfl ha A (P := fun es => PostF ⟨X.K, X.mg, X.w⟩ B c σ fp G H Q (.lst es)) ?_ fun es G1 H1 H2 p s1 t1 t2 hp pf p0 l q1 => ?_
  · unfold eLcOO at q
    cases h : eLcsO gs t g i c with
    | ok es => rw [h] at q; exact q
    | ex x => rw [h] at q; exact q
    | stuck => rw [h] at q; exact q
  · obtain ⟨G2, vs, fq, s2, A2, hD, gD, r2, n2, d2, f2⟩ := l
    refine q1 _ _ _ (p :: fq) (s1.trans s2) t2 A2 (.lst hD r2) (List.nodup_cons.mpr ⟨d2, n2⟩) fun a ha => ?_
    rcases List.mem_cons.mp ha with z | z
    · subst z; exact ⟨hp, gD⟩
    · exact ⟨t1.free (f2 a z).1, (f2 a z).2⟩
section
variable {x y : Str} {p py : Pos} {scope : Scope} {spos : Pos}
theorem pf_lcO (i : Nat) (hc : X.calm = true) (hN : X.N.Nodup) {b : Bool} (ha : PSrc X W b (.Name x p) e wi gs) (ok : BlkOk X.N X.env.scope scope [(x, i)])
    (hg : ∀ (s : Shared) (H : Hp) (C : Addr) (cl : List (Str × Addr)) (fp : List Addr), PG (X.blk s H scope (compEnvC scope cl C X.env) fp) (.Name x p) (gName i)) (ht : ∀ (s : Shared) (H : Hp) (C : Addr) (cl : List (Str × Addr)) (fp : List Addr), PXTs (X.blk s H scope (compEnvC scope cl C X.env) fp) ifs t)
    (he : ∀ (s : Shared) (H : Hp) (C : Addr) (cl : List (Str × Addr)) (fp : List Addr), PF (X.blk s H scope (compEnvC scope cl C X.env) fp) W0 elt g) (hs : ∀ z, foldedSetIterable e X.env z = pure z := by intro _; rfl) :
    PF X W (.ListComp elt [⟨.Name x p, e, ifs, 0⟩] scope pos) (eLcOO gs t g i) := pe_mono (pe_lc (own := [(x, i)]) (tt := TXT ⟨X.K, X.mg, X.w⟩ W0 t) (te := TF ⟨X.K, X.mg, X.w⟩ W0 g) hc hN ha.pi ok hg ht he hs) (tlc_oo ha)
theorem pxs_setLcOO (k i : Nat) (hc : X.calm = true) (hN : X.N.Nodup) (hsw : swapsWith (.ListComp elt [⟨.Name x p, e, ifs, 0⟩] scope pos) (some (.Name y py)) spos.line X.env = pure true) {b : Bool} (ha : PSrc X W b (.Name x p) e wi gs) (ok : BlkOk X.N X.env.scope scope [(x, i)])
    (hg : ∀ (s : Shared) (H : Hp) (C : Addr) (cl : List (Str × Addr)) (fp : List Addr), PG (X.blk s H scope (compEnvC scope cl C X.env) fp) (.Name x p) (gName i)) (ht : ∀ (s : Shared) (H : Hp) (C : Addr) (cl : List (Str × Addr)) (fp : List Addr), PXTs (X.blk s H scope (compEnvC scope cl C X.env) fp) ifs t)
    (he : ∀ (s : Shared) (H : Hp) (C : Addr) (cl : List (Str × Addr)) (fp : List Addr), PF (X.blk s H scope (compEnvC scope cl C X.env) fp) W0 elt g) (hy : X.N[k]? = some y := by rfl) (hyl : X.env.scope.names.lookup y = some .local := by rfl) (hi : k ∉ pn := by decide) (hs : ∀ z, foldedSetIterable e X.env z = pure z := by intro _; rfl) :
    PXS X W pn (.Assign [.Name y py] (.ListComp elt [⟨.Name x p, e, ifs, 0⟩] scope pos) spos) (sSetO k (eLcOO gs t g i)) :=
  ps_mono (ps_setLc (own := [(x, i)]) (tt := TXT ⟨X.K, X.mg, X.w⟩ W0 t) (te := TF ⟨X.K, X.mg, X.w⟩ W0 g) hc hN hy hyl hsw ha.pi ok hg ht he hs) fun Dn σ H ⟨B, G, c, fp, A, P, q⟩ => tlc_oo ha σ H _ (tf_st A q fun o e v G1 H1 fq s1 t1 A1 w n d q1 => by
    obtain ⟨fr, A2⟩ := set_fresh A1 (A.cells.there) A.fine.there w n d P hi
    exact q1 _ G1 H1 fr (Same.refl _) A2)
end
end
/-! ### x[i][j] = e -/
/-- an own list that stands in an own list -/
theorem OwnL.poke {E : Wd} {G H : Hp} : ∀ {vs : List V} {os : List O} {fp : List Addr} {j : Nat} {os2 : List O}, OwnL E G H vs os fp → fp.Nodup → os[j]? = some (.lst os2) →
    ∃ (a : Addr) (ws : List V) (f2 : List Addr), vs[j]? = some (.ref a) ∧ H a = some (.lst ws) ∧ OwnL E G H ws os2 f2 ∧ f2.Nodup ∧ a ∉ f2 ∧ (∀ p ∈ a :: f2, p ∈ fp) ∧
      ∀ {ws' : List V} {os' : List O} {f' : List Addr}, OwnL E G (L2.upd H a (.lst ws')) ws' os' f' → f'.Nodup → (∀ p ∈ f', p ∈ f2) → ∃ fq, OwnL E G (L2.upd H a (.lst ws')) vs (os.set j (.lst os')) fq ∧ fq.Nodup ∧ ∀ p ∈ fq, p ∈ fp
  | _, [], _, j, os2, h, n, e => by simp at e
  | _, o :: os, _, 0, os2, h, n, e => by
    cases h with
    | @cons v vs _ _ f1 fr h k =>
      simp at e
      subst e
      cases h with
      | @lst a ws _ f2 ha ho =>
        obtain ⟨n1, n2, n3⟩ := List.nodup_append.mp n
        have nn := List.nodup_cons.mp n1
        refine ⟨a, ws, f2, rfl, ha, ho, nn.2, nn.1, fun p hp => List.mem_append_left _ hp, fun {ws' os' f'} h' m d => ?_⟩
        have ka := k.upd (p := a) (u := .lst ws') (fun z => n3 a List.mem_cons_self a z rfl)
        have d' : ∀ p ∈ a :: f', p ∈ a :: f2 := fun p hp => (List.mem_cons.mp hp).elim (fun z => z ▸ List.mem_cons_self) fun z => List.mem_cons_of_mem _ (d p z)
        refine ⟨_, .cons (.lst upd_same h') ka, List.nodup_append.mpr ⟨List.nodup_cons.mpr ⟨fun z => nn.1 (d a z), m⟩, n2, fun p hp b hb => n3 p (d' p hp) b hb⟩, fun p hp => ?_⟩
        exact (List.mem_append.mp hp).elim (fun z => List.mem_append_left _ (d' p z)) fun z => List.mem_append_right _ z
  | _, o :: os, _, j + 1, os2, h, n, e => by
    cases h with
    | @cons v vs _ _ f1 fr h k =>
      obtain ⟨n1, n2, n3⟩ := List.nodup_append.mp n
      obtain ⟨a, ws, f2, e1, ha, ho, m2, na, hin, hp⟩ := OwnL.poke k n2 (j := j) (by simpa using e)
      refine ⟨a, ws, f2, by simpa using e1, ha, ho, m2, na, fun p hp => List.mem_append_right _ (hin p hp), fun {ws' os' f'} h' m d => ?_⟩
      obtain ⟨fq, k1, k2, k3⟩ := hp h' m d
      have hk := h.keep (H' := L2.upd H a (.lst ws')) (Same.refl _) fun q hq u e => by
        have hne : q ≠ a := fun z => n3 q hq a (hin a List.mem_cons_self) z
        rw [upd_ne hne]; exact e
      exact ⟨_, .cons hk k1, List.nodup_append.mpr ⟨n1, k2, fun p hp b hb => n3 p hp b (k3 b hb)⟩, fun p hp => (List.mem_append.mp hp).elim (fun z => List.mem_append_left _ z) fun z => List.mem_append_right _ (k3 p z)⟩
def atLL (os : List O) (j : Nat) : Option (List O) := match os[j]? with
  | some (.lst os2) => some os2
  | _ => none
theorem atLL_eq {os : List O} {j : Nat} {os2 : List O} (h : atLL os j = some os2) : os[j]? = some (.lst os2) := by
  unfold atLL at h
  split at h
  · cases h; assumption
  · cases h
def sIxSet2 (i : Nat) (gj gk g : Env → R D) : Env → Rs := fun c => (g c).st c fun d => (lift (atL i c)).st c fun os => (gj c).st c fun dj => (lift (asI dj)).st c fun ij => (lift (ixN os.length ij)).st c fun j => (lift (atLL os j)).st c fun os2 =>
  (gk c).st c fun dk => (lift (asI dk)).st c fun ik => (lift (ixN os2.length ik)).st c fun k => .ok .nx (c.set i (some (.lst (os.set j (.lst (os2.set k (.v d)))))))
section
variable {X : Cx} {W : WX} {b : Bool} {pn : List Nat} {e : Expr} {pos : Pos}
theorem pxs_ixset2 {x : Str} {ej ek : Expr} {p p1 p2 : Pos} {b1 b2 : Bool} (i : Nat) {gj gk g : Env → R D} (h : PX X W true e g) (hj : PX X W b1 ej gj) (hk : PX X W b2 ek gk) (hN : X.N[i]? = some x := by rfl) (hv : Vis X.env.scope x := by first | exact Or.inl rfl | exact Or.inr (Or.inl rfl) | exact Or.inr (Or.inr rfl)) (hd : (x == ("__debug__" : Str)) = false := by decide) (hcd : (x == ("__classdict__" : Str)) = false := by decide)
    (hpl : PlainIx ej := by exact fun _ _ => rfl)
    (hs : swapsWithSole [.Subscript (.Subscript (.Name x p) ej p1) ek p2] e pos.line X.env = pure false := by rfl) (hw : swappedStores [.Subscript (.Subscript (.Name x p) ej p1) ek p2] e X.env = pure none := by rfl)
    (h1 : (assignEach [.Subscript (.Subscript (.Name x p) ej p1) ek p2] X.env).map (·.2) = [assign (.Subscript (.Subscript (.Name x p) ej p1) ek p2) X.env] := by rfl)
    (ha : ∀ v, assign (.Subscript (.Subscript (.Name x p) ej p1) ek p2) X.env v = (do
      let ov ← holding [v] (eval (.Subscript (.Name x p) ej p1) X.env)
      let iv ← holding [v, ov] (eval ek X.env)
      standAt p2
      holding [v, ov, iv] (setItem ov iv v)
      release [v, ov, iv] []) := by intro _; rfl) : PXS X W pn (.Assign [.Subscript (.Subscript (.Name x p) ej p1) ek p2] e pos) (sIxSet2 i gj gk g) :=
  ps_mono (ps_asg h (pg_sub (pe_ix ix_list (pe_var hN hv hd hcd) hj hpl) hk set_list ha) hs hw h1) fun Dn σ H ⟨B, G, c, fp, A, P, q⟩ => tx_st A q fun d e w G1 H1 s1 t1 A1 r1 q1 => by
    obtain ⟨os, e0, q1⟩ := lift_st q1
    have e1 := atL_eq e0
    obtain ⟨v, fq, h1, h2, _, _, _⟩ := A1.poke e1
    cases h2 with
    | @lst a vs _ fq ha ho =>
      refine ⟨_, h1, tx_st A1 q1 fun dj e3 w2 G2 H2 s2 t2 A2 r2 q2 => ?_⟩
      obtain ⟨ij, ej, q3⟩ := lift_st q2
      obtain ⟨j, ej2, q3⟩ := lift_st q3
      obtain ⟨os2, e2, q3⟩ := lift_st q3
      have e2 := atLL_eq e2
      have r2 := (asI_rp r2 ej).1
      subst r2
      obtain ⟨v, fq, h1', h2, n, hin, hpk⟩ := A2.poke e1
      rw [h1] at h1'
      cases h1'
      cases h2 with
      | @lst _ vs _ fq ha ho =>
        have nn := List.nodup_cons.mp n
        have haH := ha
        obtain ⟨a2, ws, f2, y1, _, _, _, _, _, _⟩ := ho.poke nn.2 e2
        have hat : atI vs ij = some (.ref a2) := by
          unfold atI
          rw [ho.length, ej2]
          exact y1
        refine ⟨a, vs, ij, _, rfl, rfl, .inl (.inl ha), hat, tx_st A2 q3 fun dk e4 w3 G3 H3 s3 t3 A3 r3 q4 => ?_⟩
        obtain ⟨ik, ek, q4⟩ := lift_st q4
        obtain ⟨k, ek2, q4⟩ := lift_st q4
        have r3 := (asI_rp r3 ek).1
        subst r3
        obtain ⟨v, fq, h1', h2, n, hin, hpk⟩ := A3.poke e1
        rw [h1] at h1'
        cases h1'
        cases h2 with
        | @lst _ vs _ fq ha ho =>
          have nn := List.nodup_cons.mp n
          have ha' := t3 a _ haH
          obtain ⟨a3, ws, f2, y1', y2, y3, y4, y5, y6, y7⟩ := ho.poke nn.2 e2
          have : (V.ref a3) = .ref a2 := by
            rw [ha] at ha'
            cases ha'
            rw [y1] at y1'
            exact (Option.some.inj y1').symm
          cases this
          refine ⟨a2, ws, ik, k, rfl, rfl, y2, by rw [y3.length]; exact ek2, ?_⟩
          have ho2 := y3.upd (p := a2) (u := .lst (ws.set k w)) y5
          obtain ⟨fr, k1, k2, k3⟩ := ho2.setV k (r1.mono (s2.trans s3)) y4
          obtain ⟨fs, z1, z2, z3⟩ := y7 k1 k2 k3
          have hne : a ≠ a2 := fun z => nn.1 (by rw [z]; exact y6 a2 List.mem_cons_self)
          obtain ⟨fp', A4⟩ := hpk (p := a2) (List.mem_cons_of_mem _ (y6 a2 List.mem_cons_self)) (u := .lst (ws.set k w)) rfl (.lst (by rw [upd_ne hne]; exact ha) z1) (List.nodup_cons.mpr ⟨fun z => nn.1 (z3 a z), z2⟩) (fun q hq => by
            rcases List.mem_cons.mp hq with z | z
            · rw [z]; exact List.mem_cons_self
            · exact List.mem_cons_of_mem _ (z3 q z))
          exact q4 σ G3 _ fp' (Same.refl _) A4
end
/-! ### a dict of constants, and .get of a known dict -/
section
variable {X : Cx} {W : WX} {b : Bool} {pos : Pos}
theorem px_dc {keys : List (Option Expr)} {values : List Expr} {trs : List (TE × TE)} (kvs : List (Key × V)) (ks ds : List D) (h : PPs X pos keys values trs) (hc : ∀ σ H R, R (kvs.map fun kv => (kV kv.1, kv.2)) H → tPairs trs σ H R := by exact fun _ _ _ q => q)
    (hm : mergeK [] kvs = kvs := by rfl) (hk : ks.map D.key = kvs.map (fun p => some p.1) := by rfl) (hd : ∀ G : Hp, RpL ⟨X.K, X.mg, X.w⟩ G (kvs.map (·.2)) ds) (hall : keys.all (·.isSome) = true := by rfl) (hl : keys.length = values.length := by rfl) (h0 : keys ≠ [] := by simp) (h15 : keys.length ≤ 15 := by decide) (h16 : kvs.length ≤ 15 := by decide) :
    PX X W true (.Dict keys values pos) (eC (.dic ks ds)) :=
  pe_mono (pe_disp h hall hl h0 h15) fun σ H Q ⟨B, G, c, fp, A, q⟩ => fun p hp => hc _ _ _ (by
    have q' : Post ⟨X.K, X.mg, X.w⟩ B c σ fp G H true Q (.dic ks ds) := q
    refine ⟨upd_same, kvs, rfl, h16, ?_⟩
    have e : upd (upd H p (.dK [])) p (.dK (mergeK [] kvs)) = upd H p (.dK kvs) := by
      rw [hm]
      funext a
      by_cases ha : a = p
      · subst ha; rw [upd_same, upd_same]
      · rw [upd_ne ha, upd_ne ha, upd_ne ha]
    rw [e]
    exact q'.new A hp fun s => .dic (.inl upd_same) hk (hd _))
def eDGe (gd gk ge : Env → R D) : Env → R D := fun c => gd c >>= fun dd => match dd with
  | .dic ks ds => gk c >>= fun k => lift (D.key k) >>= fun kk => ge c >>= fun d => lift (match dGet ks (ds.map .v) kk with | some (.v e) => some e | some _ => none | none => some d)
  | _ => .stuck
theorem px_dge {o eb ef : Expr} {apos cpos : Pos} {gd gb ge : Env → R D} (hu : X.A.units + 1 < cLine) (hd : PX X W true o gd) (hb : PX X W b eb gb) (he : PX X W true ef ge) (m : M2 X o "get" apos eb ef cpos) : PX X W true (.Call (.Attribute o "get" apos) [eb, ef] [] cpos) (eDGe gd gb ge) :=
  pe_mono (pe_dget2 hu hd hb he m) fun σ H Q ⟨B, G, c, fp, A, q⟩ => tx_seq A q fun dd e0 v0 G0 H0 s0 t0 A0 r0 q0 => by
    cases r0 with
    | @dic a kvs ks ds hr hk' ho =>
      have q0 : Res ⟨X.K, X.mg, X.w⟩ W B c σ fp G0 H0 (gb c >>= fun k => lift (D.key k) >>= fun kk => ge c >>= fun d => lift (match dGet ks (ds.map .v) kk with | some (.v e) => some e | some _ => none | none => some d)) (Post ⟨X.K, X.mg, X.w⟩ B c σ fp G H true Q) := q0
      refine ⟨a, rfl, .inl ⟨kvs, Same.rd A0.fine.le hr⟩, tx_seq A0 q0 fun k e3 w G1 H1 s1 t1 A1 r1 q1 => ?_⟩
      cases hk : D.key k with
      | none => rw [hk] at q1; exact q1.elim
      | some kk =>
        rw [hk] at q1
        refine tx_seq A1 q1 fun d e4 w2 G2 H2 s2 t2 A2 r2 q2 => ?_
        obtain ⟨d3, e5, p4⟩ := Res.lift q2
        have g := dGet_own (E := ⟨X.K, X.mg, X.w⟩) (G := G2) (H := H2) (kk := kk) hk' (ownL_v (ho.mono (s1.trans s2)))
        have hw := rp_key r1 hk
        subst hw
        refine ⟨valV kvs kk, dget_rd (Same.rd (s1.trans (s2.trans A2.fine.le)) hr), ?_⟩
        split at e5
        · rename_i e6
          cases e5
          obtain ⟨v8, f8, e9, e10⟩ := g.1 _ e6
          rw [e9]
          cases e10 with
          | v rv => exact p4 _ G2 H2 (s0.trans (s1.trans s2)) (t0.trans (t1.trans t2)) A2 rv
        · cases e5
        · rename_i e6
          cases e5
          rw [g.2 e6]
          exact p4 _ G2 H2 (s0.trans (s1.trans s2)) (t0.trans (t1.trans t2)) A2 r2
    | _ => exact q0.elim
end
end VS

/-! VS: dicts that are locked from when they are known: walked, made by comprehensions; min of a list; xs[::-1]. -/
namespace VS
open PySem PySem.Spec PyProof.Rows L2

/-! ### locking -/
theorem ps_lockIn {X : Cx} {st : Stmt} {t : TS} (h : PS X st t) : PS X st (fun Dn σ H => t Dn σ H ∨ ∃ d u, H d = some u ∧ Mut (some u) ∧ ∀ od, t Dn σ (upd H d (.frz od u))) := by
  refine ⟨fun pins s σ H D I hw => ?_⟩
  rcases hw with hw | ⟨d, u, hd, mu, hw⟩
  · exact h.run pins s σ H D I hw
  · obtain ⟨od, I1⟩ := I.lock hd mu
    exact h.run pins s σ _ _ I1 (hw od)
theorem pe_lockOut {X : Cx} {e : Expr} {t : TE} (h : PE X e t) : PE X e (fun σ H Q => t σ H fun v H' => ∃ d u, H' d = some u ∧ Mut (some u) ∧ ∀ od, Q v (upd H' d (.frz od u))) := by
  refine ⟨fun pins s σ H Q I hw => ?_⟩
  refine thn (h.run pins s σ H _ I hw) fun v s1 ⟨x, H1, I1, r, d, u, hd, mu, q⟩ => ?_
  obtain ⟨od, I2⟩ := I1.lock hd mu
  exact ⟨x, _, I2, r, q od⟩
def vals : List O → Option (List D)
  | [] => some []
  | .v d :: os => (vals os).map (d :: ·)
  | _ :: _ => none
theorem vals_own {E : Wd} {G H : Hp} : ∀ {vs : List V} {os : List O} {fp : List Addr} {ds : List D}, OwnL E G H vs os fp → vals os = some ds → RpL E G vs ds ∧ fp = []
  | _, [], _, ds, h, e => by cases h; cases e; exact ⟨.nil, rfl⟩
  | _, .v d :: os, _, ds, h, e => by
    cases h with
    | cons h r =>
      obtain ⟨es, e1, rfl⟩ := Option.map_eq_some_iff.mp e
      obtain ⟨h1, h2⟩ := vals_own r e1
      cases h with
      | v rv => subst h2; exact ⟨.cons rv h1, rfl⟩
  | _, .lst _ :: os, _, ds, h, e => by cases e
  | _, .dic _ _ :: os, _, ds, h, e => by cases e
  | _, .ndc _ _ :: os, _, ds, h, e => by cases e
  | _, .obj _ _ _ :: os, _, ds, h, e => by cases e
def fzK (i : Nat) (c : Env) : Option Env := match c[i]? with
  | some (some (.dic ks os)) => (vals os).map fun ds => c.set i (some (.v (.dlk ks ds)))
  | _ => none
def sFzK (i : Nat) (g : Env → Rs) : Env → Rs := fun c => match fzK i c with
  | some c' => g c'
  | none => .stuck
theorem Abs.fzK {E : Wd} {B : Bs} {G H : Hp} {c c' : Env} {σ : L2.St} {fp : List Addr} (A : Abs E B G H c σ fp) (nb : ∀ a, ¬ B.br a) {i : Nat} (h : VS.fzK i c = some c') : ∃ d u, H d = some u ∧ Mut (some u) ∧ ∀ od, ∃ G' fp', Same G G' ∧ Abs E B G' (upd H d (.frz od u)) c' σ fp' := by
  unfold VS.fzK at h
  split at h
  · rename_i ks os e
    obtain ⟨ds, ev, rfl⟩ := Option.map_eq_some_iff.mp h
    obtain ⟨v, fq, h1, h2, h3, h4, h5⟩ := A.cells.poke A.nd e
    cases h2 with
    | @dic a kvs _ _ f1 ha hk ho =>
      obtain ⟨hr, rfl⟩ := vals_own ho ev
      obtain ⟨ga, a2⟩ := A.fresh a (h4 a List.mem_cons_self)
      have h0 : B.H0 a = none := a2.elim id fun z => (nb a z).elim
      refine ⟨a, _, ha, True.intro, fun od => ?_⟩
      have s : Same G (upd G a (.frz od (.dK kvs))) := same_upd ga
      have ne : ∀ b ∈ fp, b ∉ [a] → b ≠ a := fun b _ hn z => hn (by rw [z]; exact List.mem_cons_self)
      obtain ⟨fp', k1, k2, k3⟩ := h5 (G' := upd G a (.frz od (.dK kvs))) (H' := upd H a (.frz od (.dK kvs))) (o' := .v (.dlk ks ds)) (fr := []) s (fun p hp hn u e => by rw [upd_ne (ne p hp hn)]; exact e) (.v (.dlk upd_same hk (hr.mono s))) List.nodup_nil (fun p hp => nomatch hp)
      have k4 : ∀ p ∈ fp', p ∈ fp ∧ p ≠ a := fun p hp => by
        obtain ⟨z, w⟩ : p ∈ fp ∧ p ∉ [a] := (k3 p hp).elim id fun z => nomatch z
        exact ⟨z, ne p z w⟩
      refine ⟨_, fp', s, ⟨⟨fun b o e n => ?_, fun b e => ?_, fun b e1 e2 => ?_, fun b u e => ?_, fun b u e k => ?_⟩, k1, k2, fun p hp => ⟨by rw [upd_ne (k4 p hp).2]; exact (A.fresh p (k4 p hp).1).1, (A.fresh p (k4 p hp).1).2⟩, A.pin⟩⟩
      · have hb : b ≠ a := fun z => by subst z; rw [h0] at e; cases e
        rw [upd_ne hb]; exact A.fine.base b o e n
      · by_cases hb : b = a
        · rw [hb]; exact h0
        · rw [upd_ne hb] at e; exact A.fine.there b e
      · have hb : b ≠ a := fun z => e1 (by rw [z]; exact h0)
        rw [upd_ne hb]; exact A.fine.x b e1 e2
      · by_cases hb : b = a
        · subst hb; rw [upd_same] at e ⊢; exact e
        · rw [upd_ne hb] at e ⊢; exact A.fine.le b u e
      · by_cases hb : b = a
        · subst hb; rw [upd_same] at e ⊢; exact e
        · rw [upd_ne hb] at e ⊢; exact A.fine.tup b u e k
  · cases h
section
variable {X : Cx} {W : WX} {b b' b1 b2 : Bool} {pn : List Nat} {e : Expr} {pos : Pos} {g : Env → Rs}
theorem pxs_fzK {st : Stmt} (i : Nat) (h : PXS X W [] st g) : PXS X W [] st (sFzK i g) := ps_mono (ps_lockIn h) fun Dn σ H ⟨B, G, c, fp, A, P, q⟩ => by
  unfold sFzK at q
  cases hf : fzK i c with
  | none => rw [hf] at q; exact q.elim
  | some c' =>
    rw [hf] at q
    obtain ⟨d, u, hd, mu, k⟩ := A.fzK (P.2 rfl) hf
    refine .inr ⟨d, u, hd, mu, fun od => ?_⟩
    obtain ⟨G', fp', s, A'⟩ := k od
    exact ⟨B, G', c', fp', A', P, ResS.grow (r := g c') q s⟩
/-! ### {} as a known thing -/
theorem px_dnewK : PX X W true (.Dict [] [] pos) (eC (.dlk [] [])) :=
  pe_mono (pe_lockOut pe_dnewK) fun σ H Q ⟨B, G, c, fp, A, q⟩ => fun p hp => by
    have q' : Post ⟨X.K, X.mg, X.w⟩ B c σ fp G H true Q (.dlk [] []) := q
    refine ⟨p, _, upd_same, True.intro, fun od => ?_⟩
    have e : upd (upd H p (.dK [])) p (.frz od (.dK [])) = upd H p (.frz od (.dK [])) := by
      funext a
      by_cases ha : a = p
      · subst ha; rw [upd_same, upd_same]
      · rw [upd_ne ha, upd_ne ha, upd_ne ha]
    rw [e]
    exact q'.new A hp fun s => .dlk (kvs := []) upd_same rfl .nil
/-! ### for k in d -/
def eItK (g : Env → R D) : Env → R (List D) := fun c => g c >>= fun d => match d with
  | .dlk ks _ => .ok ks
  | _ => .stuck
theorem wk_keys {E : Wd} {Hs G : Hp} {a : Addr} {o : Obj} {kvs : List (Key × V)} {ks : List D} (h : Hs a = some (.frz o (.dK kvs))) (hk : ks.map D.key = kvs.map (fun p => some p.1)) : Wk E (Itk a o kvs) Hs G ks := by
  have hl : ks.length = kvs.length := by simpa using congrArg List.length hk
  refine ⟨fun j H s hj => ⟨s a _ h, by rw [← hl]; exact hj⟩, fun j H x H' s y => ⟨y.1, fun d e => ?_⟩, fun j H s hj => ⟨s a _ h, by rw [← hl]; exact hj⟩⟩
  obtain ⟨k, v, e1, rfl⟩ := y.2
  have e2 : (ks.map D.key)[j]? = some (some k) := by rw [hk, List.getElem?_map, e1]; rfl
  rw [List.getElem?_map, e] at e2
  have e2 : D.key d = some k := by simpa using e2
  cases d <;> simp [D.key] at e2
  · subst e2; exact .int _
  · subst e2; exact .str _
theorem src_keys {tg : Expr} {ga : Env → R D} (h : PX X W true e ga) : PSrc X W b tg e (iKeys (TX ⟨X.K, X.mg, X.w⟩ W true ga)) (eItK ga) :=
  ⟨pi_keys h, fun {B G H c σ fp P R} A q k => tx_seq A q fun d e0 v G1 H1 s1 t1 A1 r1 q1 => by
    cases r1 with
    | @dlk a o kvs ks ds hr hk ho =>
      have hr : G1 a = some (.frz o (.dK kvs)) := hr
      have hh := A1.fine.le a _ hr
      refine ⟨a, o, rfl, .inl ⟨kvs, hh, k ks G1 H1 _ (by unfold eItK; rw [e0]; rfl) s1 t1 A1 (wk_keys ?_ hk) q1⟩⟩
      cases b with
      | true => exact hr
      | false => exact hh
    | _ => exact q1.elim⟩
/-! ### e[k], e a known dict -/
def dkv : D → Option (List D × List D)
  | .dic ks ds => some (ks, ds)
  | .dlk ks ds => some (ks, ds)
  | _ => none
theorem dkv_rp {E : Wd} {G : Hp} {v : V} {d : D} {q : List D × List D} (r : Rp E G v d) (h : dkv d = some q) : ∃ a kvs, v = .ref a ∧ Rd G a (.dK kvs) ∧ q.1.map D.key = kvs.map (fun p => some p.1) ∧ RpL E G (kvs.map (·.2)) q.2 := by
  cases r <;> simp [dkv] at h
  · subst h; exact ⟨_, _, rfl, ‹_›, ‹_›, ‹_›⟩
  · rename_i hr hk ho; subst h; exact ⟨_, _, rfl, .inr ⟨_, hr⟩, hk, ho⟩
def eDIxE (ga gk : Env → R D) : Env → R D := fun c => ga c >>= fun d => lift (dkv d) >>= fun q => gk c >>= fun k => lift (D.key k) >>= fun kk => lift ((dGet q.1 (q.2.map .v) kk).bind fun o => match o with | .v d => some d | _ => none)
theorem px_dixE {o eb : Expr} {ga gb : Env → R D} (hu : X.A.units + 1 < cLine) (ha : PX X W true o ga) (hb : PX X W b eb gb) (hs : NoSl eb := by exact fun _ _ => rfl) : PX X W true (.Subscript o eb pos) (eDIxE ga gb) :=
  pe_mono (pe_dget hu ha hb hs) fun σ H Q ⟨B, G, c, fp, A, q⟩ => tx_seq A q fun d0 e0 v0 G0 H0 s0 t0 A0 r0 q0 => by
    cases hd : dkv d0 with
    | none => rw [hd] at q0; exact q0.elim
    | some q' =>
      rw [hd] at q0
      obtain ⟨a, kvs, rfl, hr, hk', ho⟩ := dkv_rp (show Rp _ G0 v0 d0 from r0) hd
      refine tx_seq A0 q0 fun k e3 w G1 H1 s1 t1 A1 r1 q1 => ?_
      cases hk : D.key k with
      | none => rw [hk] at q1; exact q1.elim
      | some kk =>
        rw [hk] at q1
        obtain ⟨d, e4, p4⟩ := Res.lift q1
        obtain ⟨o, e5, e6⟩ := Option.bind_eq_some_iff.mp e4
        obtain ⟨v8, f8, e9, e10⟩ := (dGet_own (E := ⟨X.K, X.mg, X.w⟩) (G := G1) (H := H1) (kk := kk) hk' (ownL_v (ho.mono s1))).1 o e5
        cases o with
        | v d' =>
          cases e6
          cases e10 with
          | v rv =>
            have hw := rp_key r1 hk
            subst hw
            exact ⟨_, v8, rfl, by rw [← e9]; exact dget_rd (Same.rd (s1.trans A1.fine.le) hr), p4 _ G1 H1 (s0.trans s1) (t0.trans t1) A1 rv⟩
        | _ => cases e6
/-! ### min of a list of ints -/
def minI : List Int → Option Int
  | [] => none
  | i :: is => some (is.foldl min i)
theorem foldl_min : ∀ (is : List Int) (i : Int), (is.foldl min i ∈ i :: is) ∧ ∀ y ∈ i :: is, is.foldl min i ≤ y
  | [], i => ⟨by simp, fun y hy => by rw [List.mem_singleton.mp hy]; exact Int.le_refl _⟩
  | j :: is, i => by
    obtain ⟨h1, h2⟩ := foldl_min is (min i j)
    refine ⟨?_, fun y hy => ?_⟩
    · show (is.foldl min (min i j)) ∈ _
      rcases List.mem_cons.mp h1 with h | h
      · rw [h]
        rcases Int.min_def i j ▸ (by split <;> simp : (if i ≤ j then i else j) = i ∨ (if i ≤ j then i else j) = j) with z | z
        · rw [show min i j = i from (Int.min_def i j).trans z]; exact List.mem_cons_self
        · rw [show min i j = j from (Int.min_def i j).trans z]; exact List.mem_cons_of_mem _ List.mem_cons_self
      · exact List.mem_cons_of_mem _ (List.mem_cons_of_mem _ h)
    · show is.foldl min (min i j) ≤ y
      have h0 := h2 _ List.mem_cons_self
      rcases List.mem_cons.mp hy with h | h
      · subst h; omega
      · rcases List.mem_cons.mp h with h | h
        · subst h; omega
        · exact h2 y (List.mem_cons_of_mem _ h)
def fMinL : List D → Option D
  | [.lst ds] => (asInts ds).bind fun ns => (minI ns).map .int
  | _ => none
theorem ok_minL : CallOk ⟨X.K, X.mg, X.w⟩ (rMin X.K) b true fMinL := by
  intro B G H c σ fp vs ds d Q A r e p
  unfold fMinL at e
  split at e
  · rename_i ds
    obtain ⟨ns, e1, e2⟩ := Option.bind_eq_some_iff.mp e
    obtain ⟨m, e3, rfl⟩ := Option.map_eq_some_iff.mp e2
    obtain ⟨v, rfl, rv⟩ := r.one
    obtain ⟨a, vs, rfl, h1, r1⟩ := rv.lstH A.fine.le
    have hv : vs = ns.map V.int := asInts_rp r1 e1
    subst hv
    cases ns with
    | nil => cases e3
    | cons i is =>
      cases e3
      obtain ⟨f1, f2⟩ := foldl_min is i
      refine ⟨a, i :: is, rfl, h1, by simp, fun m hm hle => ?_⟩
      have : m = is.foldl min i := Int.le_antisymm (hle _ f1) (f2 m hm)
      subst this
      exact p.here A (.int _)
  · cases e
/-! ### e[::-1] -/
def eRev (ga : Env → R D) : Env → R D := fun c => ga c >>= fun d => match d with
  | .lst ds => .ok (.lst ds.reverse)
  | _ => .stuck
theorem px_revL {ga : Env → R D} {k : Nat} {p1 p2 p3 : Pos} (h : PX X W true e ga) : PX X W true (.Subscript e (.Slice none none (some (.UnaryOp .USub (.Constant (.int 1) k p1) p2)) p3) pos) (eRev ga) :=
  pe_mono (pe_revL h) fun σ H Q ⟨B, G, c, fp, A, q⟩ => tx_seq A q fun d e0 v G1 H1 s1 t1 A1 r1 q1 => by
    cases r1 with
    | @lst a vs ds hs r =>
      have q1 : Post ⟨X.K, X.mg, X.w⟩ B c σ fp G H true Q (.lst ds.reverse) := q1
      exact ⟨a, vs, rfl, Same.sqL A1.fine.le hs, fun p hp => (q1.grow s1 t1).new A1 hp fun s => .lst (.inl (.inl upd_same)) (RpL.reverse (r.mono s))⟩
    | _ => exact q1.elim
end
end VS

/-! VS: dict comprehensions. -/
namespace VS
open PySem PySem.Spec PyProof.Rows L2
def compD (t : Env → R Bool) (gk gv : Env → R D) (i : Nat) (c : Env) : List D → List D × List O → R (List D × List O)
  | [], a => .ok a
  | d :: ds, a => noX (t (c.set i (some (.v d)))) >>= fun b => if b then noX (gk (c.set i (some (.v d)))) >>= fun k => lift (D.key k) >>= fun kk => noX (gv (c.set i (some (.v d)))) >>= fun x =>
      if a.1.length < 16777216 then compD t gk gv i c ds (if hasK a.1 kk then (a.1, rep a.1 a.2 kk x) else (a.1 ++ [k], a.2 ++ [.v x])) else .stuck
    else compD t gk gv i c ds a
def eDcO (gs : Env → R (List D)) (t : Env → R Bool) (gk gv : Env → R D) (i : Nat) : Env → R O := fun c => gs c >>= fun ds => compD t gk gv i c ds ([], []) >>= fun a => .ok (.dic a.1 a.2)
/-- what stands between two turns -/
structure DcAt (E : Wd) (B : Bs) (c : Env) (σ : L2.St) (fp : List Addr) (G1 : Hp) (p : Addr) (a : List D × List O) (H : Hp) : Prop where
  ex : ∃ G' kvs, Same G1 G' ∧ Abs E B G' H c σ fp ∧ H p = some (.dK kvs) ∧ G' p = none ∧ a.1.map D.key = kvs.map (fun p => some p.1) ∧ OwnL E G' H (kvs.map (·.2)) a.2 []
section
variable {X : Cx} {W : WX} {pn : List Nat} {e kx vx : Expr} {ifs : List Expr} {pos : Pos} {wi : TI} {gs : Env → R (List D)} {t : Env → R Bool} {gk gv : Env → R D} {i : Nat}
theorem compD_ex : ∀ ds x a (c : Env), compD t gk gv i c ds a ≠ .ex x := by
  intro ds
  induction ds with
  | nil => intro x a c z; cases z
  | cons d ds ih =>
    intro x a c z
    rw [compD] at z
    cases ht : t (c.set i (some (.v d))) with
    | ok b =>
      rw [ht] at z
      simp only [noX_ok, ok_bind] at z
      split at z
      · cases hg : gk (c.set i (some (.v d))) with
        | ok y =>
          rw [hg] at z
          simp only [noX_ok, ok_bind] at z
          cases hk : D.key y with
          | none => rw [hk] at z; cases z
          | some kk =>
            rw [hk] at z
            simp only [lift_some, ok_bind] at z
            cases hv : gv (c.set i (some (.v d))) with
            | ok w =>
              rw [hv] at z
              simp only [noX_ok, ok_bind] at z
              by_cases hl : a.1.length < 16777216
              · rw [if_pos hl] at z; exact ih x _ _ z
              · rw [if_neg hl] at z; cases z
            | ex y => rw [hv] at z; cases z
            | stuck => rw [hv] at z; cases z
        | ex y => rw [hg] at z; cases z
        | stuck => rw [hg] at z; cases z
      · exact ih x _ _ z
    | ex y => rw [ht] at z; cases z
    | stuck => rw [ht] at z; cases z
theorem tdc_of (K : PySem.W.Frag) (mg : Str → Option Value) (hX : X.K = K) (hmg : X.mg = mg) {tg : Expr} {b bk : Bool} (ha : PSrc X W b tg e wi gs) {B : Bs} {G H : Hp} {c : Env} {σ : L2.St} {fp : List Addr} {Q : VK} (A : Abs ⟨X.K, X.mg, X.w⟩ B G H c σ fp) (q : Res ⟨X.K, X.mg, X.w⟩ W B c σ fp G H (eDcO gs t gk gv i c) (PostF ⟨X.K, X.mg, X.w⟩ B c σ fp G H Q)) :
    tDc wi (gName i) (TXT ⟨X.K, X.mg, X.w⟩ W0 t) (TX ⟨X.K, X.mg, X.w⟩ W0 bk gk) (TX ⟨X.K, X.mg, X.w⟩ W0 true gv) [i] σ H Q := by
  refine ha.run (P := fun ds => Res ⟨X.K, X.mg, X.w⟩ W B c σ fp G H (compD t gk gv i c ds ([], []) >>= fun a => R.ok (O.dic a.1 a.2)) (PostF ⟨X.K, X.mg, X.w⟩ B c σ fp G H Q)) A ?_ fun ds G1 H1 J eds s1 t1 A1 w q1 => ?_
  · unfold eDcO at q
    cases h : gs c with
    | ok ds => rw [h] at q; exact q
    | ex x => rw [h] at q; exact q
    | stuck => rw [h] at q; exact q
  · intro p hp
    cases hes : compD t gk gv i c ds ([], []) with
    | stuck => rw [hes] at q1; exact q1.elim
    | ex x => exact (compD_ex ds x _ c hes).elim
    | ok tot =>
      rw [hes] at q1
      have q2 : PostF ⟨X.K, X.mg, X.w⟩ B c σ fp G H Q (.dic tot.1 tot.2) := q1
      have pf : p ∉ fp := fun z => A1.cells.there p z hp
      have p0 : B.H0 p = none := A1.fine.there p hp
      refine ⟨fun j m H => m = ds.length - j ∧ j ≤ ds.length ∧ Same H1 (fun a => if a = p then H1 a else H a) ∧ ∃ a, DcAt ⟨X.K, X.mg, X.w⟩ B c σ fp G1 p a H ∧ compD t gk gv i c (ds.drop j) a = .ok tot,
        ⟨ds.length, by simp, Nat.zero_le _, fun a o e => ?_, ([], []), ⟨G1, [], Same.refl _, A1.newO hp rfl, upd_same, A1.fine.fresh hp, rfl, .nil⟩, hes⟩, ?_⟩
      · have hne : a ≠ p := ne_of_none e hp
        show (if a = p then H1 a else upd H1 p (.dK []) a) = some o
        rw [if_neg hne, upd_ne hne]; exact e
      · rintro j m H2 ⟨rfl, hj, sm, a, ⟨G2, kvs, s2, A2, hD, gD, hkk, r2⟩, hc⟩
        have ws : Same (vw b G1 H1) H2 := by
          cases b with
          | true => exact s2.trans A2.fine.le
          | false =>
            intro a o e
            have e : H1 a = some o := e
            have z := sm a o e
            have z : (if a = p then H1 a else H2 a) = some o := z
            rw [if_neg (ne_of_none e hp)] at z
            exact z
        by_cases hlt : j < ds.length
        · refine .inr ⟨w.go j H2 ws hlt, fun H' => j + 1 ≤ ds.length ∧ Same H1 (fun a => if a = p then H1 a else H' a) ∧ ∃ a, DcAt ⟨X.K, X.mg, X.w⟩ B c σ fp G1 p a H' ∧ compD t gk gv i c (ds.drop (j + 1)) a = .ok tot, fun H' ⟨h1, h2, h3⟩ => ⟨_, by omega, rfl, h1, h2, h3⟩, fun x H3 y => ?_⟩
          obtain ⟨rfl, hr⟩ := w.yl j H2 x H3 ws y
          have hd := List.getElem?_eq_getElem hlt
          rw [drop_cons hd, compD] at hc
          obtain ⟨tb, ht, hc⟩ := bind_ok_eq hc
          have ht := noX_eq ht
          have hsig : (wipe σ [i]).set i (some x) = σ.set i (some x) := by rw [wipe1, List.set_set]
          show (fun σ2 H2 => wipe σ2 [i] = wipe σ [i] ∧ _) ((wipe σ [i]).set i (some x)) H3
          rw [hsig]
          refine ⟨by rw [wipe1, wipe1, List.set_set], ?_⟩
          obtain ⟨B', fr, A3, back⟩ := A2.enter (i := i) ((hr _ hd).mono s2)
          refine ⟨B', G2, _, fr, A3, ?_⟩
          rw [ht]
          intro G4 H4 s4 t4 A4
          have smn : ∀ {Hx Hy : Hp}, Same H1 (fun a => if a = p then H1 a else Hx a) → Same Hx Hy → Same H1 (fun a => if a = p then H1 a else Hy a) := fun {Hx Hy} h1 h2 a o e => by
            have z := h1 a o e
            by_cases hap : a = p
            · show (if a = p then H1 a else Hy a) = some o
              rw [if_pos hap]; exact e
            · have z : (if a = p then H1 a else Hx a) = some o := z
              rw [if_neg hap] at z
              show (if a = p then H1 a else Hy a) = some o
              rw [if_neg hap]; exact h2 a o z
          cases tb with
          | false =>
            rw [if_neg (by decide)]
            have hc : compD t gk gv i c (ds.drop (j + 1)) a = .ok tot := hc
            obtain ⟨A5, gr⟩ := back G4 H4 _ _ _ s4 t4 A4
            exact ⟨hlt, smn sm t4, a, ⟨G4, kvs, s2.trans s4, A5, t4 p _ hD, gr p (by rw [hD]; exact fun z => nomatch z) gD, hkk, r2.keep s4 (fun q hq => nomatch hq)⟩, hc⟩
          | true =>
            rw [if_pos rfl]
            have hc : (noX (gk (c.set i (some (.v ds[j])))) >>= fun k => lift (D.key k) >>= fun kk => noX (gv (c.set i (some (.v ds[j])))) >>= fun x =>
              if a.1.length < 16777216 then compD t gk gv i c (ds.drop (j + 1)) (if hasK a.1 kk then (a.1, rep a.1 a.2 kk x) else (a.1 ++ [k], a.2 ++ [.v x])) else .stuck) = .ok tot := hc
            obtain ⟨k1, hg, hc⟩ := bind_ok_eq hc
            have hg := noX_eq hg
            cases hkey : D.key k1 with
            | none => rw [hkey] at hc; cases hc
            | some kk =>
              rw [hkey] at hc
              have hc : (noX (gv (c.set i (some (.v ds[j])))) >>= fun x =>
                if a.1.length < 16777216 then compD t gk gv i c (ds.drop (j + 1)) (if hasK a.1 kk then (a.1, rep a.1 a.2 kk x) else (a.1 ++ [k1], a.2 ++ [.v x])) else .stuck) = .ok tot := hc
              obtain ⟨x1, hv, hc⟩ := bind_ok_eq hc
              have hv := noX_eq hv
              by_cases hl : a.1.length < 16777216
              · rw [if_pos hl] at hc
                refine ⟨B', G4, _, fr, A4, ?_⟩
                rw [hg]
                intro y5 G5 H5 s5 t5 A5 r5
                refine ⟨B', G5, _, fr, A5, ?_⟩
                rw [hv]
                intro v6 G6 H6 s6 t6 A6 r6
                obtain ⟨A7, gr⟩ := back G6 H6 _ _ _ (s4.trans (s5.trans s6)) (t4.trans (t5.trans t6)) A6
                have hD6 : H6 p = some (.dK kvs) := t6 p _ (t5 p _ (t4 p _ hD))
                have g6 : G6 p = none := gr p (by rw [hD]; exact fun z => nomatch z) gD
                have hy := rp_key r5 hkey
                have hll : a.1.length = kvs.length := by simpa using congrArg List.length hkk
                have hh := hasK_kvs hkk kk
                have r3 : OwnL ⟨X.K, X.mg, X.w⟩ G6 (upd H6 p (.dK (putK kvs kk v6))) (kvs.map (·.2)) a.2 [] := r2.keep (s4.trans (s5.trans s6)) (fun q hq => nomatch hq)
                refine ⟨kvs, kk, hy, hD6, by rw [← hll, sizeLine_eq]; exact hl, hlt, fun a' o e => ?_, _, ⟨G6, putK kvs kk v6, s2.trans (s4.trans (s5.trans s6)), A7.pokeOut pf g6 p0 rfl, upd_same, g6, ?_⟩, hc⟩
                · have z := smn (smn (smn sm t4) t5) t6 a' o e
                  by_cases hap : a' = p
                  · show (if a' = p then H1 a' else _) = some o
                    rw [if_pos hap]; exact e
                  · have z : (if a' = p then H1 a' else H6 a') = some o := z
                    rw [if_neg hap] at z
                    show (if a' = p then H1 a' else upd H6 p _ a') = some o
                    rw [if_neg hap, upd_ne hap]; exact z
                · cases hb : hasK a.1 kk with
                  | true =>
                    rw [if_pos rfl]
                    have hb2 : (kvs.any fun kv => decide (kv.1 = kk)) = true := by rw [← hh]; exact hb
                    have hput : putK kvs kk v6 = kvs.map (fun kv => if kv.1 = kk then (kv.1, v6) else kv) := by unfold putK; rw [if_pos hb2]
                    obtain ⟨fr', z1, z2, z3⟩ := r3.rep (kk := kk) r6 hkk List.nodup_nil
                    have hf : fr' = [] := List.eq_nil_iff_forall_not_mem.mpr fun q hq => nomatch z3 q hq
                    subst hf
                    rw [← hput] at z1
                    refine ⟨?_, z1⟩
                    show a.1.map D.key = _
                    rw [hkk, hput, List.map_map]
                    apply List.map_congr_left
                    intro p _
                    simp only [Function.comp_def]
                    split <;> rfl
                  | false =>
                    rw [if_neg (by decide)]
                    have hb2 : ¬ (kvs.any fun kv => decide (kv.1 = kk)) = true := by rw [← hh, hb]; exact Bool.false_ne_true
                    have hput : putK kvs kk v6 = kvs ++ [(kk, v6)] := by unfold putK; rw [if_neg hb2]
                    refine ⟨?_, ?_⟩
                    · show (a.1 ++ [k1]).map D.key = _
                      rw [hput, List.map_append, List.map_append, hkk]
                      simp [hkey]
                    · show OwnL _ _ _ _ (a.2 ++ [.v x1]) ([] ++ ([] ++ []))
                      have r3' := r3
                      rw [hput] at r3'
                      rw [hput, List.map_append]
                      exact r3'.append (.cons (.v r6) .nil)
              · rw [if_neg hl] at hc; cases hc
        · have ej : j = ds.length := by omega
          subst ej
          rw [List.drop_length] at hc
          cases hc
          have smH : Same H H2 := fun a o e => by
            have e1 := t1 a o e
            have z := sm a o e1
            have z : (if a = p then H1 a else H2 a) = some o := z
            rw [if_neg (ne_of_none e1 hp)] at z
            exact z
          refine .inl ⟨w.st _ H2 ws (Nat.le_refl _), q2 _ G2 H2 [p] (s1.trans s2) smH A2 (.dic hD hkk r2) (by simp) fun a' ha' => ?_⟩
          have : a' = p := by simpa using ha'
          subst this
          exact ⟨t1.free hp, gD⟩
section
variable {x y : Str} {p py : Pos} {scope : Scope} {spos : Pos}
theorem pf_dc (i : Nat) (hc : X.calm = true) (hN : X.N.Nodup) {b bk : Bool} (ha : PSrc X W b (.Name x p) e wi gs) (ok : BlkOk X.N X.env.scope scope [(x, i)])
    (hg : ∀ (s : Shared) (H : Hp) (C : Addr) (cl : List (Str × Addr)) (fp : List Addr), PG (X.blk s H scope (compEnvC scope cl C X.env) fp) (.Name x p) (gName i)) (ht : ∀ (s : Shared) (H : Hp) (C : Addr) (cl : List (Str × Addr)) (fp : List Addr), PXTs (X.blk s H scope (compEnvC scope cl C X.env) fp) ifs t)
    (hk : ∀ (s : Shared) (H : Hp) (C : Addr) (cl : List (Str × Addr)) (fp : List Addr), PX (X.blk s H scope (compEnvC scope cl C X.env) fp) W0 bk kx gk)
    (he : ∀ (s : Shared) (H : Hp) (C : Addr) (cl : List (Str × Addr)) (fp : List Addr), PX (X.blk s H scope (compEnvC scope cl C X.env) fp) W0 true vx gv) (hs : ∀ z, foldedSetIterable e X.env z = pure z := by intro _; rfl) :
    PF X W (.DictComp kx vx [⟨.Name x p, e, ifs, 0⟩] scope pos) (eDcO gs t gk gv i) := pe_mono (pe_dc (own := [(x, i)]) (tt := TXT ⟨X.K, X.mg, X.w⟩ W0 t) (tk := TX ⟨X.K, X.mg, X.w⟩ W0 bk gk) (tv := TX ⟨X.K, X.mg, X.w⟩ W0 true gv) hc hN ha.pi ok hg ht hk he hs) fun σ H Q ⟨B, G, c, fp, A, q⟩ => tdc_of X.K X.mg rfl rfl ha A q
end
end
end VS
namespace L2
open PySem PySem.Spec PyProof.Rows
section
variable {X : Cx}
/-- name = {..} on one line, the name a local -/
theorem ps_setDc {i : Nat} {y : Str} {py : Pos} {kx vx tg iter : Expr} {ifs : List Expr} {scope : Scope} {own : List (Str × Nat)} {pos spos : Pos} {wi : TI} {g : TG} {tt : TT} {tk tv : TE} (hc : X.calm = true) (hN : X.N.Nodup) (hy : X.N[i]? = some y) (hyl : X.env.scope.names.lookup y = some .local)
    (hsw : swapsWith (.DictComp kx vx [⟨tg, iter, ifs, 0⟩] scope pos) (some (.Name y py)) spos.line X.env = pure true) (hi : PI X tg iter wi) (ok : BlkOk X.N X.env.scope scope own)
    (hg : ∀ (s : Shared) (H : Hp) (C : Addr) (cl : List (Str × Addr)) (fp : List Addr), PG (X.blk s H scope (compEnvC scope cl C X.env) fp) tg g) (ht : ∀ (s : Shared) (H : Hp) (C : Addr) (cl : List (Str × Addr)) (fp : List Addr), PTs (X.blk s H scope (compEnvC scope cl C X.env) fp) ifs tt)
    (hk : ∀ (s : Shared) (H : Hp) (C : Addr) (cl : List (Str × Addr)) (fp : List Addr), PE (X.blk s H scope (compEnvC scope cl C X.env) fp) kx tk)
    (he : ∀ (s : Shared) (H : Hp) (C : Addr) (cl : List (Str × Addr)) (fp : List Addr), PE (X.blk s H scope (compEnvC scope cl C X.env) fp) vx tv) (hs : ∀ x, foldedSetIterable iter X.env x = pure x := by intro _; rfl) :
    PS X (.Assign [.Name y py] (.DictComp kx vx [⟨tg, iter, ifs, 0⟩] scope pos) spos) (tAsg (tDc wi g tt tk tv (own.map (·.2))) (gName i)) := by
  refine ⟨fun pins s σ H D I h => ?_⟩
  rw [exec_Assign_Name_used _ _ _ _ hsw]
  refine wpAny_bind (wpAny_standAt (wpAny_bind ?_))
  show wpAny _ X.A (do let _ ← comprehension (.DictComp kx vx [⟨tg, iter, ifs, 0⟩] scope pos) scope X.env (firstIterPos [⟨tg, iter, ifs, 0⟩] pos) newDict false (eval iter X.env) (some (assign (.Name y py) X.env))) _ _ s
  have h : tDc wi g tt tk tv (own.map (·.2)) σ H (fun x H1 => gName i x σ H1 D.nx) := h
  refine wpAny_bind (thn (dc_core (Qf := fun _ s' => SP X pins D .next s') hc hN I hi ok hg ht hk he hs h fun L C s' m H' I' q hn f => ?_) fun _ s' hq => wpAny_pure (wpAny_pure hq))
  show wpAny _ _ (assign (.Name y py) X.env (.ref L)) _ _ _
  refine wpAny_assign_Name (store_ok2 (v := V.ref L) I' hN hy (.inl hyl) rfl (fun s2 I2 ⟨a, sb, ha⟩ => ?_) (.inr hyl))
  obtain ⟨f0, f1, f2, f3, f4, f5⟩ := f
  have haC : C ≠ a := by
    rcases ha with z | z
    · rw [z]; exact f1
    · exact fun e => f4 y a z e.symm
  refine ⟨m, hn.sameBut sb haC, fun h3 sb3 => ?_⟩
  exact ⟨_, H', I2.turned (t' := s2.toks) (fun b o hb e => (sb3.2 b hb).trans e) f0 f1 f3 f4 f5, q⟩
theorem swD_true {kx vx : Expr} {gs : List Comprehension} {scope : Scope} {pos py : Pos} {y : Str} {l : Nat} {env : Env} (hk : env.scope.kind = .function) (hy : env.scope.names.lookup y = some .local) (hl : (py.line == pos.line) = true)
    (ha : (scope.names.any fun (n, k) => n == y && (k == .local || k == .cell)) = false) : swapsWith (.DictComp kx vx gs scope pos) (some (.Name y py)) l env = pure true := by
  have ky : env.kindOf y = some .local := hy
  have hb : env.blockKind = .function := by unfold Env.blockKind; rw [hk]; rfl
  unfold swapsWith
  simp only [hb, ky, ha, Expr.pos, hl]
  rfl
end
end L2
namespace VS
open PySem PySem.Spec PyProof.Rows L2
section
variable {X : Cx} {W : WX} {pn : List Nat} {e kx vx : Expr} {ifs : List Expr} {pos : Pos} {wi : TI} {gs : Env → R (List D)} {t : Env → R Bool} {gk gv : Env → R D} {i : Nat}
variable {x y : Str} {p py : Pos} {scope : Scope} {spos : Pos}
theorem pxs_setDc (k i : Nat) (hc : X.calm = true) (hN : X.N.Nodup) (hsw : swapsWith (.DictComp kx vx [⟨.Name x p, e, ifs, 0⟩] scope pos) (some (.Name y py)) spos.line X.env = pure true) {b bk : Bool} (ha : PSrc X W b (.Name x p) e wi gs) (ok : BlkOk X.N X.env.scope scope [(x, i)])
    (hg : ∀ (s : Shared) (H : Hp) (C : Addr) (cl : List (Str × Addr)) (fp : List Addr), PG (X.blk s H scope (compEnvC scope cl C X.env) fp) (.Name x p) (gName i)) (ht : ∀ (s : Shared) (H : Hp) (C : Addr) (cl : List (Str × Addr)) (fp : List Addr), PXTs (X.blk s H scope (compEnvC scope cl C X.env) fp) ifs t)
    (hk : ∀ (s : Shared) (H : Hp) (C : Addr) (cl : List (Str × Addr)) (fp : List Addr), PX (X.blk s H scope (compEnvC scope cl C X.env) fp) W0 bk kx gk)
    (he : ∀ (s : Shared) (H : Hp) (C : Addr) (cl : List (Str × Addr)) (fp : List Addr), PX (X.blk s H scope (compEnvC scope cl C X.env) fp) W0 true vx gv) (hy : X.N[k]? = some y := by rfl) (hyl : X.env.scope.names.lookup y = some .local := by rfl) (hi : k ∉ pn := by decide) (hs : ∀ z, foldedSetIterable e X.env z = pure z := by intro _; rfl) :
    PXS X W pn (.Assign [.Name y py] (.DictComp kx vx [⟨.Name x p, e, ifs, 0⟩] scope pos) spos) (sSetO k (eDcO gs t gk gv i)) :=
  ps_mono (ps_setDc (own := [(x, i)]) (tt := TXT ⟨X.K, X.mg, X.w⟩ W0 t) (tk := TX ⟨X.K, X.mg, X.w⟩ W0 bk gk) (tv := TX ⟨X.K, X.mg, X.w⟩ W0 true gv) hc hN hy hyl hsw ha.pi ok hg ht hk he hs) fun Dn σ H ⟨B, G, c, fp, A, P, q⟩ => by
    obtain ⟨B', G', c', fp', A', q'⟩ : TF ⟨X.K, X.mg, X.w⟩ W (eDcO gs t gk gv i) σ H (fun x H1 => gName k x σ H1 Dn.nx) := tf_st A q fun o e v G1 H1 fq s1 t1 A1 w n d q1 => by
      obtain ⟨fr, A2⟩ := set_fresh A1 (A.cells.there) A.fine.there w n d P hi
      exact q1 _ G1 H1 fr (Same.refl _) A2
    exact tdc_of X.K X.mg rfl rfl ha A' q'
end
end VS

/-! VS: sorted by a key of the program: (len(word), word). -/
namespace PySem.SkX
open PySem PySem.W PySem.Calls PyProof.Rows
def skA (p : Pos) : Arguments := { posonlyargs := [], args := [{ arg := "word", annotation := none, pos := p }], vararg := none, kwonlyargs := [], kw_defaults := [], kwarg := none, defaults := [] }
def skS : Scope := { kind := .function, names := [(PySem.Str.ofString "word", .local), (PySem.Str.ofString "len", .globalImplicit)], isGenerator := false, isCoroutine := false, more := [] }
def skB (p1 p2 p3 p4 p5 p6 : Pos) (k : Nat) : List Stmt := [.Return (some (.Tuple [.Call (.Name "len" p1) [.Name "word" p2] [] p3, .Name "word" p4] k p5)) p6]
theorem ldC {M : Model} {s : Shared} {name : Str} {scope : Scope} {L a : Addr} {cd : Value} {m : Str → Option Value} {x : Str} {pos : Pos} {v : Value} {Q : Value → Shared → Prop} {A : Around} {E : Value → Shared → Prop} (hn : s.heap.Ns L m) (hv : m x = some v) (h : Q v s)
    (hk : scope.kind = .function := by rfl) (hl : (envOfC name scope L a cd).kindOf x = some .local := by rfl) (hd : (x == ("__debug__" : Str)) = false := by decide) :
    wpAny M A (eval (.Name x pos) (envOfC name scope L a cd)) Q E s := wpAny_Name (wpAny_loadName_local hk hl hn hv h) hd
section
variable {prog : Program} {w : World} {A : Around} {s : Shared} {K : Frag} {mg : Str → Option Value} {base : Heap}
theorem sk_raw {f : Addr} {oc kV doc pm cdv ct : Value} {od an : Option Addr} {osl : Array (Option Value)} {pa p1 p2 p3 p4 p5 p6 : Pos} {kk : Nat}
    (lk : K.lookup f = some ⟨oc, od, .func (fnOf "short_key" "short_key" (skA pa) (skB p1 p2 p3 p4 p5 p6 kk) skS .none kV doc pm an cdv ct), osl⟩) (hcd : codeIn K cdv "short_key" = true)
    (M : L2.Mod K mg base) (hb : ∀ b o, base.get? b = some o → s.heap.get? b = some o) (hz : mg "len" = none) (hroom : A.depth < recursionLimit) (x : Str) (t : Tok) (hx : x.length ≤ sizeLine) :
    wpAny (model prog w) A (call (.ref f) [.str x t]) (KeyPure (.tuple [.int x.length, .str x]) s) (fun _ _ => False) s := by
  have X : K.In s.heap := M.kin.keeps hb
  have hlim : s.heap.NoLimit := M.nolimit.keeps hb
  refine wpAny_call (Att.call_fn (binds := [("word", .str x t)]) X hlim lk hcd hroom (BindsTo.of_eq (by first | rfl | with_unfolding_all rfl)) (by first | rfl | decide | with_unfolding_all rfl) (fun s₁ IC => ?_) rfl rfl rfl)
  obtain ⟨h₁, tk₁, rfl⟩ := IC.toInCall.same
  have k : ∀ b o, s.heap.get? b = some o → h₁.get? b = some o := IC.toInCall.keep
  have hn := IC.toInCall.ns
  obtain ⟨mb, b1, b2⟩ := M.blt
  have kb : ∀ b o, base.get? b = some o → h₁.get? b = some o := fun b o e => k b o (hb b o e)
  show wpAny _ _ (execs (skB p1 p2 p3 p4 p5 p6 kk) _) _ _ _
  refine wpAny_execs_cons (wpAny_Return_some (wpAny_Tuple_spliced ?_))
  show wpAny _ _ (spliced [(false, eval (.Call (.Name "len" p1) [.Name "word" p2] [] p3) _), (false, eval (.Name "word" p4) _)]) _ _ _
  refine spliced_cons ?_
  refine wpAny_Call_Name_kw (Calls.Name_function_global rfl (by first | rfl | with_unfolding_all rfl) (Calls.loadGlobal_builtin (M.glob.keeps kb) hz (b1.keeps kb) ((b2 "len" (by decide)).trans (by decide +kernel : bootBuiltins "len" = some (.builtin "len"))) ?_) (by decide))
  refine PyProof.Rows.callWith_builtin1 ?_ rfl rfl
  show wpAny _ _ (spliced [(false, eval (.Name "word" p2) _)]) _ _ _
  refine spliced_cons (ldC (v := .str x t) hn (by first | rfl | with_unfolding_all rfl | kernel_rfl) (spliced_nil ?_))
  have hn63 := L2.line63
  refine len_str (by omega) ?_
  refine spliced_cons (ldC (v := .str x t) (hn : h₁.Ns _ _) (by first | rfl | with_unfolding_all rfl | kernel_rfl) (spliced_nil ?_))
  refine ⟨by show 2 ≤ sizeLine; rw [sizeLine_eq]; omega, ?_⟩
  refine ⟨_, _, rfl, fun b o e => Heap.get?_push_of_some _ (k b o e), ?_⟩
  exact .tuple (Heap.get?_push_size _ rfl) rfl rfl (.cons (.int _ _) (.cons (.str _ _) .nil))
end
end PySem.SkX
namespace L2
open PySem PySem.Spec PyProof.Rows PySem.W
def skK (x : Str) : PyData := .tuple [.int x.length, .str x]
def skLe : Str → Str → Bool := dataLe false skK
theorem each_strs : ∀ {xs : List Str} {its : List Value}, Vals (xs.map V.str) its → EachIs (fun v x => ∃ t, v = Value.str x t) its xs
  | [], its, r => by cases r; exact .nil
  | x :: xs, its, r => by
    cases r with
    | cons h r =>
      obtain ⟨t, rfl⟩ := h
      exact .cons ⟨t, rfl⟩ (each_strs r)
theorem strs_each : ∀ {xs : List Str} {its : List Value}, EachIs (fun v x => ∃ t, v = Value.str x t) its xs → Vals (xs.map V.str) its
  | [], its, r => by cases r; exact .nil
  | x :: xs, its, r => by
    cases r with
    | cons h r =>
      obtain ⟨t, rfl⟩ := h
      exact .cons ⟨t, rfl⟩ (strs_each r)
/-- the text of short_key -/
structure SkTxt (st : Stmt) : Prop where
  ex : ∃ pa p1 p2 p3 p4 p5 p6 kk, defArgs st = SkX.skA pa ∧ defBody st = SkX.skB p1 p2 p3 p4 p5 p6 kk ∧ defScope st = SkX.skS
section
variable {X : Cx} {k : Nat}
def rSK (K : PySem.W.Frag) (f : Addr) : List V → List V → Hp → VK → Prop := fun vs zs H Q => ∃ (a : Addr) (xs : List Str), vs = [V.ref a] ∧ zs = [V.ref f] ∧ SqL K H a (xs.map V.str) ∧ (∀ x ∈ xs, x.length ≤ sizeLine) ∧ ∀ p, H p = none → Q (.ref p) (upd H p (.lst ((xs.mergeSort skLe).map V.str)))
theorem cr_sortSK {st : Stmt} {f : Addr} {fd : FuncData} (F : Fun X.K "short_key" "short_key" st f fd) (T : SkTxt st) (hz : X.mg "len" = none) (hr : Room k X.A) : CallRK X (.builtin "sorted") [Str.ofString "key"] (rSK X.K f) := by
  intro pins s σ H vs zs us ws Q I rv rz h
  obtain ⟨a, xs, rfl, rfl, hq, hlen, q⟩ := h
  obtain ⟨oc, od, kV, doc, pm, an, cdv, ct, osl, rfl, lk, hcd⟩ := F.ex
  obtain ⟨pa, p1, p2, p3, p4, p5, p6, kk, e1, e2, e3⟩ := T.ex
  rw [e1, e2, e3] at lk
  cases rv with
  | cons h1 h2 =>
    cases h2
    cases h1
    cases rz with
    | cons h3 h4 =>
      cases h4
      cases h3
      obtain ⟨its, ri, pl, hsz⟩ := I.list hq
      have e := each_strs ri
      have hn := sizeLine_eq
      rw [List.length_map] at hsz
      show wpAny _ _ (call (.builtin "sorted") [.ref a] [(Str.ofString "key", .ref f)]) _ _ _
      refine sorted_key_data (b := false) skK pl.isList e (AllAlike.of fun _ _ => by simp [alike, alikeAll, skK]) (Sortable.tuples fun _ => ⟨_, _, rfl⟩) hsz (fun x _ => ?_) (ksk_s1 _ _) (fun _ => ksk_l1 _ _) (fun _ => ksk_t1 _ _)
        (fun v x ⟨t, ev⟩ hx h tk kp => ?_) fun out c h' tk kp fr hD hl eo => ?_
      · have hd : (skK x).depth = 1 := by simp [skK, PyData.depth, PyData.depthAll]
        have := hr.un
        omega
      · subst ev
        refine SkX.sk_raw lk hcd I.ok.mod (fun b o e => kp b o (I.bk b o e)) hz ?_ x t (hlen x hx)
        show X.A.depth < recursionLimit
        have := hr.dp
        omega
      · have ho : H (s.heap.objs.size + 1) = none := I.hok.fresh (Nat.le_succ _)
        refine ⟨.ref (s.heap.objs.size + 1), _, I.laid (t' := tk) (o := .lst ((xs.mergeSort skLe).map V.str)) kp (Nat.le_succ _) ?_, rfl, q _ ho⟩
        refine ⟨by rw [List.length_map, List.length_mergeSort]; exact hsz, out, c, strs_each eo, hD⟩
end
end L2
namespace VS
open PySem PySem.Spec PyProof.Rows L2
theorem rpl_strs {E : Wd} {G : Hp} : ∀ l : List (List Nat), RpL E G (l.map (V.str ∘ S)) (l.map .str)
  | [] => .nil
  | x :: l => .cons (.str x) (rpl_strs l)
def leK (a b : List Nat) : Bool := skLe (S a) (S b)
def fSortK : List D → Option D
  | [.lst es] => (asSs es).bind fun ss => if ss.all (fun s => decide (s.length ≤ 16777216)) then some (.lst ((ss.mergeSort leK).map .str)) else none
  | _ => none
section
variable {X : Cx} {W : WX} {b : Bool} {k : Nat} {pos : Pos}
theorem px_sortK {st : Stmt} {e : Expr} {gs : Env → R (List D)} {p q kpos : Pos} (D0 : Def X.K X.mg "short_key" st) (T : SkTxt st) (hz : X.mg "len" = none) (hr : Room k X.A) (hm : X.mg "sorted" = none) (ha : PXA X W b [e] gs) (hg : Gl X "sorted" := by rfl) (hgk : Gl X "short_key" := by rfl)
    (he : backTo pos (starEach [e] X.env) = (false, eval e X.env) :: backTo pos (starEach [] X.env) := by rfl) (hpl : (backTo pos (starEach [e] X.env)).any (·.1) = false := by rfl)
    (hall : (backToKw pos (keywordEach [⟨some "key", .Name "short_key" q, kpos⟩] X.env)).all (·.1.isSome) = true := by rfl) (hnone : (backToKw pos (keywordEach [⟨some "key", .Name "short_key" q, kpos⟩] X.env)).any (·.1.isNone) = false := by rfl) (hks : (backToKw pos (keywordEach [⟨some "key", .Name "short_key" q, kpos⟩] X.env)).filterMap (·.1) = [Str.ofString "key"] := by rfl) :
    PX X W true (.Call (.Name "sorted" p) [e] [⟨some "key", .Name "short_key" q, kpos⟩] pos) (eFn fSortK gs) := by
  obtain ⟨f, fd, F, hf⟩ := D0.ex
  refine pe_mono (pe_callBK (cr_sortSK F T hz hr) hg hm (by decide +kernel) ha (pk_cons (pe_glob (v := .ref f) hgk hf rfl) pk_nil) (by decide) (by decide) he hpl hall hnone hks) fun σ H Q ⟨B, G, c, fp, A, q⟩ => txa_seq A q fun ds e0 vs G1 H1 s1 t1 A1 r1 q1 => ?_
  obtain ⟨d, e3, p3⟩ := Res.lift q1
  unfold fSortK at e3
  split at e3
  · rename_i es
    obtain ⟨ss, e4, e5⟩ := Option.bind_eq_some_iff.mp e3
    split at e5
    · rename_i hall
      cases e5
      obtain ⟨v, rfl, rv⟩ := r1.one
      obtain ⟨a, vs, rfl, h1, r2⟩ := rv.lstH A1.fine.le
      have hv : vs = (ss.map S).map V.str := asSs_rp r2 e4
      subst hv
      show rSK X.K f [V.ref a] [V.ref f] H1 Q
      refine ⟨a, ss.map S, rfl, rfl, h1, fun x hx => ?_, fun p hp => ?_⟩
      · obtain ⟨s, hs, rfl⟩ := List.mem_map.mp hx
        have := List.all_eq_true.mp hall s hs
        rw [sizeLine_eq]
        show s.toArray.size ≤ _
        simpa using this
      · have : (ss.map S).mergeSort skLe = (ss.mergeSort leK).map S := (List.map_mergeSort (r := leK) (s := skLe) (f := S) (fun _ _ _ _ => rfl)).symm
        rw [this, List.map_map]
        exact (p3.grow s1 t1).new A1 hp fun s => .lst (.inl (.inl upd_same)) (rpl_strs _)
    · cases e5
  · cases e3
end
end VS

/-! VS: xs[::s] where s is 1 or -1. -/
namespace L2
open PySem PySem.Spec PyProof.Rows
theorem pick_one (items : Array Value) : slicePick items none none (some 1) = items := by
  show slicePick items none none none = items
  exact slicePick_all items
def tStepL (K : PySem.W.Frag) (te ts : TE) : TE := fun σ H Q => te σ H fun x H1 => ts σ H1 fun y H2 => ∃ st, y = .int st ∧ ∃ a xs ys, x = .ref a ∧ SqL K H2 a xs ∧ ((st = 1 ∧ ys = xs) ∨ (st = -1 ∧ ys = xs.reverse)) ∧ ∀ p, H2 p = none → Q (.ref p) (upd H2 p (.lst ys))
theorem pe_stepL {X : Cx} {e es : Expr} {te ts : TE} {p3 pos : Pos} (he : PE X e te) (hs : PE X es ts) : PE X (.Subscript e (.Slice none none (some es) p3) pos) (tStepL X.K te ts) := by
  refine ⟨fun pins s σ H Q I h => ?_⟩
  refine Subscript_ (thn (he.run pins s σ H _ I h) fun v s1 ⟨x, H1, I1, r1, q1⟩ => ?_)
  have hst : PO X (some es) (tPart ts) := po_some hs
  refine wpAny_Slice (thn (po_none.run pins s1 σ H1 (fun o H2 => o = none ∧ H2 = H1) I1 ⟨rfl, rfl⟩) fun vl s2 ⟨l, H2, I2, pl, el, e2⟩ => ?_)
  subst el e2
  refine thn (po_none.run pins s2 σ H2 (fun o H3 => o = none ∧ H3 = H2) I2 ⟨rfl, rfl⟩) fun vu s3 ⟨u, H3, I3, pu, eu, e3⟩ => ?_
  subst eu e3
  refine thn (hst.run pins s3 σ H3 (fun o H4 => ∃ st, o = some st ∧ ∃ a xs ys, x = .ref a ∧ SqL X.K H4 a xs ∧ ((st = 1 ∧ ys = xs) ∨ (st = -1 ∧ ys = xs.reverse)) ∧ ∀ p, H4 p = none → Q (.ref p) (upd H4 p (.lst ys))) I3 ?_) fun vs s4 ⟨o, H4, I4, ps, qq⟩ => ?_
  · show ts σ H3 _
    exact (congrArg (ts σ H3) (funext fun y => funext fun H2 => propext ⟨fun ⟨st, e, r⟩ => ⟨st, e, st, rfl, r⟩, fun ⟨i, e, st, e2, r⟩ => ⟨i, e, by cases e2; exact r⟩⟩)).mp q1
  obtain ⟨st, rfl, a, xs, ys, ex, hx, hd, q⟩ := qq
  subst ex
  cases r1
  have I5 : Inv X pins σ H4 { s4 with heap := s4.heap.push { cls := .type "slice", data := .fields #[vl, vu, vs] } } := I4.kept (t' := s4.toks) fun b ob q => Heap.get?_push_of_some _ q
  obtain ⟨its, r, ht, hz⟩ := I5.list hx
  have hlen := r.length
  show wpAny (model X.prog X.w) X.A (subscriptTail e (.Slice none none (some es) p3) (.ref a) (.ref s4.heap.objs.size)) (EP X pins σ Q) X.xe { s4 with heap := s4.heap.push { cls := .type "slice", data := .fields #[vl, vu, vs] } }
  refine tail_any (ops := [.ref a, .ref s4.heap.objs.size]) ht.isList.typeIs (PySem.slot_list_getitem.lookup) ?_ (by with_unfolding_all rfl)
  refine wpAny_getItem_list_slice ht.isList (Heap.IsSliceOf.new _ vl vu vs) pl pu ps (by rcases hd with ⟨rfl, _⟩ | ⟨rfl, _⟩ <;> decide) ?_ (by rw [List.size_toArray]; omega)
  have key : ∃ out : List Value, slicePick its.toArray none none (some st) = out.toArray ∧ Vals ys out ∧ ys.length = xs.length := by
    rcases hd with ⟨rfl, rfl⟩ | ⟨rfl, rfl⟩
    · exact ⟨its, pick_one _, r, rfl⟩
    · exact ⟨its.reverse, by rw [PySem.W.krv_pick], r.reverse, List.length_reverse⟩
  obtain ⟨out, k1, k2, k3⟩ := key
  rw [k1]
  refine ⟨.ref _, _, I5.laid (t' := s4.toks) (o := .lst ys) (fun b ob q => Heap.get?_push_of_some _ q) (Nat.le_refl _) ?_, rfl, q _ (I5.hok.fresh (Nat.le_refl _))⟩
  exact ⟨by rw [k3]; exact hz, _, 0, k2, Heap.get?_push_size _ rfl⟩
end L2
namespace VS
open PySem PySem.Spec PyProof.Rows L2
def stepL (ds : List D) : D → Option D
  | .int i => if i = 1 then some (.lst ds) else if i = -1 then some (.lst ds.reverse) else none
  | _ => none
def eStep (ga gs : Env → R D) : Env → R D := fun c => ga c >>= fun d => gs c >>= fun s => match d with
  | .lst ds => lift (stepL ds s)
  | _ => .stuck
section
variable {X : Cx} {W : WX} {b : Bool} {k : Nat} {pos : Pos}
theorem px_step {e es : Expr} {ga gs : Env → R D} {p3 : Pos} (h : PX X W true e ga) (hs : PX X W b es gs) : PX X W true (.Subscript e (.Slice none none (some es) p3) pos) (eStep ga gs) :=
  pe_mono (pe_stepL h hs) fun σ H Q ⟨B, G, c, fp, A, q⟩ => tx_seq A q fun d e0 v G1 H1 s1 t1 A1 r1 q1 => tx_seq A1 q1 fun s e2 w G2 H2 s2 t2 A2 r2 q2 => by
    cases r1 with
    | @lst a vs ds hq r =>
      obtain ⟨d, e3, p3⟩ := Res.lift q2
      have r2 := r2
      unfold stepL at e3
      split at e3
      · rename_i i r2
        cases r2
        have p3 := p3.grow (s1.trans s2) (t1.trans t2)
        refine ⟨i, rfl, a, vs, if i = 1 then vs else vs.reverse, rfl, Same.sqL A2.fine.le (Same.sqL s2 hq), ?_, fun p hp => ?_⟩
        · split at e3
          · rename_i h; rw [if_pos h]; exact .inl ⟨h, rfl⟩
          · rename_i h
            rw [if_neg h]
            split at e3
            · rename_i h'; exact .inr ⟨h', rfl⟩
            · cases e3
        · split at e3
          · rename_i h; rw [if_pos h]; cases e3
            exact p3.new A2 hp fun s => .lst (.inl (.inl upd_same)) (r.mono (s2.trans s))
          · rename_i h
            rw [if_neg h]
            split at e3
            · cases e3
              exact p3.new A2 hp fun s => .lst (.inl (.inl upd_same)) (RpL.reverse (r.mono (s2.trans s)))
            · cases e3
      · cases e3
    | _ => exact q2.elim
end
/-! ### a tuple of texts, a constant of the module -/
def TextsAre : List Value → List D → Prop
  | [], [] => True
  | .str x _ :: vs, .str l :: ds => x = S l ∧ TextsAre vs ds
  | _, _ => False
theorem tk_nil : TextsAre [] [] := True.intro
theorem tk_cons {x : Str} {t : Tok} {l : List Nat} {vs : List Value} {ds : List D} (h : x = S l) (r : TextsAre vs ds) : TextsAre (.str x t :: vs) (.str l :: ds) := ⟨h, r⟩
theorem texts_vals {E : Wd} {G : Hp} : ∀ {vs : List Value} {ds : List D}, TextsAre vs ds → ∃ xs, Vals xs vs ∧ RpL E G xs ds
  | [], [], _ => ⟨[], .nil, .nil⟩
  | .str x t :: vs, .str l :: ds, h => by
    obtain ⟨h1, h2⟩ := h
    obtain ⟨xs, k1, k2⟩ := texts_vals (E := E) (G := G) h2
    exact ⟨.str (S l) :: xs, .cons ⟨t, by rw [h1]⟩ k1, .cons (.str l) k2⟩
theorem rp_tupK {K : PySem.W.Frag} {mg : Str → Option Value} {w : World} {G : Hp} {a : Addr} {od : Option Addr} {n : Nat} {sl : Array (Option Value)} {its : Array Value} {ds : List D} (h : K.lookup a = some ⟨.type "tuple", od, .seq its n, sl⟩) (hs : its.size ≤ 100) (ht : TextsAre its.toList ds) : Rp ⟨K, mg, w⟩ G (.ref a) (.tup ds) := by
  obtain ⟨xs, k1, k2⟩ := texts_vals (E := ⟨K, mg, w⟩) (G := G) ht
  exact .tup (.inr ⟨_, its, n, h, rfl, rfl, by have := sizeLine_eq; omega, k1⟩) k2
/-! ### is, is not of truth values -/
def opIsB : D → D → Option D
  | .bl a, .bl b => some (.bl (decide (a = b)))
  | _, _ => none
def opIsntB : D → D → Option D
  | .bl a, .bl b => some (.bl (!decide (a = b)))
  | _, _ => none
section
variable {X : Cx} {b1 b2 : Bool}
theorem ok_isB : Op2Ok ⟨X.K, X.mg, X.w⟩ rIsB b1 b2 true opIsB := by
  intro B G H c σ fp x y dx dy d Q A rx ry e p
  unfold opIsB at e
  split at e
  · cases e
    cases rx
    cases ry
    exact ⟨_, _, rfl, rfl, p.here A (.bl _)⟩
  · cases e
theorem ok_isntB : Op2Ok ⟨X.K, X.mg, X.w⟩ rNotB b1 b2 true opIsntB := by
  intro B G H c σ fp x y dx dy d Q A rx ry e p
  unfold opIsntB at e
  split at e
  · cases e
    cases rx
    cases ry
    exact ⟨_, _, rfl, rfl, p.here A (.bl _)⟩
  · cases e
end
end VS

/-! VS: min by a key of the program; short_key(a) < short_key(b); a dict of constants that is walked. -/
namespace PySem.SkX
open PySem PySem.W PySem.Calls PyProof.Rows
/-- the pair of short_key, new in the heap -/
def KeyNew (x : Str) (s₁ : Shared) (v : Value) (s₂ : Shared) : Prop := ∃ h' tk a, s₂ = { s₁ with heap := h', toks := tk } ∧ (∀ b o, s₁.heap.get? b = some o → h'.get? b = some o) ∧ v = .ref a ∧ s₁.heap.get? a = none ∧ Reads h' v (.tuple [.int x.length, .str x]) []
section
variable {prog : Program} {w : World} {A : Around} {s : Shared} {K : Frag} {mg : Str → Option Value} {base : Heap}
theorem sk_new {f : Addr} {oc kV doc pm cdv ct : Value} {od an : Option Addr} {osl : Array (Option Value)} {pa p1 p2 p3 p4 p5 p6 : Pos} {kk : Nat}
    (lk : K.lookup f = some ⟨oc, od, .func (fnOf "short_key" "short_key" (skA pa) (skB p1 p2 p3 p4 p5 p6 kk) skS .none kV doc pm an cdv ct), osl⟩) (hcd : codeIn K cdv "short_key" = true)
    (M : L2.Mod K mg base) (hb : ∀ b o, base.get? b = some o → s.heap.get? b = some o) (hz : mg "len" = none) (hroom : A.depth < recursionLimit) (x : Str) (t : Tok) (hx : x.length ≤ sizeLine) :
    wpAny (model prog w) A (call (.ref f) [.str x t]) (KeyNew x s) (fun _ _ => False) s := by
  have X : K.In s.heap := M.kin.keeps hb
  have hlim : s.heap.NoLimit := M.nolimit.keeps hb
  refine wpAny_call (Att.call_fn (binds := [("word", .str x t)]) X hlim lk hcd hroom (BindsTo.of_eq (by first | rfl | with_unfolding_all rfl)) (by first | rfl | decide | with_unfolding_all rfl) (fun s₁ IC => ?_) rfl rfl rfl)
  obtain ⟨h₁, tk₁, rfl⟩ := IC.toInCall.same
  have k : ∀ b o, s.heap.get? b = some o → h₁.get? b = some o := IC.toInCall.keep
  have hn := IC.toInCall.ns
  obtain ⟨mb, b1, b2⟩ := M.blt
  have kb : ∀ b o, base.get? b = some o → h₁.get? b = some o := fun b o e => k b o (hb b o e)
  show wpAny _ _ (execs (skB p1 p2 p3 p4 p5 p6 kk) _) _ _ _
  refine wpAny_execs_cons (wpAny_Return_some (wpAny_Tuple_spliced ?_))
  show wpAny _ _ (spliced [(false, eval (.Call (.Name "len" p1) [.Name "word" p2] [] p3) _), (false, eval (.Name "word" p4) _)]) _ _ _
  refine spliced_cons ?_
  refine wpAny_Call_Name_kw (Calls.Name_function_global rfl (by first | rfl | with_unfolding_all rfl) (Calls.loadGlobal_builtin (M.glob.keeps kb) hz (b1.keeps kb) ((b2 "len" (by decide)).trans (by decide +kernel : bootBuiltins "len" = some (.builtin "len"))) ?_) (by decide))
  refine PyProof.Rows.callWith_builtin1 ?_ rfl rfl
  show wpAny _ _ (spliced [(false, eval (.Name "word" p2) _)]) _ _ _
  refine spliced_cons (ldC (v := .str x t) hn (by first | rfl | with_unfolding_all rfl | kernel_rfl) (spliced_nil ?_))
  have hn63 := L2.line63
  refine len_str (by omega) ?_
  refine spliced_cons (ldC (v := .str x t) (hn : h₁.Ns _ _) (by first | rfl | with_unfolding_all rfl | kernel_rfl) (spliced_nil ?_))
  refine ⟨by show 2 ≤ sizeLine; rw [sizeLine_eq]; omega, ?_⟩
  refine ⟨_, _, h₁.objs.size, rfl, fun b o e => Heap.get?_push_of_some _ (k b o e), rfl, ?_, ?_⟩
  · cases e : s.heap.get? h₁.objs.size with
    | none => rfl
    | some o => exact absurd (Heap.lt_size (k _ _ e)) (Nat.lt_irrefl _)
  · exact .tuple (Heap.get?_push_size _ rfl) rfl rfl (.cons (.int _ _) (.cons (.str _ _) .nil))
end
end PySem.SkX
namespace L2
open PySem PySem.Spec PyProof.Rows PySem.W
def skLt (xs : List Str) (i j : Nat) : Bool := dataLt (skK (xs.getD i default)) (skK (xs.getD j default))
section
variable {X : Cx} {k : Nat}
def rMinSK (K : PySem.W.Frag) (f : Addr) : List V → List V → Hp → VK → Prop := fun vs zs H Q => ∃ (a : Addr) (xs : List Str) (x : Str), vs = [V.ref a] ∧ zs = [V.ref f] ∧ SqL K H a (xs.map V.str) ∧ (∀ x ∈ xs, x.length ≤ sizeLine) ∧ xs[argBest (skLt xs) (xs.length - 1)]? = some x ∧ Q (.str x) H
theorem vals_get {xs : List V} {its : List Value} (r : Vals xs its) {i : Nat} {v : Value} (h : its[i]? = some v) : ∃ x, xs[i]? = some x ∧ RelV x v := by
  induction r generalizing i with
  | nil => simp at h
  | cons h1 _ ih =>
    cases i with
    | zero => simp at h; subst h; exact ⟨_, rfl, h1⟩
    | succ i => exact ih (by simpa using h)
theorem reads_sk {h : Heap} {v : Value} {x : Str} (r : Reads h v (skK x) []) : ∃ a, v = .ref a ∧ ∃ o, h.get? a = some o ∧ ∀ h' : Heap, h'.get? a = some o → Reads h' v (skK x) [] := by
  generalize e : skK x = d at r
  generalize e2 : ([] : List Addr) = as at r
  cases r <;> simp [skK] at e
  rename_i a o vs n xs h1 h2 h3 h4
  subst e e2
  refine ⟨_, rfl, _, h1, fun h' hh => .tuple hh h2 h3 ?_⟩
  generalize hl : vs.toList = l at h4 ⊢
  generalize e3 : ([] : List Addr) = bs at h4 ⊢
  cases h4 with
  | cons r1 r2 =>
    cases r1
    cases r2 with
    | cons r3 r4 =>
      cases r3
      cases r4
      exact .cons (.int _ _) (.cons (.str _ _) .nil)
theorem cr_minSK {st : Stmt} {f : Addr} {fd : FuncData} (hc : X.calm = true) (F : Fun X.K "short_key" "short_key" st f fd) (T : SkTxt st) (hz : X.mg "len" = none) (hr : Room k X.A) : CallRK X (.builtin "min") [Str.ofString "key"] (rMinSK X.K f) := by
  intro pins s σ H vs zs us ws Q I rv rz h
  obtain ⟨a, xs, x, rfl, rfl, hq, hlen, hx, q⟩ := h
  obtain ⟨oc, od, kV, doc, pm, an, cdv, ct, osl, rfl, lk, hcd⟩ := F.ex
  obtain ⟨pa, p1, p2, p3, p4, p5, p6, kk, e1, e2, e3⟩ := T.ex
  rw [e1, e2, e3] at lk
  cases rv with
  | cons h1 h2 =>
    cases h2
    cases h1
    cases rz with
    | cons h3 h4 =>
      cases h4
      cases h3
      obtain ⟨its, ri, pl, hsz⟩ := I.list hq
      have hn : its.length = xs.length := by rw [← ri.length, List.length_map]
      have hx0 : 0 < xs.length := by
        have := (List.getElem?_eq_some_iff.mp hx).1
        omega
      have h63 := sizeLine_eq
      show wpAny _ _ (call (.builtin "min") [.ref a] [(Str.ofString "key", .ref f)]) _ _ _
      refine call_min_walkK (iter_listW (A := X.A.in1) (I.ok.hd hc) pl.isList fun s₂ e W st hfp hw hk => ?_)
      have hsz2 : its.toArray.size = its.length := by simp
      have ge : ∀ b o, s.heap.get? b = some o → b < s.heap.objs.size := fun b o e => Heap.lt_size e
      have s2n : s₂.heap.objs.size = s.heap.objs.size + 1 := by rw [e]; exact Heap.size_push _ _
      refine ⟨s.heap.objs.size, _, _, _, _, _, _, (fun s' => ∃ h' tk, s' = { s with heap := h', toks := tk } ∧ ∀ b o, s.heap.get? b = some o → h'.get? b = some o),
        (fun i kv s' => ∃ y, xs[i]? = some y ∧ Reads s'.heap kv (skK y) [] ∧ ∀ b, kv = .ref b → b ≠ s₂.heap.objs.size ∧ b ≠ s.heap.objs.size), skLt xs, rfl, W, st, hfp, by omega, ?_, ?_, ?_⟩
      · refine ⟨fun u u' ⟨h', tk, e', k'⟩ m => ?_, fun i kv u u' ⟨y, ey, r, nb⟩ m => ?_, fun i v u o Q' E' hi hP ⟨h', tk, e', k'⟩ hst hS K => ?_, fun i j ki kj u Q' E' _ ⟨y, ey, r1, _⟩ ⟨z, ez, r2, _⟩ hq' => ?_⟩
        · subst e'
          refine ⟨u'.heap, u'.toks, ?_, fun b ob eb => m.heap b ob (fun hb => ?_) (k' b ob eb)⟩
          · obtain ⟨hp, g, d, tk2, os⟩ := u'
            have h1 : g = s.gens := m.gens
            have h2 : d = s.drawn := m.drawn
            have h3 : os = s.os := m.os
            subst h1 h2 h3
            rfl
          · have hlt := ge b ob eb
            rcases List.mem_cons.mp hb with z | z
            · rw [z, s2n] at hlt; exact Nat.not_lt.mpr (Nat.le_succ _) hlt
            · rw [List.mem_singleton.mp z] at hlt; exact Nat.lt_irrefl _ hlt
        · refine ⟨y, ey, ?_, nb⟩
          obtain ⟨b, rfl, o, ho, hall⟩ := reads_sk r
          obtain ⟨n1, n2⟩ := nb b rfl
          exact hall _ (m.heap b o (fun hb => by
            rcases List.mem_cons.mp hb with z | z
            · exact n1 z
            · exact n2 (List.mem_singleton.mp z)) ho)
        · subst e'
          have hP : its[i]? = some v := by simpa using hP
          obtain ⟨y', ey', rv⟩ := vals_get ri hP
          rw [List.getElem?_map] at ey'
          obtain ⟨y, ey, rfl⟩ := Option.map_eq_some_iff.mp ey'
          obtain ⟨t, rfl⟩ := rv
          refine wpAny_mono (SkX.sk_new lk hcd I.ok.mod (fun b o e => k' b o (I.bk b o e)) hz ?_ y t (hlen y (List.mem_of_getElem? ey))) (fun kv u2 hu => ?_) fun _ _ z => z.elim
          · show X.A.depth < recursionLimit
            have := hr.dp
            omega
          · obtain ⟨h2, tk2, b, rfl, k2, rfl, hb, rd⟩ := hu
            have hI := hst.1
            refine K (.ref b) _ ⟨h2, tk2, rfl, fun b o e => k2 b o (k' b o e)⟩ ⟨?_, ?_⟩ (k2 _ _ hS) ⟨y, ey, rd, fun c hc => ?_⟩ fun j kv' ⟨z, ez, r, nb⟩ => ⟨z, ez, Reads.keeps k2 r, nb⟩
            · obtain ⟨o', h1, h3⟩ := hst.1
              exact ⟨o', k2 _ _ h1, h3⟩
            · obtain ⟨o', h1, h3⟩ := hst.2
              exact ⟨o', k2 _ _ h1, h3⟩
            · cases hc
              refine ⟨fun z => ?_, fun z => ?_⟩
              · subst z
                rw [hS] at hb; cases hb
              · obtain ⟨o', h1, h3⟩ := hst.1
                subst z
                rw [h1] at hb; cases hb
        · have gy : xs.getD i default = y := by rw [List.getD_eq_getElem?_getD, ey]; rfl
          have gz : xs.getD j default = z := by rw [List.getD_eq_getElem?_getD, ez]; rfl
          have hb : skLt xs i j = dataLt (skK y) (skK z) := by unfold skLt; rw [gy, gz]
          rw [hb] at hq'
          refine rcLt_alike _ _ _ _ _ _ _ _ r1 r2 (by simp [skK, alike, alikeAll]) (by simp [skK]) ?_ _ _ _ _ hq'
          have hd : (skK y).depth = 1 := by simp [skK, PyData.depth, PyData.depthAll]
          have hd2 : (skK z).depth = 1 := by simp [skK, PyData.depth, PyData.depthAll]
          rw [hd, hd2]
          have := hr.un
          show X.A.units + 1 + _ < _
          omega
      · exact ⟨s₂.heap, s₂.toks, by rw [e], hk⟩
      · rintro v s' hP ⟨h', tk, rfl, k'⟩
        have hP : its[argBest (skLt xs) (its.toArray.size - 1)]? = some v := by simpa using hP
        rw [hsz2, hn] at hP
        obtain ⟨y', ey', rv⟩ := vals_get ri hP
        rw [List.getElem?_map, hx] at ey'
        cases ey'
        exact ⟨.str x, H, I.kept k', rv, q⟩
end
/-! ### short_key(a) < short_key(b) -/
def rLtSK (K : PySem.W.Frag) : R2 := fun x y H Q => ∃ a b i j u v, x = .ref a ∧ y = .ref b ∧ SqT K H a [.int i, .str u] ∧ SqT K H b [.int j, .str v] ∧ Q (.bl (dataLt (.tuple [.int i, .str u]) (.tuple [.int j, .str v]))) H
theorem op_ltSK {X : Cx} (hu : X.A.units + 65 < cLine) : OpR X (compareOp .Lt) (rLtSK X.K) := by
  intro pins s σ H x y v u Q I rx ry h
  obtain ⟨a, b, i, j, p, q, rfl, rfl, ha, hb, hq⟩ := h
  cases rx
  cases ry
  obtain ⟨its, r1, p1, _⟩ := I.tuple ha
  obtain ⟨its2, r2, p2, _⟩ := I.tuple hb
  have rd : ∀ {a : Addr} {its : List Value} {i : Int} {p : Str}, Vals [.int i, .str p] its → IsTup s.heap a its.toArray → Reads s.heap (.ref a) (.tuple [.int i, .str p]) [] := by
    intro a its i p r ⟨o, e, hc, n, hd⟩
    cases r with
    | cons h1 r =>
      cases r with
      | cons h2 r =>
        cases r
        obtain ⟨t1, rfl⟩ := h1
        obtain ⟨t2, rfl⟩ := h2
        exact .tuple e hc hd (.cons (.int _ _) (.cons (.str _ _) .nil))
  refine PySem.W.lt_data (rd r1 p1) (rd r2 p2) (by simp [alike, alikeAll]) (by simp) ?_ ⟨.bl _, H, I, rfl, hq⟩
  have hd : ∀ (i : Int) (p : Str), (PyData.tuple [.int i, .str p]).depth = 1 := fun i p => by simp [PyData.depth, PyData.depthAll]
  rw [hd, hd]
  show _ + 1 < _
  omega
end L2
namespace VS
open PySem PySem.Spec PyProof.Rows L2
def opLtK : D → D → Option D
  | .tup [.int i, .str u], .tup [.int j, .str v] => some (.bl (PySem.W.dataLt (.tuple [.int i, .str (S u)]) (.tuple [.int j, .str (S v)])))
  | _, _ => none
def fMinK : List D → Option D
  | [.lst es] => (asSs es).bind fun ss => if ss.all (fun s => decide (s.length ≤ 16777216)) then (ss[argBest (skLt (ss.map S)) (ss.length - 1)]?).map .str else none
  | _ => none
section
variable {X : Cx} {W : WX} {b b1 b2 : Bool} {k : Nat} {pos : Pos}
theorem rpl_is {E : Wd} {G : Hp} {vs : List V} {i : Int} {u : List Nat} (h : RpL E G vs [.int i, .str u]) : vs = [.int i, .str (S u)] := by
  cases h with
  | cons h1 r =>
    cases r with
    | cons h2 r =>
      cases r
      cases h1
      cases h2
      rfl
theorem ok_ltK : Op2Ok ⟨X.K, X.mg, X.w⟩ (rLtSK X.K) true true true opLtK := by
  intro B G H c σ fp x y dx dy d Q A rx ry e p
  unfold opLtK at e
  split at e
  · cases e
    obtain ⟨a, vs, rfl, h1, r1⟩ := rx.tupH A.fine.le
    obtain ⟨a2, vs2, rfl, h2, r2⟩ := ry.tupH A.fine.le
    rw [rpl_is r1] at h1
    rw [rpl_is r2] at h2
    exact ⟨_, _, _, _, _, _, rfl, rfl, h1, h2, p.here A (.bl _)⟩
  · cases e
theorem px_minK {st : Stmt} {e : Expr} {gs : Env → R (List D)} {p q kpos : Pos} (D0 : Def X.K X.mg "short_key" st) (T : SkTxt st) (hz : X.mg "len" = none) (hc : X.calm = true) (hr : Room k X.A) (hm : X.mg "min" = none) (ha : PXA X W b [e] gs) (hg : Gl X "min" := by rfl) (hgk : Gl X "short_key" := by rfl)
    (he : backTo pos (starEach [e] X.env) = (false, eval e X.env) :: backTo pos (starEach [] X.env) := by rfl) (hpl : (backTo pos (starEach [e] X.env)).any (·.1) = false := by rfl)
    (hall : (backToKw pos (keywordEach [⟨some "key", .Name "short_key" q, kpos⟩] X.env)).all (·.1.isSome) = true := by rfl) (hnone : (backToKw pos (keywordEach [⟨some "key", .Name "short_key" q, kpos⟩] X.env)).any (·.1.isNone) = false := by rfl) (hks : (backToKw pos (keywordEach [⟨some "key", .Name "short_key" q, kpos⟩] X.env)).filterMap (·.1) = [Str.ofString "key"] := by rfl) :
    PX X W true (.Call (.Name "min" p) [e] [⟨some "key", .Name "short_key" q, kpos⟩] pos) (eFn fMinK gs) := by
  obtain ⟨f, fd, F, hf⟩ := D0.ex
  refine pe_mono (pe_callBK (cr_minSK hc F T hz hr) hg hm (by decide +kernel) ha (pk_cons (pe_glob (v := .ref f) hgk hf rfl) pk_nil) (by decide) (by decide) he hpl hall hnone hks) fun σ H Q ⟨B, G, c, fp, A, q⟩ => txa_seq A q fun ds e0 vs G1 H1 s1 t1 A1 r1 q1 => ?_
  obtain ⟨d, e3, p3⟩ := Res.lift q1
  unfold fMinK at e3
  split at e3
  · rename_i es
    obtain ⟨ss, e4, e5⟩ := Option.bind_eq_some_iff.mp e3
    split at e5
    · rename_i hall
      obtain ⟨w, e6, rfl⟩ := Option.map_eq_some_iff.mp e5
      obtain ⟨v, rfl, rv⟩ := r1.one
      obtain ⟨a, vs, rfl, h1, r2⟩ := rv.lstH A1.fine.le
      have hv : vs = (ss.map S).map V.str := asSs_rp r2 e4
      subst hv
      show rMinSK X.K f [V.ref a] [V.ref f] H1 Q
      refine ⟨a, ss.map S, S w, rfl, rfl, h1, fun x hx => ?_, ?_, (p3.grow s1 t1).here A1 (.str _)⟩
      · obtain ⟨s, hs, rfl⟩ := List.mem_map.mp hx
        have := List.all_eq_true.mp hall s hs
        rw [sizeLine_eq]
        show s.toArray.size ≤ _
        simpa using this
      · rw [List.length_map, List.getElem?_map, e6]; rfl
    · cases e5
  · cases e3
/-! ### a dict of constants, locked -/
theorem px_dcK {keys : List (Option Expr)} {values : List Expr} {trs : List (TE × TE)} (kvs : List (Key × V)) (ks ds : List D) (h : PPs X pos keys values trs) (hc : ∀ σ H R, R (kvs.map fun kv => (kV kv.1, kv.2)) H → tPairs trs σ H R := by exact fun _ _ _ q => q)
    (hm : mergeK [] kvs = kvs := by rfl) (hk : ks.map D.key = kvs.map (fun p => some p.1) := by rfl) (hd : ∀ G : Hp, RpL ⟨X.K, X.mg, X.w⟩ G (kvs.map (·.2)) ds) (hall : keys.all (·.isSome) = true := by rfl) (hl : keys.length = values.length := by rfl) (h0 : keys ≠ [] := by simp) (h15 : keys.length ≤ 15 := by decide) (h16 : kvs.length ≤ 15 := by decide) :
    PX X W true (.Dict keys values pos) (eC (.dlk ks ds)) :=
  pe_mono (pe_lockOut (pe_disp h hall hl h0 h15)) fun σ H Q ⟨B, G, c, fp, A, q⟩ => fun p hp => hc _ _ _ (by
    have q' : Post ⟨X.K, X.mg, X.w⟩ B c σ fp G H true Q (.dlk ks ds) := q
    refine ⟨upd_same, kvs, rfl, h16, p, _, upd_same, True.intro, fun od => ?_⟩
    have e : upd (upd (upd H p (.dK [])) p (.dK (mergeK [] kvs))) p (.frz od (.dK (mergeK [] kvs))) = upd H p (.frz od (.dK kvs)) := by
      rw [hm]
      funext a
      by_cases ha : a = p
      · subst ha; rw [upd_same, upd_same]
      · rw [upd_ne ha, upd_ne ha, upd_ne ha, upd_ne ha]
    rw [e]
    exact q'.new A hp fun s => .dlk (kvs := kvs) upd_same hk (hd _))
end
end VS

/-! VS: dicts whose keys are tuples, nested. -/
namespace VS
open PySem PySem.Spec PyProof.Rows L2
section
variable {X : Cx} {pins : List (Addr × Obj)} {σ : L2.St} {H : Hp} {s : Shared}
mutual
theorem nested_of (I : L2.Inv X pins σ H s) : ∀ (d : D) {v : V} {u : Value} {k : NestedKey}, Rp ⟨X.K, X.mg, X.w⟩ H v d → RelV v u → D.nq d = some k → NestedIs s.heap k u
  | .non, v, u, k, r, rv, e => by
    cases r; cases e
    cases (show u = Value.none from rv)
    exact .none
  | .bl b, v, u, k, r, rv, e => by
    cases r; cases e
    cases (show u = Value.bool b from rv)
    exact .bool rfl
  | .int i, v, u, k, r, rv, e => by
    cases r; cases e
    obtain ⟨t, rfl⟩ := rv
    exact .int i t
  | .str l, v, u, k, r, rv, e => by
    cases r; cases e
    obtain ⟨t, rfl⟩ := rv
    exact .text (S l) t
  | .tup ds, v, u, k, r, rv, e => by
    cases r with
    | tup hs rl =>
      rw [D.nq] at e
      obtain ⟨ks, ek, rfl⟩ := Option.map_eq_some_iff.mp e
      cases rv
      obtain ⟨its, r1, ⟨o, h1, h2, n, h3⟩, _⟩ := I.tuple hs
      exact .tup h1 h2 h3 (by simpa using nested_all I ds rl r1 ek)
  | .lst ds, v, u, k, r, rv, e => by simp [D.nq] at e
  | .dic ks ds, v, u, k, r, rv, e => by simp [D.nq] at e
  | .dlk ks ds, v, u, k, r, rv, e => by simp [D.nq] at e
  | .ndk ks ds, v, u, k, r, rv, e => by simp [D.nq] at e
  | .nlk ks ds, v, u, k, r, rv, e => by simp [D.nq] at e
  | .rng lo hi, v, u, k, r, rv, e => by simp [D.nq] at e
  | .obj C fs ds, v, u, k, r, rv, e => by simp [D.nq] at e
theorem nested_all (I : L2.Inv X pins σ H s) : ∀ (ds : List D) {vs : List V} {us : List Value} {ks : List NestedKey}, RpL ⟨X.K, X.mg, X.w⟩ H vs ds → Vals vs us → D.nqs ds = some ks → NestedAll s.heap ks us
  | [], vs, us, ks, r, rv, e => by
    cases r; cases rv
    rw [D.nqs] at e
    cases e
    exact .nil
  | d :: ds, vs, us, ks, r, rv, e => by
    cases r with
    | cons h1 h2 =>
      cases rv with
      | cons r1 r2 =>
        rw [D.nqs] at e
        obtain ⟨k, e1, e2⟩ := Option.bind_eq_some_iff.mp e
        obtain ⟨ks', e3, rfl⟩ := Option.map_eq_some_iff.mp e2
        exact .cons (nested_of I d h1 r1 e1) (nested_all I ds h2 r2 e3)
end
theorem nk_tup {d : D} {k : NestedKey} (e : D.nk d = some k) : ∃ ds, d = .tup ds ∧ D.nq d = some k ∧ k.depth ≤ 8 := by
  cases d <;> simp only [D.nk] at e <;> try cases e
  rename_i ds
  obtain ⟨k', e1, e2⟩ := Option.bind_eq_some_iff.mp e
  split at e2
  · cases e2; exact ⟨ds, rfl, e1, by assumption⟩
  · cases e2
/-- the value of a key -/
theorem key_is (I : L2.Inv X pins σ H s) {d : D} {v : V} {u : Value} {k : NestedKey} (r : Rp ⟨X.K, X.mg, X.w⟩ H v d) (rv : RelV v u) (e : D.nk d = some k) : ∃ b, v = .ref b ∧ u = .ref b ∧ (nestedKind X.prog X.w).is s.heap k b := by
  obtain ⟨ds, rfl, e1, e2⟩ := nk_tup e
  cases r with
  | @tup a vs ds hs rl =>
    cases (show u = Value.ref a from rv)
    exact ⟨a, rfl, rfl, nested_of I (.tup ds) (.tup hs rl) rfl e1, e2⟩
/-- at a stands a dict with these entries; its keys -/
structure ND (E : Wd) (H : Hp) (a : Addr) (xs : List (NestedKey × Addr × Value)) (ks : List D) : Prop where
  rd : Rd H a (dN E.w a xs)
  ky : ks.map D.nk = xs.map (fun x => some x.1)
  nd : (xs.map (·.1)).Nodup
  kr : RpL E H (xs.map fun x => V.ref x.2.1) ks
theorem keys_of {E : Wd} : ∀ {xs : List (NestedKey × Addr × Value)} {ks : List D}, ks.map D.nk = xs.map (fun x => some x.1) → RpL E H (xs.map fun x => V.ref x.2.1) ks → ∀ x ∈ xs, ∃ d, D.nk d = some x.1 ∧ Rp E H (.ref x.2.1) d
  | [], ks, _, _, x, hx => nomatch hx
  | y :: xs, ks, e, r, x, hx => by
    cases ks with
    | nil => simp at e
    | cons d ks =>
      have e1 : D.nk d = some y.1 := by simpa using (List.cons.inj e).1
      have e2 : ks.map D.nk = xs.map (fun x => some x.1) := (List.cons.inj e).2
      cases r with
      | cons h1 h2 =>
        rcases List.mem_cons.mp hx with rfl | z
        · exact ⟨d, e1, h1⟩
        · exact keys_of e2 h2 x z
theorem ND.of {a : Addr} {xs : List (NestedKey × Addr × Value)} {ks : List D} (I : L2.Inv X pins σ H s) (h : ND ⟨X.K, X.mg, X.w⟩ H a xs ks) : (a == sysModules) = false ∧ s.heap.DictOfH (nestedKind X.prog X.w) a xs := by
  have x : ObjOk X.prog X.w H s.heap a (dN X.w a xs) := rd_of I.hok h.rd
  unfold dN at x
  obtain ⟨hs, o, es, ep, h1, h2, h3, h4⟩ := (show _ ∧ _ from x.1)
  refine ⟨hs, o, es, ep, h1, h2, h3, h4, fun y hy => ?_, h.nd⟩
  obtain ⟨d, e1, e2⟩ := keys_of h.ky h.kr y hy
  obtain ⟨b, eb, _, hk⟩ := key_is I e2 (u := .ref y.2.1) rfl e1
  cases eb
  exact hk
theorem dN_ok {P : Program} {w : World} {H' : Hp} {h' : Heap} {a : Addr} {xs : List (NestedKey × Addr × Value)} (hs : (a == sysModules) = false) (dd : h'.DictOfH (nestedKind P w) a xs) : ObjOk P w H' h' a (dN w a xs) := by
  obtain ⟨o, es, ep, h1, h2, h3, h4, _, _⟩ := dd
  unfold dN
  exact ⟨⟨hs, o, es, ep, h1, h2, h3, h4⟩, ⟨o, h1⟩, fun g1 g2 ⟨z, o', es', ep', q1, q2, q3, q4⟩ k => ⟨z, o', es', ep', k _ q1, q2, q3, q4⟩⟩
end
/-! ### the rules, over the heap -/
def tNGet (E : Wd) (td ty : TE) : TE := fun σ H Q => td σ H fun x H1 => ty σ H1 fun y H2 => ∃ a xs ks d k p v, x = .ref a ∧ ND E H2 a xs ks ∧ Rp E H2 y d ∧ D.nk d = some k ∧ atKey xs k = some p ∧ RelV v p.2 ∧ Q v H2
def tNIn (E : Wd) (neg : Bool) (ty td : TE) : TE := fun σ H Q => ty σ H fun y H1 => td σ H1 fun x H2 => ∃ a xs ks d k, x = .ref a ∧ ND E H2 a xs ks ∧ Rp E H2 y d ∧ D.nk d = some k ∧ Q (.bl (cond neg (!(atKey xs k).isSome) (atKey xs k).isSome)) H2
def rSetN (E : Wd) : TSet := fun o i v H Q => ∃ a xs ks d k, o = .ref a ∧ ND E H a xs ks ∧ H a = some (dN E.w a xs) ∧ Rp E H i d ∧ D.nk d = some k ∧ xs.length < sizeLine ∧ ∀ b u, i = .ref b → RelV v u → Q (upd H a (dN E.w a (storedH xs k b u)))
section
variable {X : Cx} {o i e value : Expr} {pos pos' tpos : Pos} {td ty tv : TE}
theorem pe_nget (hu : X.A.units + 9 < cLine) (ho : PE X o td) (hi : PE X i ty) (hs : NoSl i) : PE X (.Subscript o i pos) (tNGet ⟨X.K, X.mg, X.w⟩ td ty) := by
  refine ⟨fun pins s σ H Q I h => ?_⟩
  refine subD_of PySem.F.slot_dict_getitem.lookup hs (thn (ho.run pins s σ H _ I h) fun u s1 ⟨x, H1, I1, rx, q1⟩ => thn (hi.run pins s1 σ H1 _ I1 q1) fun iv s2 ⟨y, H2, I2, ry, a, xs, ks, d, k, p, v, ex, nd, rk, ek, hp, rv, q2⟩ => ?_)
  subst ex
  obtain rfl : u = Value.ref a := rx
  obtain ⟨hsy, hm⟩ := nd.of I2
  obtain ⟨b, rfl, rfl, hk⟩ := key_is I2 rk ry ek
  exact ⟨hm.typeIs, wpAny_getItem_heap (knd := nestedKind X.prog X.w) (by show X.A.units + 1 + 8 < cLine; omega) hk hm hp ⟨v, H2, I2.tok _, rv, q2⟩⟩
theorem pc_nin (hu : X.A.units + 9 < cLine) (hi : PE X i ty) (ho : PE X o td) : PC X .In i o (tNIn ⟨X.K, X.mg, X.w⟩ false ty td) := by
  refine ⟨fun pins s σ H Q I h => ?_⟩
  refine thn (hi.run pins s σ H _ I h) fun iv s1 ⟨y, H1, I1, ry, q1⟩ => thn (ho.run pins s1 σ H1 _ I1 q1) fun u s2 ⟨x, H2, I2, rx, a, xs, ks, d, k, ex, nd, rk, ek, q2⟩ => ?_
  subst ex
  obtain rfl : u = Value.ref a := rx
  obtain ⟨hsy, hm⟩ := nd.of I2
  obtain ⟨b, rfl, rfl, hk⟩ := key_is I2 rk ry ek
  exact wpAny_in_heap (knd := nestedKind X.prog X.w) (by show X.A.units + 1 + 8 < cLine; omega) hk hsy hm ⟨.bl _, H2, I2.tok _, rfl, q2⟩
theorem pc_nnotin (hu : X.A.units + 9 < cLine) (hi : PE X i ty) (ho : PE X o td) : PC X .NotIn i o (tNIn ⟨X.K, X.mg, X.w⟩ true ty td) := by
  refine ⟨fun pins s σ H Q I h => ?_⟩
  refine thn (hi.run pins s σ H _ I h) fun iv s1 ⟨y, H1, I1, ry, q1⟩ => thn (ho.run pins s1 σ H1 _ I1 q1) fun u s2 ⟨x, H2, I2, rx, a, xs, ks, d, k, ex, nd, rk, ek, q2⟩ => ?_
  subst ex
  obtain rfl : u = Value.ref a := rx
  obtain ⟨hsy, hm⟩ := nd.of I2
  obtain ⟨b, rfl, rfl, hk⟩ := key_is I2 rk ry ek
  refine notIn_keyed (knd := nestedKind X.prog X.w) (by show X.A.units + 1 + 8 < cLine; omega) hk hsy ⟨xs, hm, rfl⟩ ⟨.bl _, H2, I2.tok _, rfl, ?_⟩
  rw [valueAt_pairsH, Option.isSome_map]
  exact q2
theorem set_nd (hu : X.A.units + 9 < cLine) : PSet X (rSetN ⟨X.K, X.mg, X.w⟩) := by
  intro pins s σ H o i v ov iv u Q I ro ri rv h
  obtain ⟨a, xs, ks, d, k, rfl, nd, ha, rk, ek, hl, q⟩ := h
  obtain rfl : ov = Value.ref a := ro
  obtain ⟨hsy, hm⟩ := nd.of I
  obtain ⟨b, rfl, rfl, hk⟩ := key_is I rk ri ek
  refine wpAny_setItem_heap (knd := nestedKind X.prog X.w) (by show X.A.units + 1 + 8 < cLine; omega) hk hm (fun h' dd hs => ?_) (Nat.le_of_lt hl)
  have he : ∃ q, h'.get? a = some q := let ⟨q, _, _, hq, _⟩ := dd; ⟨q, hq⟩
  exact ⟨_, d_write I (by rw [ha]; exact True.intro) hs he (dN_ok hsy dd), q b u rfl rv⟩
end
end VS

/-! VS: dicts with nested keys, as the names own them. -/
namespace VS
open PySem PySem.Spec PyProof.Rows L2
theorem Abs.fork {E : Wd} {B : Bs} {c : Env} {σ : L2.St} {fp : List Addr} {G H : Hp} (A : Abs E B G H c σ fp) : ∃ B', B'.H0 = H ∧ Abs E B' G H c σ fp ∧
    ∀ G' H' , Same G G' → Same H H' → Abs E B' G' H' c σ fp → Abs E B G' H' c σ fp ∧ ∀ a, H a ≠ none → G a = none → G' a = none := by
  refine ⟨⟨H, G, [], fun a => a ∈ fp⟩, rfl, ⟨⟨fun a o e _ => e, fun a e => e, fun a _ e => e, A.fine.le, A.fine.tup⟩, A.cells, A.nd, fun p hp => ⟨(A.fresh p hp).1, .inr hp⟩, fun q hq => nomatch hq⟩, fun G' H' s t A2 => ?_⟩
  have gr : ∀ a, H a ≠ none → G a = none → G' a = none := A2.fine.x
  refine ⟨⟨⟨fun a o e n => t a o (A.fine.base a o e n), fun a e => A.fine.there a (t.free e), fun a h1 h2 => gr a (fun z => h1 (A.fine.there a z)) (A.fine.x a h1 h2), A2.fine.le, A2.fine.tup⟩, A.cells.keep s (fun p _ u e => t p u e), A.nd, fun p hp => ⟨gr p (A.cells.there p hp) (A.fresh p hp).1, (A.fresh p hp).2⟩, A.pin⟩, gr⟩
/-! ### reckoning with keys -/
def nHas (ks : List D) (k : NestedKey) : Bool := ks.any fun x => decide (D.nk x = some k)
def nGet : List D → List O → NestedKey → Option O
  | x :: ks, o :: os, k => if D.nk x = some k then some o else nGet ks os k
  | _, _, _ => none
def nRep : List D → List O → NestedKey → D → List O
  | x :: ks, o :: os, k, d => (if D.nk x = some k then .v d else o) :: nRep ks os k d
  | _, _, _, _ => []
def nPut (ks : List D) (os : List O) (kd : D) (k : NestedKey) (d : D) : Option O :=
  if ks.length < 16777216 then some (if nHas ks k then .ndc ks (nRep ks os k d) else .ndc (ks ++ [kd]) (os ++ [.v d])) else none
theorem nHas_at : ∀ {xs : List (NestedKey × Addr × Value)} {ks : List D} (k : NestedKey), ks.map D.nk = xs.map (fun x => some x.1) → nHas ks k = (atKey xs k).isSome
  | [], ks, k, e => by
    cases ks with
    | nil => rfl
    | cons _ _ => simp at e
  | x :: xs, ks, k, e => by
    cases ks with
    | nil => simp at e
    | cons d ks =>
      have e1 : D.nk d = some x.1 := by simpa using (List.cons.inj e).1
      have e2 : ks.map D.nk = xs.map (fun x => some x.1) := (List.cons.inj e).2
      have ih := nHas_at k e2
      unfold nHas at ih ⊢
      rw [List.any_cons, ih, e1]
      unfold atKey
      rw [List.find?_cons]
      by_cases h : x.1 = k
      · rw [h]; simp
      · have : decide ((some x.1 : Option NestedKey) = some k) = false := decide_eq_false fun z => h (Option.some.inj z)
        rw [this, decide_eq_false h]; rfl
theorem nGet_at {E : Wd} {G H : Hp} : ∀ {xs : List (NestedKey × Addr × Value)} {ks : List D} {vs : List V} {os : List O} {fp : List Addr} {k : NestedKey} {o : O}, ks.map D.nk = xs.map (fun x => some x.1) → Vals vs (xs.map fun x => x.2.2) → OwnL E G H vs os fp → nGet ks os k = some o →
    ∃ p v fq, atKey xs k = some p ∧ RelV v p.2 ∧ Own E G H v o fq
  | [], ks, vs, os, fp, k, o, e, _, _, h => by
    cases ks with
    | nil => simp [nGet] at h
    | cons _ _ => simp at e
  | x :: xs, ks, vs, os, fp, k, o, e, rv, ow, h => by
    cases ks with
    | nil => simp at e
    | cons d ks =>
      have e1 : D.nk d = some x.1 := by simpa using (List.cons.inj e).1
      have e2 : ks.map D.nk = xs.map (fun x => some x.1) := (List.cons.inj e).2
      cases rv with
      | cons r1 r2 =>
        cases ow with
        | cons o1 o2 =>
          rw [nGet, e1] at h
          unfold atKey
          rw [List.find?_cons]
          by_cases hk : x.1 = k
          · rw [if_pos (by rw [hk])] at h
            cases h
            rw [decide_eq_true hk]
            exact ⟨x.2, _, _, rfl, r1, o1⟩
          · rw [if_neg (fun z => hk (Option.some.inj z))] at h
            rw [decide_eq_false hk]
            exact nGet_at e2 r2 o2 h
theorem nRep_own {E : Wd} {G H : Hp} {w : V} {d : D} {u : Value} {k : NestedKey} (rw' : RelV w u) (rd : Rp E G w d) : ∀ {xs : List (NestedKey × Addr × Value)} {ks : List D} {vs : List V} {os : List O} {fp : List Addr}, ks.map D.nk = xs.map (fun x => some x.1) → Vals vs (xs.map fun x => x.2.2) → OwnL E G H vs os fp → fp.Nodup →
    ∃ vs' fq, Vals vs' ((xs.map (putAt k u)).map fun x => x.2.2) ∧ OwnL E G H vs' (nRep ks os k d) fq ∧ fq.Nodup ∧ ∀ p ∈ fq, p ∈ fp
  | [], ks, vs, os, fp, e, rv, ow, n => by
    cases ks with
    | nil => exact ⟨[], [], .nil, by simpa [nRep] using (OwnL.nil : OwnL E G H [] [] []), List.nodup_nil, fun p hp => nomatch hp⟩
    | cons _ _ => simp at e
  | x :: xs, ks, vs, os, fp, e, rv, ow, n => by
    cases ks with
    | nil => simp at e
    | cons y ks =>
      have e1 : D.nk y = some x.1 := by simpa using (List.cons.inj e).1
      have e2 : ks.map D.nk = xs.map (fun x => some x.1) := (List.cons.inj e).2
      cases rv with
      | cons r1 r2 =>
        cases ow with
        | @cons _ _ o os f1 f2 o1 o2 =>
          obtain ⟨n1, n2, n3⟩ := List.nodup_append.mp n
          obtain ⟨vs', fq, k1, k2, k3, k4⟩ := nRep_own (k := k) rw' rd e2 r2 o2 n2
          rw [nRep, e1]
          by_cases hk : x.1 = k
          · rw [if_pos (by rw [hk])]
            refine ⟨w :: vs', [] ++ fq, ?_, .cons (.v rd) k2, by simpa using k3, fun p hp => List.mem_append_right _ (k4 p (by simpa using hp))⟩
            rw [List.map_cons, List.map_cons]
            refine .cons ?_ k1
            unfold putAt
            rw [if_pos hk]
            exact rw'
          · rw [if_neg (fun z => hk (Option.some.inj z))]
            refine ⟨_, f1 ++ fq, ?_, .cons o1 k2, List.nodup_append.mpr ⟨n1, k3, fun a ha b hb => n3 a ha b (k4 b hb)⟩, fun p hp => ?_⟩
            · rw [List.map_cons, List.map_cons]
              refine .cons ?_ k1
              unfold putAt
              rw [if_neg hk]
              exact r1
            · rcases List.mem_append.mp hp with hp | hp
              · exact List.mem_append_left _ hp
              · exact List.mem_append_right _ (k4 p hp)
theorem putAt_map {β : Type} (f : NestedKey → Addr → β) (k : NestedKey) (u : Value) (xs : List (NestedKey × Addr × Value)) : (xs.map (putAt k u)).map (fun x => f x.1 x.2.1) = xs.map fun x => f x.1 x.2.1 := by
  rw [List.map_map]
  apply List.map_congr_left
  intro x _
  simp only [Function.comp_def]
  unfold putAt
  split <;> rfl
def atN (i : Nat) (c : Env) : Option (List D × List O) := match c[i]? with
  | some (some (.ndc ks os)) => some (ks, os)
  | _ => none
theorem atN_eq {i : Nat} {c : Env} {q : List D × List O} (h : atN i c = some q) : c[i]? = some (some (.ndc q.1 q.2)) := by
  unfold atN at h
  split at h
  · cases h; assumption
  · cases h
def atNk (i : Nat) (c : Env) : Option (List D × List O) := match c[i]? with
  | some (some (.ndc ks os)) => some (ks, os)
  | some (some (.v (.ndk ks ds))) => some (ks, ds.map .v)
  | some (some (.v (.nlk ks ds))) => some (ks, ds.map .v)
  | _ => none
theorem Abs.ndict {E : Wd} {B : Bs} {G H : Hp} {c : Env} {σ : L2.St} {fp : List Addr} {i : Nat} {q : List D × List O} (A : Abs E B G H c σ fp) (h : atNk i c = some q) :
    ∃ a xs vs fq, σ[i]? = some (some (.ref a)) ∧ ND E H a xs q.1 ∧ Vals vs (xs.map fun x => x.2.2) ∧ OwnL E G H vs q.2 fq := by
  unfold atNk at h
  split at h
  · rename_i e
    cases h
    obtain ⟨v, fq, h1, h2, _⟩ := A.cells.get e
    cases h2 with
    | ndc ha ky n vl kr ow => exact ⟨_, _, _, _, h1, ⟨.inl ha, ky, n, kr.mono A.fine.le⟩, vl, ow⟩
  · rename_i e
    cases h
    obtain ⟨v, fq, h1, h2, _⟩ := A.cells.get e
    cases h2 with
    | v rv =>
      cases rv with
      | ndk ha ky n vl kr r => exact ⟨_, _, _, [], h1, ⟨Same.rd A.fine.le ha, ky, n, kr.mono A.fine.le⟩, vl, ownL_v r⟩
  · rename_i e
    cases h
    obtain ⟨v, fq, h1, h2, _⟩ := A.cells.get e
    cases h2 with
    | v rv =>
      cases rv with
      | nlk ha ky n vl kr r => exact ⟨_, _, _, [], h1, ⟨.inr ⟨_, A.fine.le _ _ ha⟩, ky, n, kr.mono A.fine.le⟩, vl, ownL_v r⟩
  · cases h
def sNSet (i : Nat) (gi g : Env → R D) : Env → Rs := fun c => (g c).st c fun d => (lift (atN i c)).st c fun q => (gi c).st c fun k => (lift (D.nk k)).st c fun kk => (lift (nPut q.1 q.2 k kk d)).st c fun o => .ok .nx (c.set i (some o))
def eNIx (i : Nat) (gk : Env → R D) : Env → R D := fun c => match atNk i c with
  | some q => gk c >>= fun k => lift (D.nk k) >>= fun kk => lift ((nGet q.1 q.2 kk).bind fun o => match o with | .v d => some d | _ => none)
  | none => .stuck
def eNIn (neg : Bool) (i : Nat) (gk : Env → R D) : Env → R D := fun c => match atNk i c with
  | some q => gk c >>= fun k => lift (D.nk k) >>= fun kk => .ok (.bl (cond neg (!nHas q.1 kk) (nHas q.1 kk)))
  | none => .stuck
section
variable {X : Cx} {W : WX} {b : Bool} {pn : List Nat} {e : Expr} {pos : Pos}
theorem px_nix {x : Str} {p : Pos} (i : Nat) {eb : Expr} {gb : Env → R D} (hu : X.A.units + 65 < cLine) (hb : PX X W b eb gb) (hN : X.N[i]? = some x := by rfl) (hv : Vis X.env.scope x := by first | exact Or.inl rfl | exact Or.inr (Or.inl rfl) | exact Or.inr (Or.inr rfl)) (hd : (x == ("__debug__" : Str)) = false := by decide)
    (hcd : (x == ("__classdict__" : Str)) = false := by decide) (hs : NoSl eb := by exact fun _ _ => rfl) : PX X W true (.Subscript (.Name x p) eb pos) (eNIx i gb) :=
  pe_mono (pe_nget (by omega) (pe_var hN hv hd hcd) hb hs) fun σ H Q ⟨B, G, c, fp, A, q⟩ => by
    unfold eNIx at q
    split at q
    · rename_i q' e0
      obtain ⟨a, xs, vs, fq, h1, _⟩ := A.ndict e0
      refine ⟨_, h1, tx_seq A q fun k e3 w G1 H1 s1 t1 A1 r1 q1 => ?_⟩
      obtain ⟨a', xs, vs, fq, h1', nd, vl, ow⟩ := A1.ndict e0
      rw [h1] at h1'
      cases h1'
      cases hk : D.nk k with
      | none => rw [hk] at q1; exact q1.elim
      | some kk =>
        rw [hk] at q1
        obtain ⟨d, e4, p4⟩ := Res.lift q1
        obtain ⟨o, e5, e6⟩ := Option.bind_eq_some_iff.mp e4
        obtain ⟨p, v8, f8, e9, e10, e11⟩ := nGet_at nd.ky vl ow e5
        cases o with
        | v d' =>
          cases e6
          cases e11 with
          | v rv => exact ⟨_, xs, q'.1, k, kk, p, v8, rfl, nd, vw_rp A1.fine.le r1, hk, e9, e10, p4 _ G1 H1 s1 t1 A1 rv⟩
        | _ => cases e6
    · exact q.elim
theorem TXnin {i : Nat} {gb : Env → R D} {neg : Bool} {td : TE} {σ : L2.St} {H : Hp} {Q : VK} (hv : ∀ (σ : L2.St) (H : Hp) (Q : VK) (v : V), σ[i]? = some (some v) → Q v H → td σ H Q)
    (q : TX ⟨X.K, X.mg, X.w⟩ W true (eNIn neg i gb) σ H Q) : tNIn ⟨X.K, X.mg, X.w⟩ neg (TX ⟨X.K, X.mg, X.w⟩ W b gb) td σ H Q := by
  obtain ⟨B, G, c, fp, A, q⟩ := q
  unfold eNIn at q
  split at q
  · rename_i q' e0
    obtain ⟨a0, _, _, _, h1, _⟩ := A.ndict e0
    refine tx_seq A q fun k e3 w G1 H1 s1 t1 A1 r1 q1 => hv σ H1 _ _ h1 ?_
    obtain ⟨a, xs, vs, fq, h1', nd, vl, ow⟩ := A1.ndict e0
    rw [h1] at h1'
    cases h1'
    cases hk : D.nk k with
    | none => rw [hk] at q1; exact q1.elim
    | some kk =>
      rw [hk] at q1
      refine ⟨_, xs, q'.1, k, kk, rfl, nd, vw_rp A1.fine.le r1, hk, ?_⟩
      rw [← nHas_at kk nd.ky]
      exact q1 _ G1 H1 s1 t1 A1 (.bl _)
  · exact q.elim
theorem px_nin {x : Str} {p : Pos} (i : Nat) {eb : Expr} {gb : Env → R D} (hu : X.A.units + 65 < cLine) (hb : PX X W b eb gb) (hN : X.N[i]? = some x := by rfl) (hv : Vis X.env.scope x := by first | exact Or.inl rfl | exact Or.inr (Or.inl rfl) | exact Or.inr (Or.inr rfl)) (hd : (x == ("__debug__" : Str)) = false := by decide)
    (hcd : (x == ("__classdict__" : Str)) = false := by decide) : PX X W true (.Compare eb [.In] [.Name x p] pos) (eNIn false i gb) :=
  pe_mono (pe_cmp (pc_nin (by omega) hb (pe_var hN hv hd hcd)) rfl) fun σ H Q q => TXnin (neg := false) (fun σ H Q v e q => ⟨v, e, q⟩) q
theorem px_nnotin {x : Str} {p : Pos} (i : Nat) {eb : Expr} {gb : Env → R D} (hu : X.A.units + 65 < cLine) (hb : PX X W b eb gb) (hN : X.N[i]? = some x := by rfl) (hv : Vis X.env.scope x := by first | exact Or.inl rfl | exact Or.inr (Or.inl rfl) | exact Or.inr (Or.inr rfl)) (hd : (x == ("__debug__" : Str)) = false := by decide)
    (hcd : (x == ("__classdict__" : Str)) = false := by decide) : PX X W true (.Compare eb [.NotIn] [.Name x p] pos) (eNIn true i gb) :=
  pe_mono (pe_cmp (pc_nnotin (by omega) hb (pe_var hN hv hd hcd)) rfl) fun σ H Q q => TXnin (neg := true) (fun σ H Q v e q => ⟨v, e, q⟩) q
theorem pxt_nin {x : Str} {p : Pos} (i : Nat) {eb : Expr} {gb : Env → R D} (hu : X.A.units + 65 < cLine) (hb : PX X W b eb gb) (hN : X.N[i]? = some x := by rfl) (hv : Vis X.env.scope x := by first | exact Or.inl rfl | exact Or.inr (Or.inl rfl) | exact Or.inr (Or.inr rfl)) (hd : (x == ("__debug__" : Str)) = false := by decide)
    (hcd : (x == ("__classdict__" : Str)) = false := by decide) : PXT X W (.Compare eb [.In] [.Name x p] pos) (eB (eNIn false i gb)) :=
  pt_mono (pt_cmp (pc_nin (by omega) hb (pe_var hN hv hd hcd)) rfl) fun σ H Q q => TXnin (neg := false) (fun σ H Q v e q => ⟨v, e, q⟩) (tx_test (b := true) σ H Q q)
theorem pxt_nnotin {x : Str} {p : Pos} (i : Nat) {eb : Expr} {gb : Env → R D} (hu : X.A.units + 65 < cLine) (hb : PX X W b eb gb) (hN : X.N[i]? = some x := by rfl) (hv : Vis X.env.scope x := by first | exact Or.inl rfl | exact Or.inr (Or.inl rfl) | exact Or.inr (Or.inr rfl)) (hd : (x == ("__debug__" : Str)) = false := by decide)
    (hcd : (x == ("__classdict__" : Str)) = false := by decide) : PXT X W (.Compare eb [.NotIn] [.Name x p] pos) (eB (eNIn true i gb)) :=
  pt_mono (pt_cmp (pc_nnotin (by omega) hb (pe_var hN hv hd hcd)) rfl) fun σ H Q q => TXnin (neg := true) (fun σ H Q v e q => ⟨v, e, q⟩) (tx_test (b := true) σ H Q q)
theorem pxs_nset {x : Str} {ei : Expr} {p p2 : Pos} (i : Nat) {gi g : Env → R D} (hu : X.A.units + 65 < cLine) (h : PX X W true e g) (hi : PX X W true ei gi) (hN : X.N[i]? = some x := by rfl) (hv : Vis X.env.scope x := by first | exact Or.inl rfl | exact Or.inr (Or.inl rfl) | exact Or.inr (Or.inr rfl)) (hd : (x == ("__debug__" : Str)) = false := by decide) (hcd : (x == ("__classdict__" : Str)) = false := by decide)
    (hs : swapsWithSole [.Subscript (.Name x p) ei p2] e pos.line X.env = pure false := by rfl) (hw : swappedStores [.Subscript (.Name x p) ei p2] e X.env = pure none := by rfl)
    (h1 : (assignEach [.Subscript (.Name x p) ei p2] X.env).map (·.2) = [assign (.Subscript (.Name x p) ei p2) X.env] := by rfl)
    (ha : ∀ v, assign (.Subscript (.Name x p) ei p2) X.env v = (do
      let ov ← holding [v] (eval (.Name x p) X.env)
      let iv ← holding [v, ov] (eval ei X.env)
      standAt p2
      holding [v, ov, iv] (setItem ov iv v)
      release [v, ov, iv] []) := by intro _; rfl) : PXS X W pn (.Assign [.Subscript (.Name x p) ei p2] e pos) (sNSet i gi g) :=
  ps_mono (ps_asg h (pg_sub (pe_var hN hv hd hcd) hi (set_nd (by omega)) ha) hs hw h1) fun Dn σ H ⟨B, G, c, fp, A, P, q⟩ => tx_st A q fun d e w G1 H1 s1 t1 A1 r1 q1 => by
    obtain ⟨⟨ks, os⟩, e0, q1⟩ := lift_st q1
    have e1 := atN_eq e0
    obtain ⟨v, fq, h1, h2, _, _, _⟩ := A1.poke e1
    cases h2 with
    | @ndc a _ _ _ _ _ ha _ _ _ _ _ =>
      refine ⟨_, h1, tx_st A1 q1 fun k e3 w2 G2 H2 s2 t2 A2 r2 q2 => ?_⟩
      obtain ⟨kk, ek, q3⟩ := lift_st q2
      obtain ⟨o, eo, q4⟩ := lift_st q3
      obtain ⟨v, fq, h1', h2, n, hin, hpk⟩ := A2.poke e1
      rw [h1] at h1'
      cases h1'
      cases h2 with
      | @ndc _ xs vs _ _ fq ha ky hn vl kr ow =>
        have hkl : ks.length = xs.length := by simpa using congrArg List.length ky
        have nn := List.nodup_cons.mp n
        unfold nPut at eo
        split at eo
        · rename_i hl
          cases eo
          have r2 : Rp ⟨X.K, X.mg, X.w⟩ G2 w2 k := r2
          refine ⟨a, xs, ks, k, kk, rfl, ⟨.inl ha, ky, hn, kr.mono A2.fine.le⟩, ha, r2.mono A2.fine.le, ek, by rw [← hkl, sizeLine_eq]; exact hl, fun b u eb ru => ?_⟩
          subst eb
          have ow2 := ow.upd (p := a) (u := dN X.w a (storedH xs kk b u)) nn.1
          have hh := nHas_at kk ky
          cases hb : nHas ks kk with
          | true =>
            rw [hb] at q4 hh
            have hput : storedH xs kk b u = xs.map (putAt kk u) := by unfold storedH; rw [if_pos hh.symm]
            obtain ⟨vs', fr, k1, k2, k3, k4⟩ := nRep_own (k := kk) ru (r1.mono s2) ky vl ow2 nn.2
            have ky' : ks.map D.nk = (storedH xs kk b u).map (fun x => some x.1) := by
              rw [hput]
              exact ky.trans (putAt_map (fun y _ => some y) kk u xs).symm
            have hn' : ((storedH xs kk b u).map (·.1)).Nodup := by
              rw [hput]
              exact (show (xs.map (putAt kk u)).map (·.1) = xs.map (·.1) from putAt_map (fun y _ => y) kk u xs) ▸ hn
            have kr' : RpL ⟨X.K, X.mg, X.w⟩ G2 ((storedH xs kk b u).map fun x => V.ref x.2.1) ks := by
              rw [hput, putAt_map (fun _ y => V.ref y) kk u xs]
              exact kr
            rw [← hput] at k1
            obtain ⟨fp', A3⟩ := hpk List.mem_cons_self (u := dN X.w a (storedH xs kk b u)) rfl (.ndc upd_same ky' hn' k1 kr' k2) (List.nodup_cons.mpr ⟨fun z => nn.1 (k4 a z), k3⟩) (fun q hq => by
              rcases List.mem_cons.mp hq with z | z
              · rw [z]; exact List.mem_cons_self
              · exact List.mem_cons_of_mem _ (k4 q z))
            exact q4 σ G2 _ fp' (Same.refl _) A3
          | false =>
            rw [hb] at q4 hh
            have hno : atKey xs kk = none := by
              cases hx : atKey xs kk with
              | none => rfl
              | some p => rw [hx] at hh; cases hh
            have hput : storedH xs kk b u = xs ++ [(kk, b, u)] := storedH_new hno b u
            have ky' : (ks ++ [k]).map D.nk = (storedH xs kk b u).map (fun x => some x.1) := by
              rw [hput, List.map_append, List.map_append, ky]
              simp [ek]
            have hn' : ((storedH xs kk b u).map (·.1)).Nodup := by
              rw [hput, List.map_append, List.nodup_append]
              refine ⟨hn, by simp, fun y hy z hz e => ?_⟩
              have hz : z = kk := by simpa using hz
              obtain ⟨x, hx, rfl⟩ := List.mem_map.mp hy
              have : (atKey xs kk).isSome = true := by
                unfold atKey
                rw [Option.isSome_map, List.find?_isSome]
                exact ⟨x, hx, decide_eq_true (e.trans hz)⟩
              rw [hno] at this; cases this
            have vl' : Vals (vs ++ [w]) ((storedH xs kk b u).map fun x => x.2.2) := by
              rw [hput, List.map_append]
              exact vl.append (.cons ru .nil)
            have kr' : RpL ⟨X.K, X.mg, X.w⟩ G2 ((storedH xs kk b u).map fun x => V.ref x.2.1) (ks ++ [k]) := by
              rw [hput, List.map_append]
              exact kr.append (.cons r2 .nil)
            obtain ⟨fp', A3⟩ := hpk List.mem_cons_self (u := dN X.w a (storedH xs kk b u)) rfl (.ndc upd_same ky' hn' vl' kr' (ow2.append (.cons (.v (r1.mono s2)) .nil))) (by simpa using n) (fun q hq => by simpa using hq)
            exact q4 σ G2 _ fp' (Same.refl _) A3
        · cases eo
end
end VS

/-! VS: dicts with nested keys: new ones, their length. -/
namespace VS
open PySem PySem.Spec PyProof.Rows L2
def tNNew (w : World) : TE := fun _ H Q => ∀ p, H p = none → Q (.ref p) (upd H p (dN w p []))
def tN1 (E : Wd) (tk tv : TE) : TE := fun σ H Q => ∀ p, H p = none → tk σ (upd H p (dN E.w p [])) fun x H1 => tv σ H1 fun v H2 => ∃ d k, H2 p = some (dN E.w p []) ∧ Rp E H2 x d ∧ D.nk d = some k ∧ ∀ b u, x = .ref b → RelV v u → Q (.ref p) (upd H2 p (dN E.w p [(k, b, u)]))
def rLenN (E : Wd) : List V → Hp → VK → Prop := fun vs H Q => ∃ a xs ks, vs = [V.ref a] ∧ ND E H a xs ks ∧ (xs.length : Int) < 2 ^ 63 ∧ Q (.int xs.length) H
section
variable {X : Cx} {pos : Pos} {ke ve : Expr} {tk tv : TE}
theorem new_ok {P : Program} {w : World} {H : Hp} (h : Heap) (hb : sysModules < h.objs.size) : ObjOk P w H (h.push { cls := .type "dict", data := .dict #[] }) h.objs.size (dN w h.objs.size []) :=
  dN_ok (beq_eq_false_iff_ne.mpr fun z => Nat.lt_irrefl _ (z ▸ hb)) (Heap.DictOfH.new h)
theorem pe_nnew : PE X (.Dict [] [] pos) (tNNew X.w) := ⟨fun pins s σ H Q I h =>
  wpAny_Dict_empty ⟨.ref s.heap.objs.size, _, I.laid (a := s.heap.objs.size) (o := dN X.w s.heap.objs.size []) (t' := s.toks) (fun _ _ q => Heap.get?_push_of_some _ q) (Nat.le_refl _) (new_ok s.heap I.big), rfl, h _ (I.hok.fresh (Nat.le_refl _))⟩⟩
theorem pe_n1 (hu : X.A.units + 8 < cLine) (hk : PE X ke tk) (hv : PE X ve tv) : PE X (.Dict [some ke] [ve] pos) (tN1 ⟨X.K, X.mg, X.w⟩ tk tv) := by
  refine ⟨fun pins s σ H Q I q => ?_⟩
  have hn := I.hok.fresh (Nat.le_refl s.heap.objs.size)
  have I1 := I.laid (a := s.heap.objs.size) (o := dN X.w s.heap.objs.size []) (h' := s.heap.push { cls := .type "dict", data := .dict #[] }) (t' := s.toks) (fun _ _ q => Heap.get?_push_of_some _ q) (Nat.le_refl _) (new_ok s.heap I.big)
  have P := pps_cons (X := X) (pos := pos) hk hv pps_nil
  rw [arm_eval_Dict, zip_pairTrees [some ke] [ve] X.env pos rfl rfl, dictDisplay_pairs (pairTrees [some ke] [ve] X.env pos) (by
    intro z
    have := pairTrees_length [some ke] [ve] X.env pos rfl rfl
    rw [z] at this; cases this) (by rw [pairTrees_length [some ke] [ve] X.env pos rfl rfl]; exact (by decide : 1 < 17))]
  refine wpAny_bind (wpAny_standAt (wpAny_bind (wpAny_subDictH (knd := nestedKind X.prog X.w) (Q := fun d s' => wpAny (model X.prog X.w) X.A (pure (Value.ref d)) (EP X pins σ Q) X.xe s') hu (by rw [pairTrees_length [some ke] [ve] X.env pos rfl rfl]; exact (by decide : 1 ≤ 15)) ?_)))
  have hq : tPairs [(tk, tv)] σ (upd H s.heap.objs.size (dN X.w s.heap.objs.size [])) fun ps H2 => match ps with
      | [(x, v)] => ∃ d k, H2 s.heap.objs.size = some (dN X.w s.heap.objs.size []) ∧ Rp ⟨X.K, X.mg, X.w⟩ H2 x d ∧ D.nk d = some k ∧ ∀ b u, x = .ref b → RelV v u → Q (.ref s.heap.objs.size) (upd H2 s.heap.objs.size (dN X.w s.heap.objs.size [(k, b, u)]))
      | _ => False := q _ hn
  refine thn (P.run pins _ σ _ _ I1 hq) fun ws s2 ⟨ps, H2, I2, rel, hR⟩ => ?_
  obtain ⟨x, v, rfl⟩ : ∃ x v, ps = [(x, v)] := by
    match ps, hR with
    | [(x, v)], _ => exact ⟨x, v, rfl⟩
  obtain ⟨d, k, hp, rk, ek, q2⟩ := hR
  cases rel with
  | @cons _ pw _ _ h1 h2 =>
    cases h2
    obtain ⟨wk, wv⟩ := pw
    obtain ⟨b, rfl, rfl, hkey⟩ := key_is I2 rk h1.1 ek
    have nd0 : ND ⟨X.K, X.mg, X.w⟩ H2 s.heap.objs.size [] [] := ⟨.inl hp, rfl, List.nodup_nil, .nil⟩
    obtain ⟨hsy, hm⟩ := nd0.of I2
    refine ⟨[(k, b, wv)], ⟨rfl, rfl, hkey, True.intro⟩, hm, fun h' tk' dd hs => wpAny_pure ?_⟩
    have he : ∃ q, h'.get? s.heap.objs.size = some q := let ⟨q, _, _, hq, _⟩ := dd; ⟨q, hq⟩
    exact ⟨.ref s.heap.objs.size, _, d_write I2 (by rw [hp]; exact True.intro) hs he (dN_ok hsy dd), rfl, q2 b wv rfl h1.2⟩
theorem call_lenN : CallR X (.builtin "len") (rLenN ⟨X.K, X.mg, X.w⟩) := by
  intro pins s σ H xs us Q I r h
  obtain ⟨a, es, ks, rfl, nd, hl, q⟩ := h
  obtain ⟨u, rfl, rx⟩ := vals1 r
  obtain rfl : u = .ref a := rx
  obtain ⟨hsy, hm⟩ := nd.of I
  exact call_len_dictH hsy hm hl ⟨.int es.length, H, I.tok _, ⟨_, rfl⟩, q⟩
end
def eNNew : Env → R O := fun _ => .ok (.ndc [] [])
def eN1 (gk gv : Env → R D) : Env → R O := fun c => gk c >>= fun k => gv c >>= fun d => lift (D.nk k) >>= fun _ => .ok (.ndc [k] [.v d])
def fLenN : List D → Option D
  | [.ndk ks _] => if (ks.length : Int) < 2 ^ 63 then some (.int ks.length) else none
  | [.nlk ks _] => if (ks.length : Int) < 2 ^ 63 then some (.int ks.length) else none
  | _ => none
section
variable {X : Cx} {W : WX} {b : Bool} {pos : Pos} {ke ve : Expr}
theorem pf_nnew : PF X W (.Dict [] [] pos) eNNew :=
  pe_mono pe_nnew fun σ H Q ⟨B, G, c, fp, A, q⟩ => fun p hp => by
    have q' : PostF ⟨X.K, X.mg, X.w⟩ B c σ fp G H Q (.ndc [] []) := q
    refine q' (.ref p) G _ [p] (Same.refl _) (same_upd hp) (A.newO hp rfl) (.ndc (xs := []) (vs := []) upd_same rfl List.nodup_nil .nil .nil .nil) (by simp) fun q hq => ?_
    have : q = p := by simpa using hq
    subst this
    exact ⟨hp, A.fine.fresh hp⟩
theorem pf_n1 {gk gv : Env → R D} (hu : X.A.units + 65 < cLine) (hk : PX X W true ke gk) (hv : PX X W true ve gv) : PF X W (.Dict [some ke] [ve] pos) (eN1 gk gv) :=
  pe_mono (pe_n1 (by omega) hk hv) fun σ H Q ⟨B, G, c, fp, A, q⟩ => fun p hp => by
    have pf : p ∉ fp := fun z => A.cells.there p z hp
    have p0 : B.H0 p = none := A.fine.there p hp
    have gp : G p = none := A.fine.fresh hp
    have A1 : Abs ⟨X.K, X.mg, X.w⟩ B G (upd H p (dN X.w p [])) c σ fp := A.newO hp rfl
    obtain ⟨B', eB, A2, back⟩ := A1.fork
    have same1 : Same H (upd H p (dN X.w p [])) := same_upd hp
    unfold eN1 at q
    refine ⟨B', G, c, fp, A2, ?_⟩
    cases eg : gk c with
    | stuck => rw [eg] at q; exact q.elim
    | ex x =>
      rw [eg] at q
      exact fun cl dx G' H' s t A3 xr => q cl dx G' H' s (same1.trans t) (back G' H' s t A3).1 xr
    | ok kd =>
      rw [eg, ok_bind] at q
      intro x G1 H1 s1 t1 A3 r1
      refine ⟨B', G1, c, fp, A3, ?_⟩
      cases ev : gv c with
      | stuck => rw [ev] at q; exact q.elim
      | ex y =>
        rw [ev] at q
        exact fun cl dx G' H' s t A4 xr => q cl dx G' H' (s1.trans s) (same1.trans (t1.trans t)) (back G' H' (s1.trans s) (t1.trans t) A4).1 xr
      | ok d =>
        rw [ev, ok_bind] at q
        intro v G2 H2 s2 t2 A4 r2
        obtain ⟨A5, gr⟩ := back G2 H2 (s1.trans s2) (t1.trans t2) A4
        cases en : D.nk kd with
        | none => rw [en] at q; exact q.elim
        | some k =>
          rw [en] at q
          have q' : PostF ⟨X.K, X.mg, X.w⟩ B c σ fp G H Q (.ndc [kd] [.v d]) := q
          have hp2 : H2 p = some (dN X.w p []) := t2 p _ (t1 p _ upd_same)
          have g2 : G2 p = none := gr p (by rw [upd_same]; exact fun z => nomatch z) gp
          have r1 : Rp ⟨X.K, X.mg, X.w⟩ G1 x kd := r1
          have r2 : Rp ⟨X.K, X.mg, X.w⟩ G2 v d := r2
          refine ⟨kd, k, hp2, (r1.mono s2).mono A4.fine.le, en, fun b u eb ru => ?_⟩
          subst eb
          have sm : Same H (upd H2 p (dN X.w p [(k, b, u)])) := fun a o e => by
            have hne : a ≠ p := ne_of_none e hp
            rw [upd_ne hne]
            exact t2 a _ (t1 a _ (same1 a o e))
          refine q' (.ref p) G2 _ [p] (s1.trans s2) sm (A5.pokeOut pf g2 p0 rfl) (.ndc (xs := [(k, b, u)]) (vs := [v]) upd_same (by simp [en]) (by simp) (.cons ru .nil) (.cons (r1.mono s2) .nil) (.cons (.v r2) .nil)) (by simp) fun q hq => ?_
          have : q = p := by simpa using hq
          subst this
          exact ⟨hp, g2⟩
theorem ok_lenN : CallOk ⟨X.K, X.mg, X.w⟩ (rLenN ⟨X.K, X.mg, X.w⟩) b true fLenN := by
  intro B G H c σ fp vs ds d Q A r e p
  unfold fLenN at e
  split at e
  · split at e
    · cases e
      rename_i ks ds hl
      obtain ⟨v, rfl, rv⟩ := r.one
      have rv := vw_rp A.fine.le rv
      cases rv with
      | @ndk a xs vs _ _ h1 e1 n1 y1 k1 r1 =>
        have hlen : xs.length = ks.length := by simpa using (congrArg List.length e1).symm
        refine ⟨a, xs, ks, rfl, ⟨h1, e1, n1, k1⟩, by rw [hlen]; exact hl, ?_⟩
        rw [hlen]
        exact p.here A (.int _)
    · cases e
  · split at e
    · cases e
      rename_i ks ds hl
      obtain ⟨v, rfl, rv⟩ := r.one
      have rv := vw_rp A.fine.le rv
      cases rv with
      | @nlk a o xs vs _ _ h1 e1 n1 y1 k1 r1 =>
        have hlen : xs.length = ks.length := by simpa using (congrArg List.length e1).symm
        refine ⟨a, xs, ks, rfl, ⟨.inr ⟨o, h1⟩, e1, n1, k1⟩, by rw [hlen]; exact hl, ?_⟩
        rw [hlen]
        exact p.here A (.int _)
    · cases e
  · cases e
end
end VS

/-! VS: dict comprehensions as values, {k: v} with any key, list(d.values()), len(set(..)) of numbers. -/
namespace VS
open PySem PySem.Spec PyProof.Rows L2
/-! ### list(d.values()) -/
def tListVals (td : TE) : TE := fun σ H Q => td σ H fun x H1 => ∃ a kvs, x = V.ref a ∧ Rd H1 a (.dK kvs) ∧ ∀ p, H1 p = none → Q (.ref p) (upd H1 p (.lst (kvs.map (·.2))))
theorem valsKV {κ : Type} {kvs : List (κ × V)} {vs : List (κ × Value)} (r : KV kvs vs) {us : List Value} (hl : us.length = vs.length) (h : ∀ (j : Nat) (v : Value), us[j]? = some v → ∃ k, vs[j]? = some (k, v)) : Vals (kvs.map (·.2)) us := by
  unfold KV at r
  induction r generalizing us with
  | nil =>
    have : us = [] := List.length_eq_zero_iff.mp hl
    subst this
    exact .nil
  | cons r t ih =>
    cases us with
    | nil => simp at hl
    | cons u us =>
      obtain ⟨k, e⟩ := h 0 u rfl
      have e := Option.some.inj (show some _ = some (k, u) from e)
      rw [e] at r
      exact .cons r.2 (ih (by simpa using hl) fun j v e => h (j + 1) v (by simpa using e))
section
variable {X : Cx} {o : Expr} {p pos apos mpos : Pos} {td : TE}
theorem pe_listVals (hc : X.calm = true) (hg : Gl X "list") (hm : X.mg "list" = none) (hd : PE X o td) (hbase : attributeBase o "values" X.env (eval o X.env) = eval o X.env := by rfl) (hline : (apos.endLine == mpos.line) = true := by rfl)
    (na : starEach [Expr.Call (.Attribute o "values" apos) [] [] mpos] X.env = (false, eval (Expr.Call (.Attribute o "values" apos) [] [] mpos) X.env) :: starEach [] X.env := by rfl) :
    PE X (.Call (.Name "list" p) [.Call (.Attribute o "values" apos) [] [] mpos] [] pos) (tListVals td) := by
  refine ⟨fun pins s σ H Q I h => ?_⟩
  refine Call_ (ld_blt I hg hm (u := .type "list") (by first | rfl | decide +kernel) ?_)
  refine PyProof.Rows.callWith_type1 (PyProof.Rows.args_cons (wpAny_Call_method0_late hbase hline (thn (hd.run pins s σ H _ I h) fun v s1 ⟨x, H1, I1, r1, a, kvs, ex, ha, q⟩ => ?_)) na) na rfl
  subst ex
  obtain rfl : v = Value.ref a := r1
  obtain ⟨z, hsys, vs, rel, dof⟩ := dk_rd I1.hok ha
  obtain ⟨ep, dat⟩ := dof.dictAt
  have dat' := dat
  obtain ⟨ob, es, ho, ex, hdat, hko, hpr, hnd⟩ := dat'
  refine ⟨"dict", "dict.values", F.plainAttrs_dict, F.slot_dict_values, F.type_dict_values, ⟨ob, ho, ex.1⟩, fun b e => ?_, Calls.callWith_builtin rfl (PySem.evalArgs_none ?_)⟩
  · cases e
    exact ⟨ob, ho, ex.2.1⟩
  refine call_meetsIn F.slot_dict_values ⟨ob, ho, ex.1⟩ F.entry_dict_values (F.args_dict_values_1 _) (meets_dict_values (mixKind X.prog X.w) a hsys) ⟨⟨vs, dof⟩, ?_⟩
  have k1 : ∀ b u, s1.heap.get? b = some u → (s1.heap.push { cls := .type "dict_values", data := .fields #[.ref a] }).get? b = some u := fun b u e => Heap.get?_push_of_some _ e
  have dat1 : (s1.heap.push { cls := .type "dict_values", data := .fields #[.ref a] }).DictAt (mixKind X.prog X.w) a vs ep := dat.keep k1
  refine PyProof.Rows.args_nil ?_
  refine PySem.W.kdl_call (PySem.W.kdl_values (knd := mixKind X.prog X.w) (kvs := vs) (ep := ep) (d := a) (r := s1.heap.objs.size)) (I.ok.hd hc) ⟨⟨_, Heap.get?_push_size _ rfl, rfl, rfl⟩, dat1⟩ (by rw [← rel.length]; exact z) fun h' tk acc c' hk hD hacc => ?_
  have hsz : (s1.heap.push { cls := .type "dict_values", data := .fields #[.ref a] }).objs.size = s1.heap.objs.size + 1 := Heap.size_push _ _
  have hv : Vals (kvs.map (·.2)) acc.toList := valsKV rel (by rw [Array.length_toList]; exact hacc.1) fun j v e => hacc.2 j v (by rw [← Array.getElem?_toList]; exact e)
  refine ⟨.ref (s1.heap.push { cls := .type "dict_values", data := .fields #[.ref a] }).objs.size, upd H1 (s1.heap.push { cls := .type "dict_values", data := .fields #[.ref a] }).objs.size (.lst (kvs.map (·.2))), I1.laid (t' := tk) (fun b u e => hk b u (k1 b u e)) (by rw [hsz]; omega)
    (show ObjOk X.prog X.w _ _ _ (.lst (kvs.map (·.2))) from ⟨by rw [List.length_map]; exact z, acc.toList, c', hv, by rw [Array.toArray_toList]; exact hD⟩), rfl, q _ (I1.hok.fresh (by rw [hsz]; omega))⟩
end
/-! ### len(set(e)), e a list of numbers -/
def dct (ns : List Int) : Nat := (PyProof.Rows.firstMet (fun i => ns.getD i 0) ns.length).length
def tLenSetN (K : PySem.W.Frag) (ta : TE) : TE := fun σ H Q => ta σ H fun x H1 => ∃ (l : Addr) (ns : List Int), x = .ref l ∧ SqL K H1 l (ns.map V.int) ∧ ns.length ≤ 4000 ∧ Q (.int (dct ns : Nat)) H1
theorem intsAre_vals' : ∀ {ns : List Int} {us : List Value}, Vals (ns.map V.int) us → PyProof.Rows.IntsAre us ns
  | [], _, .nil => .nil
  | n :: ns, _, .cons r t => by
    obtain ⟨k, rfl⟩ := r
    exact .cons n k (intsAre_vals' t)
theorem pe_lenSetN {X : Cx} {a : Expr} {ta : TE} {p p2 q pos : Pos} (hc : X.calm = true) (hg : Gl X "len") (hm : X.mg "len" = none) (hg2 : Gl X "set") (hm2 : X.mg "set" = none) (ha : PE X a ta)
    (na : starEach [a] X.env = (false, eval a X.env) :: starEach [] X.env := by rfl) : PE X (.Call (.Name "len" p) [.Call (.Name "set" p2) [a] [] q] [] pos) (tLenSetN X.K ta) := by
  refine ⟨fun pins s σ H Q I h => ?_⟩
  refine Call_ (ld_blt I hg hm (u := .builtin "len") (by first | rfl | decide +kernel) ?_)
  refine PyProof.Rows.callWith_builtin1 (PyProof.Rows.args_cons ?_ rfl) rfl rfl
  refine Call_ (ld_blt I hg2 hm2 (u := .type "set") (by first | rfl | decide +kernel) ?_)
  refine PyProof.Rows.callWith_type1 (PyProof.Rows.args_cons (thn (ha.run pins s σ H _ I h) fun v s1 ⟨x, H1, I1, r1, q1⟩ => PyProof.Rows.args_nil ?_) na) na rfl
  obtain ⟨l, ns, rfl, hq, hl, q1⟩ := q1
  cases r1
  obtain ⟨its, r, pl, hz⟩ := I1.list hq
  have hlen : its.toArray.size = ns.length := by rw [List.size_toArray, ← r.length, List.length_map]
  refine call_set_list (I1.ok.hd hc) pl.isList (by simpa using intsAre_vals' r) (by rw [hlen]; unfold scanBound; omega) fun h' tk hS hk => ?_
  refine PyProof.Rows.args_nil ?_
  rw [hlen] at hS
  obtain ⟨o, es, ep, t, ho, hex, hd, _, _, _, hf, hn⟩ := hS
  have I2 : Inv X pins σ H1 { s1 with heap := h', toks := tk } := I1.kept fun b o e => hk b o (Heap.lt_size e) e
  have := PyProof.Rows.firstMet_length_le (fun i => ns.getD i 0) ns.length
  exact call_len_set ho hex hd hf (by rw [hn] <;> omega) ⟨.int (dct ns : Nat), H1, I2.tok _, ⟨_, by rw [hn]; rfl⟩, q1⟩
/-! ### .. in the layer -/
def eVals (ga : Env → R D) : Env → R D := fun c => ga c >>= fun d => lift (dkv d) >>= fun q => .ok (.lst q.2)
def eLenSet (ga : Env → R D) : Env → R D := fun c => ga c >>= fun d => match d with
  | .lst ds => lift (asInts ds) >>= fun ns => if ns.length ≤ 4000 then .ok (.int (dct ns : Nat)) else .stuck
  | _ => .stuck
section
variable {X : Cx} {W : WX} {b : Bool} {pos : Pos} {o e : Expr} {p apos mpos : Pos} {ga : Env → R D}
theorem px_listVals (hc : X.calm = true) (hm : X.mg "list" = none) (h : PX X W true o ga) (hg : Gl X "list" := by rfl) (hbase : attributeBase o "values" X.env (eval o X.env) = eval o X.env := by rfl) (hline : (apos.endLine == mpos.line) = true := by rfl)
    (na : starEach [Expr.Call (.Attribute o "values" apos) [] [] mpos] X.env = (false, eval (Expr.Call (.Attribute o "values" apos) [] [] mpos) X.env) :: starEach [] X.env := by rfl) :
    PX X W true (.Call (.Name "list" p) [.Call (.Attribute o "values" apos) [] [] mpos] [] pos) (eVals ga) :=
  pe_mono (pe_listVals hc hg hm h hbase hline na) fun σ H Q ⟨B, G, c, fp, A, q⟩ => tx_seq A q fun d e0 v G1 H1 s1 t1 A1 r1 q1 => by
    cases hd : dkv d with
    | none => rw [hd] at q1; exact q1.elim
    | some q' =>
      rw [hd] at q1
      have q1 : Post ⟨X.K, X.mg, X.w⟩ B c σ fp G H true Q (.lst q'.2) := q1
      obtain ⟨a, kvs, rfl, hr, hk, ho⟩ := dkv_rp (show Rp _ G1 v d from r1) hd
      exact ⟨a, kvs, rfl, Same.rd A1.fine.le hr, fun p hp => (q1.grow s1 t1).new A1 hp fun s => .lst (.inl (.inl upd_same)) (ho.mono s)⟩
theorem px_lenSet {p2 q : Pos} (hc : X.calm = true) (hm : X.mg "len" = none) (hm2 : X.mg "set" = none) (h : PX X W b e ga) (hg : Gl X "len" := by rfl) (hg2 : Gl X "set" := by rfl) (na : starEach [e] X.env = (false, eval e X.env) :: starEach [] X.env := by rfl) :
    PX X W true (.Call (.Name "len" p) [.Call (.Name "set" p2) [e] [] q] [] pos) (eLenSet ga) :=
  pe_mono (pe_lenSetN hc hg hm hg2 hm2 h na) fun σ H Q ⟨B, G, c, fp, A, q⟩ => tx_seq A q fun d e0 v G1 H1 s1 t1 A1 r1 q1 => by
    have r1 := vw_rp A1.fine.le r1
    cases r1 with
    | @lst a vs ds hs r =>
      cases hi : asInts ds with
      | none =>
        have q1 : Res ⟨X.K, X.mg, X.w⟩ W B c σ fp G1 H1 (lift (asInts ds) >>= fun ns => if ns.length ≤ 4000 then R.ok (D.int (dct ns : Nat)) else .stuck) _ := q1
        rw [hi] at q1; exact q1.elim
      | some ns =>
        have q1 : Res ⟨X.K, X.mg, X.w⟩ W B c σ fp G1 H1 (lift (asInts ds) >>= fun ns => if ns.length ≤ 4000 then R.ok (D.int (dct ns : Nat)) else .stuck) (Post ⟨X.K, X.mg, X.w⟩ B c σ fp G H true Q) := q1
        rw [hi] at q1
        have q1 : Res ⟨X.K, X.mg, X.w⟩ W B c σ fp G1 H1 (if ns.length ≤ 4000 then R.ok (D.int (dct ns : Nat)) else .stuck) (Post ⟨X.K, X.mg, X.w⟩ B c σ fp G H true Q) := q1
        by_cases hl : ns.length ≤ 4000
        · rw [if_pos hl] at q1
          have hv : vs = ns.map V.int := asInts_rp r hi
          subst hv
          exact ⟨a, ns, rfl, hs, hl, ((show Post ⟨X.K, X.mg, X.w⟩ B c σ fp G H true Q _ from q1).grow s1 t1).here A1 (.int _)⟩
        · rw [if_neg hl] at q1; exact q1.elim
    | _ => exact q1.elim
end
/-! ### a dict comprehension as a value -/
theorem Abs.own_lock {E : Wd} {B : Bs} {c : Env} {σ : L2.St} {fp : List Addr} {G H G' H' : Hp} {a : Addr} {kvs : List (Key × V)} {od : Obj} (A : Abs E B G H c σ fp) (A' : Abs E B G' H' c σ fp) (ha : H a = none) (ga : G' a = none) (t : Same H H') :
    Same H (upd H' a (.frz od (.dK kvs))) ∧ Abs E B (upd G' a (.frz od (.dK kvs))) (upd H' a (.frz od (.dK kvs))) c σ fp := by
  have h0 : B.H0 a = none := A.fine.there a ha
  have pf : a ∉ fp := fun z => A.cells.there a z ha
  refine ⟨fun b o e => by rw [upd_ne (ne_of_none e ha)]; exact t b o e, ⟨⟨fun b o e n => ?_, fun b e => ?_, fun b e1 e2 => ?_, fun b u e => ?_, fun b u e k => ?_⟩, A'.cells.keep (same_upd ga) fun q hq w e => ?_, A'.nd, fun p hp => ?_, A'.pin⟩⟩
  · have hb : b ≠ a := fun z => by subst z; rw [h0] at e; cases e
    rw [upd_ne hb]; exact A'.fine.base b o e n
  · by_cases hb : b = a
    · rw [hb]; exact h0
    · rw [upd_ne hb] at e; exact A'.fine.there b e
  · have hb : b ≠ a := fun z => e1 (by rw [z]; exact h0)
    rw [upd_ne hb]; exact A'.fine.x b e1 e2
  · by_cases hb : b = a
    · subst hb; rw [upd_same] at e ⊢; exact e
    · rw [upd_ne hb] at e ⊢; exact A'.fine.le b u e
  · by_cases hb : b = a
    · subst hb; rw [upd_same] at e ⊢; exact e
    · rw [upd_ne hb] at e ⊢; exact A'.fine.tup b u e k
  · have hq : q ≠ a := fun z => pf (by rw [← z]; exact hq)
    rw [upd_ne hq]; exact e
  · have hq : p ≠ a := fun z => pf (by rw [← z]; exact hp)
    rw [upd_ne hq]; exact A'.fresh p hp
def lkO : O → Option D
  | .dic ks os => (vals os).map fun ds => .dlk ks ds
  | _ => none
/-- a new dict, known from now on -/
def eLk (g : Env → R O) : Env → R D := fun c => g c >>= fun o => lift (lkO o)
section
variable {X : Cx} {W : WX} {pn : List Nat} {e kx vx : Expr} {ifs : List Expr} {pos : Pos} {wi : TI} {gs : Env → R (List D)} {t : Env → R Bool} {gk gv : Env → R D} {i : Nat}
theorem px_lk {g : Env → R O} (h : PF X W e g) : PX X W true e (eLk g) :=
  pe_mono (pe_lockOut h) fun σ H Q ⟨B, G, c, fp, A, q⟩ => by
    unfold eLk at q
    refine ⟨B, G, c, fp, A, ?_⟩
    cases hg : g c with
    | stuck => rw [hg] at q; exact q.elim
    | ex x => rw [hg] at q; exact q
    | ok o =>
      rw [hg] at q
      obtain ⟨d, e1, p1⟩ := Res.lift (show Res ⟨X.K, X.mg, X.w⟩ W B c σ fp G H (lift (lkO o)) _ from q)
      intro v G' H' fq s t A' own nd fr
      cases o with
      | dic ks os =>
        obtain ⟨ds, ev, rfl⟩ := Option.map_eq_some_iff.mp (show (vals os).map (fun ds => D.dlk ks ds) = some d from e1)
        cases own with
        | @dic a kvs _ _ f1 ha hk ho =>
          obtain ⟨hr, rfl⟩ := vals_own ho ev
          obtain ⟨hna, hga⟩ := fr a List.mem_cons_self
          refine ⟨a, _, ha, True.intro, fun od => ?_⟩
          obtain ⟨sH, A2⟩ := A.own_lock (kvs := kvs) (od := od) A' hna hga t
          exact p1 _ _ _ (s.trans (same_upd hga)) sH A2 (.dlk upd_same hk (hr.mono (same_upd hga)))
      | _ => cases e1
end
/-! ### {k: v}, a new dict of one item -/
def eD1x (gk gv : Env → R D) : Env → R O := fun c => gk c >>= fun k => gv c >>= fun d => lift (D.key k) >>= fun _ => .ok (.dic [k] [.v d])
section
variable {X : Cx} {W : WX} {b : Bool} {pos : Pos} {ke ve : Expr}
theorem pf_d1x {gk gv : Env → R D} (hk : PX X W true ke gk) (hv : PX X W true ve gv) : PF X W (.Dict [some ke] [ve] pos) (eD1x gk gv) :=
  pe_mono (pe_disp (pps_cons hk hv pps_nil) rfl rfl (by simp) (by simp)) fun σ H Q ⟨B, G, c, fp, A, q⟩ => fun p hp => by
    have pf : p ∉ fp := fun z => A.cells.there p z hp
    have p0 : B.H0 p = none := A.fine.there p hp
    have gp : G p = none := A.fine.fresh hp
    have A1 : Abs ⟨X.K, X.mg, X.w⟩ B G (upd H p (.dK [])) c σ fp := A.newO hp rfl
    obtain ⟨B', eB, A2, back⟩ := A1.fork
    have same1 : Same H (upd H p (.dK [])) := same_upd hp
    unfold eD1x at q
    refine ⟨B', G, c, fp, A2, ?_⟩
    cases eg : gk c with
    | stuck => rw [eg] at q; exact q.elim
    | ex x =>
      rw [eg] at q
      exact fun cl dx G' H' s t A3 xr => q cl dx G' H' s (same1.trans t) (back G' H' s t A3).1 xr
    | ok kd =>
      rw [eg, ok_bind] at q
      intro x G1 H1 s1 t1 A3 r1
      refine ⟨B', G1, c, fp, A3, ?_⟩
      cases ev : gv c with
      | stuck => rw [ev] at q; exact q.elim
      | ex y =>
        rw [ev] at q
        exact fun cl dx G' H' s t A4 xr => q cl dx G' H' (s1.trans s) (same1.trans (t1.trans t)) (back G' H' (s1.trans s) (t1.trans t) A4).1 xr
      | ok d =>
        rw [ev, ok_bind] at q
        intro v G2 H2 s2 t2 A4 r2
        obtain ⟨A5, gr⟩ := back G2 H2 (s1.trans s2) (t1.trans t2) A4
        cases en : D.key kd with
        | none => rw [en] at q; exact q.elim
        | some k =>
          rw [en] at q
          have q' : PostF ⟨X.K, X.mg, X.w⟩ B c σ fp G H Q (.dic [kd] [.v d]) := q
          have hp2 : H2 p = some (.dK []) := t2 p _ (t1 p _ upd_same)
          have g2 : G2 p = none := gr p (by rw [upd_same]; exact fun z => nomatch z) gp
          have r1 : Rp ⟨X.K, X.mg, X.w⟩ G1 x kd := r1
          have r2 : Rp ⟨X.K, X.mg, X.w⟩ G2 v d := r2
          have hx := rp_key r1 en
          subst hx
          refine ⟨hp2, [(k, v)], rfl, by simp, ?_⟩
          have sm : Same H (upd H2 p (.dK (mergeK [] [(k, v)]))) := fun a o e => by
            have hne : a ≠ p := ne_of_none e hp
            rw [upd_ne hne]
            exact t2 a _ (t1 a _ (same1 a o e))
          refine q' (.ref p) G2 _ [p] (s1.trans s2) sm (A5.pokeOut pf g2 p0 rfl) (.dic (kvs := [(k, v)]) upd_same (by simp [en]) (.cons (.v r2) .nil)) (by simp) fun q hq => ?_
          have : q = p := by simpa using hq
          subst this
          exact ⟨hp, g2⟩
end
end VS

/-! VS: xs.extend([..]). -/
namespace VS
open PySem PySem.Spec PyProof.Rows L2
def sExt (i : Nat) (g : Env → R O) : Env → Rs := fun c => (lift (atL i c)).st c fun os => (g c).st c fun o => match o with
  | .lst es => (lift (vals es)).st c fun ds => if os.length + ds.length ≤ 16777216 then .ok .nx (c.set i (some (.lst (os ++ ds.map O.v)))) else .stuck
  | _ => .stuck
section
variable {X : Cx} {W : WX} {b : Bool} {pn : List Nat} {e : Expr} {pos : Pos}
theorem pxs_ext {x : Str} {p apos cpos : Pos} (i : Nat) {g : Env → R O} (h : PF X W e g) (hN : X.N[i]? = some x := by rfl) (hv : Vis X.env.scope x := by first | exact Or.inl rfl | exact Or.inr (Or.inl rfl) | exact Or.inr (Or.inr rfl)) (hd : (x == ("__debug__" : Str)) = false := by decide) (hcd : (x == ("__classdict__" : Str)) = false := by decide)
    (hbase : attributeBase (.Name x p) "extend" X.env (eval (.Name x p) X.env) = eval (.Name x p) X.env := by rfl)
    (hfew : ((backTo cpos (starEach [e] X.env)).all (fun x => !x.1) && (backToKw cpos (keywordEach [] X.env)).all (fun x => x.1.isSome)
      && decide ([e].length + ([] : List Keyword).length + (if ([] : List Keyword).isEmpty then 0 else 1) < 30)) = true := by rfl)
    (hline : (apos.endLine == cpos.line) = true := by rfl) (hs : starEach [e] X.env = (false, eval e X.env) :: starEach [] X.env := by rfl) (hplain : (backTo cpos (starEach [] X.env)).any (·.1) = false := by rfl)
    (hsw : swapsWith (.Call (.Attribute (.Name x p) "extend" apos) [e] [] cpos) none pos.line X.env = pure false := by rfl) :
    PXS X W pn (.Expr (.Call (.Attribute (.Name x p) "extend" apos) [e] [] cpos) pos) (sExt i g) :=
  ps_mono (ps_expr (pe_bm PySem.F.plainAttrs_list PySem.F.slot_list_extend PySem.F.type_list_extend mt_extend (pe_var hN hv hd hcd) (pa_cons h pa_nil hs) hbase hfew hline hs hplain) hsw) fun Dn σ H ⟨B, G, c, fp, A, P, q⟩ => by
    obtain ⟨os, e0, q⟩ := lift_st q
    have e1 := atL_eq e0
    obtain ⟨v, fq, h1, h2, _, _, _⟩ := A.poke e1
    cases h2 with
    | @lst a vs _ fq ha ho =>
      refine ⟨_, h1, .inl ⟨rfl, vs, .inl (.inl ha)⟩, tf_st A q fun o e3 w G1 H1 fr s1 t1 A1 own nd fresh q1 => ?_⟩
      obtain ⟨v, fq, h1', h2, n, hin, hpk⟩ := A1.poke e1
      rw [h1] at h1'
      cases h1'
      cases h2 with
      | @lst _ vs _ fq ha ho =>
        have hlen := ho.length
        cases o with
        | lst es =>
          cases own with
          | @lst b ws _ f2 hb hes =>
            have q1 : ResS ⟨X.K, X.mg, X.w⟩ W B G1 H1 ((lift (vals es)).st c fun ds => if os.length + ds.length ≤ 16777216 then .ok .nx (c.set i (some (.lst (os ++ ds.map O.v)))) else .stuck) Dn := q1
            obtain ⟨ds, ev, q2⟩ := lift_st q1
            by_cases hl : os.length + ds.length ≤ 16777216
            · rw [if_pos hl] at q2
              obtain ⟨hr, _⟩ := vals_own hes ev
              have hdl := (ownL_v (G := G1) (H := H1) hr).length
              rw [List.length_map] at hdl
              refine ⟨a, b, vs, ws, rfl, rfl, ha, hb, by rw [hlen, hdl, sizeLine_eq]; exact hl, ?_⟩
              have nn := List.nodup_cons.mp n
              have ho' : OwnL ⟨X.K, X.mg, X.w⟩ G1 (upd H1 a (.lst (vs ++ ws))) (vs ++ ws) (os ++ ds.map O.v) (fq ++ []) :=
                (ho.upd nn.1).append (ownL_v hr)
              obtain ⟨fp', A2⟩ := hpk List.mem_cons_self (u := .lst (vs ++ ws)) rfl (.lst upd_same ho') (by simpa using n) (fun q hq => by simpa using hq)
              exact q2 σ G1 _ fp' (Same.refl _) A2
            · rw [if_neg hl] at q2; exact q2.elim
        | _ => exact q1.elim
end
end VS

/-! VS: list(range(..)), tuple(range(..)), xs.append(ys.pop(k)), xs.index(number). -/
namespace VS
open PySem PySem.Spec PyProof.Rows L2
def rgI (a b : Int) : List Int := (List.range (b - a).toNat).map fun i => a + ((i : Nat) : Int)
theorem rgV_I (a b : Int) : rgV a b = (rgI a b).map V.int := by unfold rgV rgI; rw [List.map_map]; rfl
theorem rp_ints {E : Wd} {G : Hp} : ∀ ns : List Int, RpL E G (ns.map V.int) (ns.map D.int)
  | [] => .nil
  | n :: ns => .cons (.int n) (rp_ints ns)
def rgB : D → D → Option (List Int)
  | .int a, .int b => if 0 ≤ a ∧ a ≤ 16777216 ∧ 0 ≤ b ∧ b ≤ 16777216 then some (rgI a b) else none
  | _, _ => none
def eLRgO (ga gb : Env → R D) : Env → R O := fun c => ga c >>= fun a => gb c >>= fun b => lift (rgB a b) >>= fun ns => .ok (.lst (ns.map fun i => O.v (.int i)))
def eLRg (ga gb : Env → R D) : Env → R D := fun c => ga c >>= fun a => gb c >>= fun b => lift (rgB a b) >>= fun ns => .ok (.lst (ns.map D.int))
def eTRg (ga gb : Env → R D) : Env → R D := fun c => ga c >>= fun a => gb c >>= fun b => lift (rgB a b) >>= fun ns => .ok (.tup (ns.map D.int))
theorem rgB_int {E : Wd} {G : Hp} {v w : V} {a b : D} {ns : List Int} (r1 : Rp E G v a) (r2 : Rp E G w b) (h : rgB a b = some ns) : ∃ i j, v = .int i ∧ w = .int j ∧ RgOk i j ∧ ns = rgI i j := by
  unfold rgB at h
  split at h
  · split at h
    · rename_i i j hb
      cases h
      exact ⟨i, j, r1.intH, r2.intH, RgOk.of_le hb.1 hb.2.2.2 hb.2.1 hb.2.2.1, rfl⟩
    · cases h
  · cases h
section
variable {X : Cx} {W : WX} {b b' : Bool} {pos : Pos} {p p2 q : Pos} {ea eb : Expr} {ga gb : Env → R D}
theorem pf_lrg2 (hc : X.calm = true) (hm : X.mg "list" = none) (hm2 : X.mg "range" = none) (ha : PX X W b ea ga) (hb : PX X W b' eb gb) (hg : Gl X "list" := by rfl) (hg2 : Gl X "range" := by rfl) (n1 : starEach [ea, eb] X.env = (false, eval ea X.env) :: starEach [eb] X.env := by rfl) (n2 : starEach [eb] X.env = (false, eval eb X.env) :: starEach [] X.env := by rfl)
    (n3 : (backTo p (starEach [eb] X.env)).any (·.1) = false := by rfl) (n4 : starEach [Expr.Call (.Name "range" p2) [ea, eb] [] p] X.env = (false, eval (Expr.Call (.Name "range" p2) [ea, eb] [] p) X.env) :: starEach [] X.env := by rfl) :
    PF X W (.Call (.Name "list" q) [.Call (.Name "range" p2) [ea, eb] [] p] [] pos) (eLRgO ga gb) :=
  pe_mono (pe_listRg hc hg hm (prg_2 hg2 hm2 ha hb n1 n2 n3) n4) fun σ H Q ⟨B, G, c, fp, A, q⟩ => tx_seq A q fun d e0 v G1 H1 s1 t1 A1 r1 q1 => tx_seq A1 q1 fun d2 e2 w G2 H2 s2 t2 A2 r2 q2 => by
    obtain ⟨ns, e3, p3⟩ := Res.lift (o := rgB d d2) (P := fun ns => PostF ⟨X.K, X.mg, X.w⟩ B c σ fp G H Q (.lst (ns.map fun i => O.v (.int i)))) (E := ⟨X.K, X.mg, X.w⟩) (W := W) (B := B) (c := c) (σ := σ) (fp := fp) (G := G2) (H := H2) (by
      cases hd : rgB d d2 with
      | none => rw [hd] at q2; exact q2
      | some q' => rw [hd] at q2; exact q2)
    obtain ⟨i, j, rfl, rfl, ok, rfl⟩ := rgB_int ((vw_rp A1.fine.le r1).mono t2) (vw_rp A2.fine.le r2) e3
    refine ⟨i, j, rfl, rfl, ok, fun a ha => ?_⟩
    have hn : H a = none := (t1.trans t2).free ha
    rw [rgV_I]
    have own : OwnL ⟨X.K, X.mg, X.w⟩ G2 (upd H2 a (.lst ((rgI i j).map V.int))) ((rgI i j).map V.int) ((rgI i j).map fun i => O.v (.int i)) [] := by
      have := ownL_v (G := G2) (H := upd H2 a (.lst ((rgI i j).map V.int))) (rp_ints (E := ⟨X.K, X.mg, X.w⟩) (G := G2) (rgI i j))
      rw [List.map_map] at this
      exact this
    refine p3 (.ref a) G2 _ [a] (s1.trans s2) ((t1.trans t2).trans (same_upd ha)) (A2.newO ha rfl) (.lst upd_same own) (by simp) fun q hq => ?_
    have : q = a := by simpa using hq
    subst this
    exact ⟨hn, A2.fine.fresh ha⟩
theorem px_lrg2 (hc : X.calm = true) (hm : X.mg "list" = none) (hm2 : X.mg "range" = none) (ha : PX X W b ea ga) (hb : PX X W b' eb gb) (hg : Gl X "list" := by rfl) (hg2 : Gl X "range" := by rfl) (n1 : starEach [ea, eb] X.env = (false, eval ea X.env) :: starEach [eb] X.env := by rfl) (n2 : starEach [eb] X.env = (false, eval eb X.env) :: starEach [] X.env := by rfl)
    (n3 : (backTo p (starEach [eb] X.env)).any (·.1) = false := by rfl) (n4 : starEach [Expr.Call (.Name "range" p2) [ea, eb] [] p] X.env = (false, eval (Expr.Call (.Name "range" p2) [ea, eb] [] p) X.env) :: starEach [] X.env := by rfl) :
    PX X W true (.Call (.Name "list" q) [.Call (.Name "range" p2) [ea, eb] [] p] [] pos) (eLRg ga gb) :=
  pe_mono (pe_listRg hc hg hm (prg_2 hg2 hm2 ha hb n1 n2 n3) n4) fun σ H Q ⟨B, G, c, fp, A, q⟩ => tx_seq A q fun d e0 v G1 H1 s1 t1 A1 r1 q1 => tx_seq A1 q1 fun d2 e2 w G2 H2 s2 t2 A2 r2 q2 => by
    obtain ⟨ns, e3, p3⟩ := Res.lift (o := rgB d d2) (P := fun ns => Post ⟨X.K, X.mg, X.w⟩ B c σ fp G H true Q (.lst (ns.map D.int))) (E := ⟨X.K, X.mg, X.w⟩) (W := W) (B := B) (c := c) (σ := σ) (fp := fp) (G := G2) (H := H2) (by
      cases hd : rgB d d2 with
      | none => rw [hd] at q2; exact q2
      | some q' => rw [hd] at q2; exact q2)
    obtain ⟨i, j, rfl, rfl, ok, rfl⟩ := rgB_int ((vw_rp A1.fine.le r1).mono t2) (vw_rp A2.fine.le r2) e3
    exact ⟨i, j, rfl, rfl, ok, fun a ha => by rw [rgV_I]; exact ((p3.grow s1 t1).grow s2 t2).new A2 ha fun s => .lst (.inl (.inl upd_same)) (rp_ints _)⟩
theorem px_lrg1 (hc : X.calm = true) (hm : X.mg "list" = none) (hm2 : X.mg "range" = none) (hb : PX X W b' eb gb) (hg : Gl X "list" := by rfl) (hg2 : Gl X "range" := by rfl) (n2 : starEach [eb] X.env = (false, eval eb X.env) :: starEach [] X.env := by rfl)
    (n4 : starEach [Expr.Call (.Name "range" p2) [eb] [] p] X.env = (false, eval (Expr.Call (.Name "range" p2) [eb] [] p) X.env) :: starEach [] X.env := by rfl) :
    PX X W true (.Call (.Name "list" q) [.Call (.Name "range" p2) [eb] [] p] [] pos) (eLRg (eC (.int 0)) gb) :=
  pe_mono (pe_listRg hc hg hm (prg_1 hg2 hm2 hb n2) n4) fun σ H Q ⟨B, G, c, fp, A, q⟩ => tx_seq A (show Res _ W B c σ fp G H (gb c >>= fun b => lift (rgB (.int 0) b) >>= fun ns => R.ok (D.lst (ns.map D.int))) _ from q) fun d2 e2 w G2 H2 s2 t2 A2 r2 q2 => by
    obtain ⟨ns, e3, p3⟩ := Res.lift (o := rgB (.int 0) d2) (P := fun ns => Post ⟨X.K, X.mg, X.w⟩ B c σ fp G H true Q (.lst (ns.map D.int))) (E := ⟨X.K, X.mg, X.w⟩) (W := W) (B := B) (c := c) (σ := σ) (fp := fp) (G := G2) (H := H2) (by
      cases hd : rgB (.int 0) d2 with
      | none => rw [hd] at q2; exact q2
      | some q' => rw [hd] at q2; exact q2)
    obtain ⟨i, j, e4, rfl, ok, rfl⟩ := rgB_int (E := ⟨X.K, X.mg, X.w⟩) (G := H2) (.int 0) (vw_rp A2.fine.le r2) e3
    cases e4
    exact ⟨j, rfl, ok, fun a ha => by rw [rgV_I]; exact (p3.grow s2 t2).new A2 ha fun s => .lst (.inl (.inl upd_same)) (rp_ints _)⟩
theorem px_trg1 (hc : X.calm = true) (hm : X.mg "tuple" = none) (hm2 : X.mg "range" = none) (hb : PX X W b' eb gb) (hg : Gl X "tuple" := by rfl) (hg2 : Gl X "range" := by rfl) (n2 : starEach [eb] X.env = (false, eval eb X.env) :: starEach [] X.env := by rfl)
    (n4 : starEach [Expr.Call (.Name "range" p2) [eb] [] p] X.env = (false, eval (Expr.Call (.Name "range" p2) [eb] [] p) X.env) :: starEach [] X.env := by rfl) :
    PX X W true (.Call (.Name "tuple" q) [.Call (.Name "range" p2) [eb] [] p] [] pos) (eTRg (eC (.int 0)) gb) :=
  pe_mono (pe_tupRg hc hg hm (prg_1 hg2 hm2 hb n2) n4) fun σ H Q ⟨B, G, c, fp, A, q⟩ => tx_seq A (show Res _ W B c σ fp G H (gb c >>= fun b => lift (rgB (.int 0) b) >>= fun ns => R.ok (D.tup (ns.map D.int))) _ from q) fun d2 e2 w G2 H2 s2 t2 A2 r2 q2 => by
    obtain ⟨ns, e3, p3⟩ := Res.lift (o := rgB (.int 0) d2) (P := fun ns => Post ⟨X.K, X.mg, X.w⟩ B c σ fp G H true Q (.tup (ns.map D.int))) (E := ⟨X.K, X.mg, X.w⟩) (W := W) (B := B) (c := c) (σ := σ) (fp := fp) (G := G2) (H := H2) (by
      cases hd : rgB (.int 0) d2 with
      | none => rw [hd] at q2; exact q2
      | some q' => rw [hd] at q2; exact q2)
    obtain ⟨i, j, e4, rfl, ok, rfl⟩ := rgB_int (E := ⟨X.K, X.mg, X.w⟩) (G := H2) (.int 0) (vw_rp A2.fine.le r2) e3
    cases e4
    exact ⟨j, rfl, ok, fun a ha => by rw [rgV_I]; exact (p3.grow s2 t2).new A2 ha fun s => .tup (.inl (.inl upd_same)) (rp_ints _)⟩
end
/-! ### xs.index(number) -/
def fLIxI (ds : List D) : List D → Option D
  | [.int k] => (asInts ds).bind fun xs => if xs.idxOf k < xs.length then some (.int (xs.idxOf k : Nat)) else none
  | _ => none
def eLIxI (g : Env → R D) (gs : Env → R (List D)) : Env → R D := fun c => g c >>= fun d => match d with
  | .lst ds => gs c >>= fun es => lift (fLIxI ds es)
  | _ => .stuck
theorem eqI (a b : Int) : eqV (.int a) (.int b) = (a == b) := rfl
section
variable {X : Cx} {W : WX} {b b1 b' : Bool}
theorem px_liI {o e : Expr} {es : List Expr} {g : Env → R D} {gs : Env → R (List D)} {apos cpos : Pos}
    (ho : PX X W b1 o g) (ha : PXA X W b (e :: es) gs)
    (hbase : attributeBase o "index" X.env (eval o X.env) = eval o X.env := by rfl)
    (hfew : ((backTo cpos (starEach (e :: es) X.env)).all (fun x => !x.1) && (backToKw cpos (keywordEach [] X.env)).all (fun x => x.1.isSome)
      && decide ((e :: es).length + ([] : List Keyword).length + (if ([] : List Keyword).isEmpty then 0 else 1) < 30)) = true := by rfl)
    (hline : (apos.endLine == cpos.line) = true := by rfl) (hs : starEach (e :: es) X.env = (false, eval e X.env) :: starEach es X.env := by rfl) (hplain : (backTo cpos (starEach es X.env)).any (·.1) = false := by rfl) :
    PX X W b' (.Call (.Attribute o "index" apos) (e :: es) [] cpos) (eLIxI g gs) :=
  pe_mono (pe_bm PySem.F.plainAttrs_list PySem.F.slot_list_index PySem.F.type_list_index mt_index ho ha hbase hfew hline hs hplain) fun σ H Q ⟨B, G, c, fp, A, q⟩ => tx_seq A q fun d e v G1 H1 s1 t1 A1 r1 q1 => by
    cases d with
    | lst ds =>
      obtain ⟨a, vs, rfl, h2, r2⟩ := r1.lstH A1.fine.le
      refine ⟨.inl ⟨rfl, _, h2⟩, txa_seq A1 q1 fun es e2 ws G2 H2 s2 t2 A2 r3 q2 => ?_⟩
      obtain ⟨d3, e3, p3⟩ := Res.lift q2
      unfold fLIxI at e3
      split at e3
      · rename_i k
        obtain ⟨xs, e4, e5⟩ := Option.bind_eq_some_iff.mp e3
        split at e5
        · rename_i hlt
          cases e5
          obtain ⟨v, rfl, rv⟩ := r3.one
          cases rv.intH
          have hv := asInts_rp r2 e4
          subst hv
          refine ⟨a, _, _, xs.idxOf k, .int k, rfl, rfl, Same.sqL t2 h2, rfl, by simp [flatV], ?_, by rw [eqI]; simp, ?_, ?_⟩
          · rw [List.getElem?_map, List.getElem?_eq_getElem hlt, List.getElem_idxOf hlt]; rfl
          · intro m z hm hz
            rw [List.getElem?_map] at hz
            obtain ⟨y, hy, rfl⟩ := Option.map_eq_some_iff.mp hz
            rw [eqI]
            obtain ⟨hml, rfl⟩ := List.getElem?_eq_some_iff.mp hy
            have := List.not_of_lt_findIdx (p := (· == k)) (xs := xs) (i := m) hm
            simpa using this
          · exact (p3.grow (s1.trans s2) (t1.trans t2)).here A2 (.int _)
        · cases e5
      · cases e3
    | _ => exact False.elim q1
end
/-! ### xs.append(ys.pop(k)) -/
theorem RpL.erase {E : Wd} {G : Hp} : ∀ {vs : List V} {ds : List D}, RpL E G vs ds → ∀ k : Nat, RpL E G (vs.eraseIdx k) (ds.eraseIdx k)
  | _, _, .nil, k => .nil
  | _, _, .cons h r, 0 => r
  | _, _, .cons h r, k + 1 => .cons h (RpL.erase r k)
theorem RpL.nth {E : Wd} {G : Hp} : ∀ {vs : List V} {ds : List D}, RpL E G vs ds → ∀ {k : Nat} {d : D}, ds[k]? = some d → ∃ v, vs[k]? = some v ∧ Rp E G v d
  | _, _, .nil, k, d, h => by simp at h
  | _, _, .cons h r, 0, d, e => by
    have e := Option.some.inj (show some _ = some d from e)
    subst e
    exact ⟨_, rfl, h⟩
  | _, _, .cons h r, k + 1, d, e => by
    obtain ⟨v, h1, h2⟩ := RpL.nth r (k := k) (by simpa using e)
    exact ⟨v, by simpa using h1, h2⟩
def sAPop (i j : Nat) (g : Env → R D) : Env → Rs := fun c => (lift (atL i c)).st c fun os => (lift (atL j c)).st c fun ps => (lift (vals ps)).st c fun ds => (g c).st c fun d => match d with
  | .int k => if i ≠ j ∧ 0 ≤ k ∧ k < 16777216 ∧ os.length < 16777216 then (lift ds[k.toNat]?).st c fun e => .ok .nx ((c.set j (some (.lst ((ds.eraseIdx k.toNat).map O.v)))).set i (some (.lst (os ++ [.v e])))) else .stuck
  | _ => .stuck
section
variable {X : Cx} {W : WX} {b : Bool} {pn : List Nat} {e : Expr} {pos : Pos}
theorem pxs_apop {x y : Str} {p apos cpos p' apos' cpos' : Pos} (i j : Nat) {g : Env → R D} (h : PX X W b e g) (hN : X.N[i]? = some x := by rfl) (hv : Vis X.env.scope x := by first | exact Or.inl rfl | exact Or.inr (Or.inl rfl) | exact Or.inr (Or.inr rfl)) (hd : (x == ("__debug__" : Str)) = false := by decide) (hcd : (x == ("__classdict__" : Str)) = false := by decide)
    (hN' : X.N[j]? = some y := by rfl) (hv' : Vis X.env.scope y := by first | exact Or.inl rfl | exact Or.inr (Or.inl rfl) | exact Or.inr (Or.inr rfl)) (hd' : (y == ("__debug__" : Str)) = false := by decide) (hcd' : (y == ("__classdict__" : Str)) = false := by decide)
    (hbase' : attributeBase (.Name y p') "pop" X.env (eval (.Name y p') X.env) = eval (.Name y p') X.env := by rfl)
    (hfew' : ((backTo cpos' (starEach [e] X.env)).all (fun x => !x.1) && (backToKw cpos' (keywordEach [] X.env)).all (fun x => x.1.isSome)
      && decide ([e].length + ([] : List Keyword).length + (if ([] : List Keyword).isEmpty then 0 else 1) < 30)) = true := by rfl)
    (hline' : (apos'.endLine == cpos'.line) = true := by rfl) (hs' : starEach [e] X.env = (false, eval e X.env) :: starEach [] X.env := by rfl) (hplain' : (backTo cpos' (starEach [] X.env)).any (·.1) = false := by rfl)
    (hbase : attributeBase (.Name x p) "append" X.env (eval (.Name x p) X.env) = eval (.Name x p) X.env := by rfl)
    (hfew : ((backTo cpos (starEach [Expr.Call (.Attribute (.Name y p') "pop" apos') [e] [] cpos'] X.env)).all (fun x => !x.1) && (backToKw cpos (keywordEach [] X.env)).all (fun x => x.1.isSome)
      && decide ([Expr.Call (.Attribute (.Name y p') "pop" apos') [e] [] cpos'].length + ([] : List Keyword).length + (if ([] : List Keyword).isEmpty then 0 else 1) < 30)) = true := by rfl)
    (hline : (apos.endLine == cpos.line) = true := by rfl) (hs : starEach [Expr.Call (.Attribute (.Name y p') "pop" apos') [e] [] cpos'] X.env = (false, eval (Expr.Call (.Attribute (.Name y p') "pop" apos') [e] [] cpos') X.env) :: starEach [] X.env := by rfl) (hplain : (backTo cpos (starEach [] X.env)).any (·.1) = false := by rfl)
    (hsw : swapsWith (.Call (.Attribute (.Name x p) "append" apos) [.Call (.Attribute (.Name y p') "pop" apos') [e] [] cpos'] [] cpos) none pos.line X.env = pure false := by rfl) :
    PXS X W pn (.Expr (.Call (.Attribute (.Name x p) "append" apos) [.Call (.Attribute (.Name y p') "pop" apos') [e] [] cpos'] [] cpos) pos) (sAPop i j g) :=
  ps_mono (ps_expr (pe_bm PySem.F.plainAttrs_list PySem.F.slot_list_append PySem.F.type_list_append mt_append (pe_var hN hv hd hcd) (pa_cons (pe_bm PySem.F.plainAttrs_list PySem.F.slot_list_pop PySem.F.type_list_pop mt_popAt (pe_var hN' hv' hd' hcd') (pa_cons h pa_nil hs') hbase' hfew' hline' hs' hplain') pa_nil hs) hbase hfew hline hs hplain) hsw) fun Dn σ H ⟨B, G, c, fp, A, P, q⟩ => by
    obtain ⟨os, e0, q⟩ := lift_st q
    obtain ⟨ps, e0', q⟩ := lift_st q
    obtain ⟨ds, ev, q⟩ := lift_st q
    have e1 := atL_eq e0
    have e1' := atL_eq e0'
    obtain ⟨v, fq, h1, h2, _, _, _⟩ := A.poke e1
    obtain ⟨v', fq', h1', h2', _, _, _⟩ := A.poke e1'
    cases h2 with
    | @lst a vs _ fq ha ho =>
      cases h2' with
      | @lst a' vs' _ fq' ha' ho' =>
        refine ⟨_, h1, .inl ⟨rfl, vs, .inl (.inl ha)⟩, _, h1', .inl ⟨rfl, vs', .inl (.inl ha')⟩, tx_st A q fun d e3 w G1 H1 s1 t1 A1 r1 q1 => ?_⟩
        cases d with
        | int k =>
          have q1 : ResS ⟨X.K, X.mg, X.w⟩ W B G1 H1 (if i ≠ j ∧ 0 ≤ k ∧ k < 16777216 ∧ os.length < 16777216 then (lift ds[k.toNat]?).st c fun e => .ok .nx ((c.set j (some (.lst ((ds.eraseIdx k.toNat).map O.v)))).set i (some (.lst (os ++ [.v e])))) else .stuck) Dn := q1
          by_cases hk : i ≠ j ∧ 0 ≤ k ∧ k < 16777216 ∧ os.length < 16777216
          · rw [if_pos hk] at q1
            obtain ⟨hij, hk0, hk1, hol⟩ := hk
            obtain ⟨dk, ed, q2⟩ := lift_st q1
            obtain ⟨v, fq, g1, g2, n, hin, hpk⟩ := A1.poke e1'
            rw [h1'] at g1
            cases g1
            cases g2 with
            | @lst _ vs' _ fq ha2 ho2 =>
              obtain ⟨hr, hf0⟩ := vals_own ho2 ev
              subst hf0
              obtain ⟨vk, hvk, rvk⟩ := hr.nth ed
              have hkl : k.toNat < vs'.length := (List.getElem?_eq_some_iff.mp hvk).1
              have hsq : seqIndex? k vs'.length = some k.toNat := by
                unfold seqIndex?
                have hlt : k < (vs'.length : Int) := by omega
                show (if (decide (0 ≤ (if k < 0 then k + vs'.length else k)) && decide ((if k < 0 then k + vs'.length else k) < (vs'.length : Int))) = true then some (if k < 0 then k + vs'.length else k).toNat else none) = _
                rw [if_neg (show ¬ k < 0 by omega), decide_eq_true hk0, decide_eq_true hlt]; rfl
              have hw := (vw_rp A1.fine.le r1).intH
              refine ⟨a', vs', k, k.toNat, vk, rfl, by rw [hw], ha2, by omega, by omega, hsq, hvk, ?_⟩
              obtain ⟨fp', A2⟩ := hpk List.mem_cons_self (u := .lst (vs'.eraseIdx k.toNat)) rfl (.lst (os := (ds.eraseIdx k.toNat).map O.v) (fp := []) upd_same (ownL_v (hr.erase k.toNat))) (by simp) (fun q hq => by simpa using hq)
              have e2 : (c.set j (some (.lst ((ds.eraseIdx k.toNat).map O.v))))[i]? = some (some (.lst os)) := by rw [List.getElem?_set_ne (Ne.symm hij)]; exact e1
              obtain ⟨v, fq, g1, g2, n2, hin2, hpk2⟩ := A2.poke e2
              rw [h1] at g1
              cases g1
              cases g2 with
              | @lst _ vs _ fq ha3 ho3 =>
                have hlen := ho3.length
                refine ⟨a, vs, vk, rfl, rfl, ha3, by rw [hlen, sizeLine_eq]; exact hol, ?_⟩
                have nn := List.nodup_cons.mp n2
                have hoo : OwnL ⟨X.K, X.mg, X.w⟩ G1 (upd (upd H1 a' (.lst (vs'.eraseIdx k.toNat))) a (.lst (vs ++ [vk]))) (vs ++ [vk]) (os ++ [.v dk]) (fq ++ ([] ++ [])) :=
                  (ho3.upd nn.1).append (.cons (.v rvk) .nil)
                obtain ⟨fp'', A3⟩ := hpk2 List.mem_cons_self (u := .lst (vs ++ [vk])) rfl (.lst upd_same hoo) (by simpa using n2) (fun q hq => by simpa using hq)
                exact q2 σ G1 _ fp'' (Same.refl _) A3
          · rw [if_neg hk] at q1; exact q1.elim
        | _ => exact q1.elim
end
end VS

/-! VS: for a, b in xs. -/
namespace VS
open PySem PySem.Spec PyProof.Rows L2
def forLN (is : List Nat) (g : Env → Rs) : List D → Env → Rs
  | [], c => .ok .nx c
  | d :: ds, c => match d with
    | .tup es => if es.length = is.length then match g (setAll is es c) with
        | .ok .nx c' => forLN is g ds c'
        | .ok .ct c' => forLN is g ds c'
        | .ok .bk c' => .ok .nx c'
        | r => r
      else .stuck
    | _ => .stuck
def sForN (is : List Nat) (gs : Env → R (List D)) (g : Env → Rs) : Env → Rs := fun c => (gs c).st c fun ds => forLN is g ds c
theorem for_turnN {pn : List Nat} {g : Env → Rs} {is : List Nat} {E : Wd} {B : Bs} {G H : Hp} {c : Env} {σ : L2.St} {fp : List Addr} {Dn : Ends} {d : D} {ds : List D} {v : V} {N : L2.St → Hp → Prop} (A : Abs E B G H c σ fp) (P : PinOk pn B) (hi : ∀ i ∈ is, i ∉ pn) (rv : Rp E G v d) (q : ResS E W B G H (forLN is g (d :: ds) c) Dn)
    (hN : ∀ σ' G' H' c' fp', Same G G' → Abs E B G' H' c' σ' fp' → ResS E W B G' H' (forLN is g ds c') Dn → N σ' H') : gTup E.K is.length (gNs is) v σ H (TSt E W pn g { Dn with nx := N, ct := N, bk := Dn.nx }) := by
  cases d with
  | tup es =>
    have q1 : ResS E W B G H (if es.length = is.length then match g (setAll is es c) with
        | .ok .nx c' => forLN is g ds c'
        | .ok .ct c' => forLN is g ds c'
        | .ok .bk c' => .ok .nx c'
        | r => r
      else .stuck) Dn := q
    by_cases hl : es.length = is.length
    · rw [if_pos hl] at q1
      obtain ⟨a, vs, rfl, h2, r2⟩ := rv.tupH (b := true) A.fine.le
      refine ⟨a, vs, rfl, h2, by rw [r2.length, hl], gNs_run P is es vs c σ fp _ hi r2 hl A fun σ' fp' A2 => ⟨B, G, _, fp', A2, P, ?_⟩⟩
      cases eg : g (setAll is es c) with
      | ok f c' =>
        rw [eg] at q1
        cases f with
        | nx => exact fun σ' G' H' fp' s A' => hN σ' G' H' c' fp' s A' (ResS.grow (r := forLN is g ds c') q1 s)
        | ct => exact fun σ' G' H' fp' s A' => hN σ' G' H' c' fp' s A' (ResS.grow (r := forLN is g ds c') q1 s)
        | bk => exact q1
        | rt d => exact q1
      | ex x c' => rw [eg] at q1; exact q1
      | stuck => rw [eg] at q1; exact q1
    · rw [if_neg hl] at q1; exact q1.elim
  | _ => exact False.elim q
section
variable {X : Cx} {W : WX} {pn : List Nat} {e : Expr} {pos : Pos} {g : Env → Rs}
theorem pxs_forN {es : List Expr} {k : Nat} {p : Pos} {body : List Stmt} {wi : TI} {gs : Env → R (List D)} (is : List Nat) (hp : PassesOwn (model X.prog X.w) X.A X.env X.xe) (hc : X.calm = true) (ha : PSrc X W true (.Tuple es k p) e wi gs) (hb : PXSs X W pn body g) (ht : PGs X es (gNs is)) (hi : ∀ i ∈ is, i ∉ pn := by decide)
    (hn : (assignEach es X.env).length = is.length := by rfl) (hst : (assignEach es X.env).findIdx? (·.1) = none := by rfl) (hs : ∀ y, foldedSetIterable e X.env y = pure y := by intro _; rfl) : PXS X W pn (.For (.Tuple es k p) e body [] pos) (sForN is gs g) :=
  ps_mono (ps_for hp hc ha.pi (pg_tup hc ht hn hst) hb hs) fun Dn σ H ⟨B, G, c, fp, A, P, q⟩ => ha.run A (st_res q) fun ds G1 H1 J e s1 t1 A1 w ⟨_, q1⟩ => by
    refine ⟨fun j m σ H => m = ds.length - j ∧ j ≤ ds.length ∧ ∃ G' c' fp', Same G1 G' ∧ Abs ⟨X.K, X.mg, X.w⟩ B G' H c' σ fp' ∧ ResS ⟨X.K, X.mg, X.w⟩ W B G' H (forLN is g (ds.drop j) c') Dn, ⟨ds.length, by simp, Nat.zero_le _, G1, c, fp, Same.refl _, A1, q1 G1 H1 s1⟩, ?_⟩
    rintro j m σ' H' ⟨rfl, hj, G', c', fp', s', A', q'⟩
    by_cases hlt : j < ds.length
    · refine .inr ⟨w.go j H' (s'.trans A'.fine.le) hlt, fun σ2 H2 => ∃ G2 c2 fp2, Same G1 G2 ∧ Abs ⟨X.K, X.mg, X.w⟩ B G2 H2 c2 σ2 fp2 ∧ ResS ⟨X.K, X.mg, X.w⟩ W B G2 H2 (forLN is g (ds.drop (j + 1)) c2) Dn, fun σ2 H2 h2 => ⟨_, by omega, rfl, hlt, h2⟩, fun x H3 y => ?_⟩
      obtain ⟨rfl, hr⟩ := w.yl j H' x H3 (s'.trans A'.fine.le) y
      have hd := List.getElem?_eq_getElem hlt
      rw [drop_cons hd] at q'
      exact for_turnN A' P hi ((hr _ hd).mono s') q' fun σ2 G2 H2 c2 fp2 s2 A2 q2 => ⟨G2, c2, fp2, s'.trans s2, A2, q2⟩
    · have e : j = ds.length := by omega
      subst e
      rw [List.drop_length] at q'
      exact .inl ⟨w.st _ H' (s'.trans A'.fine.le) (Nat.le_refl _), q' σ' G' H' fp' (Same.refl _) A'⟩
end
end VS

/-! VS: sorted numbers; list(range(n)) owned; a range as a value; dicts with nested keys: locked, walked, .get. -/
namespace VS
open PySem PySem.Spec PyProof.Rows L2
/-! ### sorted(numbers) -/
def sortI (ns : List Int) : List Int := ns.mergeSort fun a b => decide (a ≤ b)
theorem sortI_perm (ns : List Int) : (sortI ns).Perm ns := List.mergeSort_perm _ _
theorem sortI_le (ns : List Int) : (sortI ns).Pairwise (· ≤ ·) := by
  have := List.pairwise_mergeSort (le := fun a b : Int => decide (a ≤ b)) (fun a b c h1 h2 => by simp at *; omega) (fun a b => by simp; omega) ns
  exact this.imp fun h => by simpa using h
theorem sortI_eq {ns ns' : List Int} (h : ns'.Perm ns) (hs : ns'.Pairwise (· ≤ ·)) : ns' = sortI ns :=
  (h.trans (sortI_perm ns).symm).eq_of_pairwise (fun a b _ _ h1 h2 => Int.le_antisymm h1 h2) hs (sortI_le ns)
def fSortI : List D → Option D
  | [.lst ds] => (asInts ds).map fun ns => .lst ((sortI ns).map D.int)
  | _ => none
section
variable {X : Cx} {b : Bool}
theorem ok_sortI : CallOk ⟨X.K, X.mg, X.w⟩ (rSortedI X.K) b true fSortI := by
  intro B G H c σ fp vs ds d Q A r e p
  unfold fSortI at e
  split at e
  · obtain ⟨ns, e1, rfl⟩ := Option.map_eq_some_iff.mp e
    obtain ⟨v, rfl, rv⟩ := r.one
    obtain ⟨a, vs, rfl, h1, r1⟩ := rv.lstH A.fine.le
    have := asInts_rp r1 e1
    subst this
    refine ⟨a, ns, rfl, h1, fun ns' q hp hs hq => ?_⟩
    rw [sortI_eq hp hs]
    exact p.new A hq fun s => .lst (.inl (.inl upd_same)) (rp_ints _)
  · cases e
end
/-! ### list(range(n)), owned -/
section
variable {X : Cx} {W : WX} {b b' : Bool} {pos : Pos} {p p2 q : Pos} {ea eb : Expr} {ga gb : Env → R D}
theorem pf_lrg1 (hc : X.calm = true) (hm : X.mg "list" = none) (hm2 : X.mg "range" = none) (hb : PX X W b' eb gb) (hg : Gl X "list" := by rfl) (hg2 : Gl X "range" := by rfl) (n2 : starEach [eb] X.env = (false, eval eb X.env) :: starEach [] X.env := by rfl)
    (n4 : starEach [Expr.Call (.Name "range" p2) [eb] [] p] X.env = (false, eval (Expr.Call (.Name "range" p2) [eb] [] p) X.env) :: starEach [] X.env := by rfl) :
    PF X W (.Call (.Name "list" q) [.Call (.Name "range" p2) [eb] [] p] [] pos) (eLRgO (eC (.int 0)) gb) :=
  pe_mono (pe_listRg hc hg hm (prg_1 hg2 hm2 hb n2) n4) fun σ H Q ⟨B, G, c, fp, A, q⟩ => tx_seq A (show Res _ W B c σ fp G H (gb c >>= fun b => lift (rgB (.int 0) b) >>= fun ns => R.ok (O.lst (ns.map fun i => O.v (.int i)))) _ from q) fun d2 e2 w G2 H2 s2 t2 A2 r2 q2 => by
    obtain ⟨ns, e3, p3⟩ := Res.lift (o := rgB (.int 0) d2) (P := fun ns => PostF ⟨X.K, X.mg, X.w⟩ B c σ fp G H Q (.lst (ns.map fun i => O.v (.int i)))) (E := ⟨X.K, X.mg, X.w⟩) (W := W) (B := B) (c := c) (σ := σ) (fp := fp) (G := G2) (H := H2) (by
      cases hd : rgB (.int 0) d2 with
      | none => rw [hd] at q2; exact q2
      | some q' => rw [hd] at q2; exact q2)
    obtain ⟨i, j, e4, rfl, ok, rfl⟩ := rgB_int (E := ⟨X.K, X.mg, X.w⟩) (G := H2) (.int 0) (vw_rp A2.fine.le r2) e3
    cases e4
    refine ⟨j, rfl, ok, fun a ha => ?_⟩
    have hn : H a = none := t2.free ha
    rw [rgV_I]
    have own : OwnL ⟨X.K, X.mg, X.w⟩ G2 (upd H2 a (.lst ((rgI 0 j).map V.int))) ((rgI 0 j).map V.int) ((rgI 0 j).map fun i => O.v (.int i)) [] := by
      have := ownL_v (G := G2) (H := upd H2 a (.lst ((rgI 0 j).map V.int))) (rp_ints (E := ⟨X.K, X.mg, X.w⟩) (G := G2) (rgI 0 j))
      rw [List.map_map] at this
      exact this
    refine p3 (.ref a) G2 _ [a] s2 (t2.trans (same_upd ha)) (A2.newO ha rfl) (.lst upd_same own) (by simp) fun q hq => ?_
    have : q = a := by simpa using hq
    subst this
    exact ⟨hn, A2.fine.fresh ha⟩
/-! ### range(n) as a value -/
theorem rng_ok {P : Program} {w : World} {H' : Hp} {h' : Heap} {a : Addr} {lo hi : Int} {t u v : Tok} (hr : IsRange h' a lo hi 1 t u v) : ObjOk P w H' h' a (rngO a lo hi) :=
  ⟨⟨t, u, v, hr⟩, ⟨_, hr⟩, fun g1 g2 ⟨t, u, v, z⟩ k => ⟨t, u, v, k _ z⟩⟩
def tRngV (ta : TE) : TE := fun σ H Q => ta σ H fun x H1 => ∃ n, x = .int n ∧ ∀ r, H1 r = none → Q (.ref r) (upd H1 r (rngO r 0 n))
theorem pe_rngV {ta : TE} (hg : Gl X "range") (hm : X.mg "range" = none) (ha : PE X ea ta) (na : starEach [ea] X.env = (false, eval ea X.env) :: starEach [] X.env := by rfl) : PE X (.Call (.Name "range" p) [ea] [] pos) (tRngV ta) := by
  refine ⟨fun pins s σ H Q I h => ?_⟩
  refine Call_ (ld_blt I hg hm boot_range (PyProof.Rows.callWith_type1 (one_arg ha I h (fun v s2 x H2 I2 r q => ?_) na) na))
  obtain ⟨n, rfl, q⟩ := q
  obtain ⟨t, rfl⟩ := r
  refine call_range_1 ⟨.ref s2.heap.objs.size, upd H2 s2.heap.objs.size (rngO s2.heap.objs.size 0 n), I2.laid (fun b u e => Heap.get?_push_of_some _ e) (Nat.le_refl _) (rng_ok (IsRange.new _ _ _ _ _ _ _)), rfl, q _ (I2.hok.fresh (Nat.le_refl _))⟩
def eRng (g : Env → R D) : Env → R D := fun c => g c >>= fun d => match d with
  | .int n => if -(2 ^ 62) ≤ n ∧ n < 2 ^ 62 then .ok (.rng 0 n) else .stuck
  | _ => .stuck
theorem px_rng1 (hm : X.mg "range" = none) (ha : PX X W b ea ga) (hg : Gl X "range" := by rfl) (na : starEach [ea] X.env = (false, eval ea X.env) :: starEach [] X.env := by rfl) : PX X W true (.Call (.Name "range" p) [ea] [] pos) (eRng ga) :=
  pe_mono (pe_rngV hg hm ha na) fun σ H Q ⟨B, G, c, fp, A, q⟩ => tx_seq A q fun d e v G1 H1 s1 t1 A1 r1 q1 => by
    cases d with
    | int n =>
      have q1 : Res ⟨X.K, X.mg, X.w⟩ W B c σ fp G1 H1 (if -(2 ^ 62) ≤ n ∧ n < 2 ^ 62 then R.ok (D.rng 0 n) else .stuck) (Post ⟨X.K, X.mg, X.w⟩ B c σ fp G H true Q) := q1
      by_cases hn : -(2 ^ 62) ≤ n ∧ n < 2 ^ 62
      · rw [if_pos hn] at q1
        have q1 : Post ⟨X.K, X.mg, X.w⟩ B c σ fp G H true Q (.rng 0 n) := q1
        cases (vw_rp A1.fine.le r1).intH
        exact ⟨n, rfl, fun r hr => (q1.grow s1 t1).new A1 hr fun s => .rng upd_same (by decide) (by decide) hn.1 hn.2⟩
      · rw [if_neg hn] at q1; exact q1.elim
    | _ => exact q1.elim
def iRngV (td : TE) : TI := fun σ H R => td σ H fun x H1 => ∃ a lo hi, x = .ref a ∧ H1 a = some (rngO a lo hi) ∧ -(2 ^ 62) ≤ lo ∧ lo < 2 ^ 62 ∧ -(2 ^ 62) ≤ hi ∧ hi < 2 ^ 62 ∧ R (Itr lo (hi - lo).toNat) H1
theorem pi_rngV {tg : Expr} {td : TE} (he : PE X ea td) : PI X tg ea (iRngV td) := by
  refine ⟨fun pins s σ H R I h => ?_⟩
  refine thn (he.run pins s σ H _ I h) fun u s1 ⟨x, H1, I1, rx, a, lo, hi, ex, hd, h1, h2, h3, h4, q⟩ => ?_
  subst ex
  obtain rfl : u = Value.ref a := rx
  obtain ⟨t, u, v, hr⟩ := (show (∃ t u v, IsRange s1.heap a lo hi 1 t u v) ∧ _ from I1.hok a _ hd).1
  refine wpAny_pyIter_range hr (small_one h1 h2 h3 h4) ?_
  refine ⟨s1.heap.objs.size, [s1.heap.objs.size], _, _, H1, rfl, I1.kept (t' := s1.toks) fun b o e => Heap.get?_push_of_some _ e, turn_range _ lo (hi - lo).toNat, ?_, fun b hb => ?_, q⟩
  · have e1 : lo + ((0 : Nat) : Int) * 1 = lo := by simp
    have e2 : (((hi - lo).toNat : Nat) : Int) - ((0 : Nat) : Int) = Builtin.Range.rangeSize lo hi 1 := by rw [rangeSize_one]; split <;> omega
    show IsRangeIter _ _ (lo + ((0 : Nat) : Int) * 1) ((((hi - lo).toNat : Nat) : Int) - ((0 : Nat) : Int)) 1
    rw [e1, e2]
    exact Heap.get?_push_size _ rfl
  · have e : b = s1.heap.objs.size := by simpa using hb
    subst e
    exact I1.fpOk (Nat.le_refl _) (I1.hok.fresh (Nat.le_refl _))
def eItG (g : Env → R D) : Env → R (List D) := fun c => g c >>= fun d => match d with
  | .rng lo hi => .ok (rangeD lo hi)
  | _ => .stuck
theorem src_rngV {tg : Expr} (h : PX X W true ea ga) : PSrc X W b tg ea (iRngV (TX ⟨X.K, X.mg, X.w⟩ W true ga)) (eItG ga) :=
  ⟨pi_rngV h, fun {B G H c σ fp P R} A q k => tx_seq A q fun d e0 v G1 H1 s1 t1 A1 r1 q1 => by
    cases r1 with
    | @rng a lo hi hr h1 h2 h3 h4 =>
      exact ⟨a, lo, hi, rfl, A1.fine.le a _ hr, h1, h2, h3, h4, k _ G1 H1 _ (by unfold eItG; rw [e0]; rfl) s1 t1 A1 wk_rng q1⟩
    | _ => exact q1.elim⟩
end
/-! ### dicts with nested keys: locked -/
def fzN (i : Nat) (c : Env) : Option Env := match c[i]? with
  | some (some (.ndc ks os)) => (vals os).map fun ds => c.set i (some (.v (.nlk ks ds)))
  | _ => none
def isNlk (i : Nat) (c : Env) : Bool := match c[i]? with
  | some (some (.v (.nlk _ _))) => true
  | _ => false
def sFzN (i : Nat) (g : Env → Rs) : Env → Rs := fun c => if isNlk i c then g c else match fzN i c with
  | some c' => g c'
  | none => .stuck
theorem Abs.fzN {E : Wd} {B : Bs} {G H : Hp} {c c' : Env} {σ : L2.St} {fp : List Addr} (A : Abs E B G H c σ fp) (nb : ∀ a, ¬ B.br a) {i : Nat} (h : VS.fzN i c = some c') : ∃ d u, H d = some u ∧ Mut (some u) ∧ ∀ od, ∃ G' fp', Same G G' ∧ Abs E B G' (upd H d (.frz od u)) c' σ fp' := by
  unfold VS.fzN at h
  split at h
  · rename_i ks os e
    obtain ⟨ds, ev, rfl⟩ := Option.map_eq_some_iff.mp h
    obtain ⟨v, fq, h1, h2, h3, h4, h5⟩ := A.cells.poke A.nd e
    cases h2 with
    | @ndc a xs vs _ _ f1 ha hk hn hv hkr ho =>
      obtain ⟨hr, rfl⟩ := vals_own ho ev
      obtain ⟨ga, a2⟩ := A.fresh a (h4 a List.mem_cons_self)
      have h0 : B.H0 a = none := a2.elim id fun z => (nb a z).elim
      refine ⟨a, _, ha, True.intro, fun od => ?_⟩
      have s : Same G (upd G a (.frz od (dN E.w a xs))) := same_upd ga
      have ne : ∀ b ∈ fp, b ∉ [a] → b ≠ a := fun b _ hn z => hn (by rw [z]; exact List.mem_cons_self)
      obtain ⟨fp', k1, k2, k3⟩ := h5 (G' := upd G a (.frz od (dN E.w a xs))) (H' := upd H a (.frz od (dN E.w a xs))) (o' := .v (.nlk ks ds)) (fr := []) s (fun p hp hn u e => by rw [upd_ne (ne p hp hn)]; exact e) (.v (.nlk upd_same hk hn hv (hkr.mono s) (hr.mono s))) List.nodup_nil (fun p hp => nomatch hp)
      have k4 : ∀ p ∈ fp', p ∈ fp ∧ p ≠ a := fun p hp => by
        obtain ⟨z, w⟩ : p ∈ fp ∧ p ∉ [a] := (k3 p hp).elim id fun z => nomatch z
        exact ⟨z, ne p z w⟩
      refine ⟨_, fp', s, ⟨⟨fun b o e n => ?_, fun b e => ?_, fun b e1 e2 => ?_, fun b u e => ?_, fun b u e k => ?_⟩, k1, k2, fun p hp => ⟨by rw [upd_ne (k4 p hp).2]; exact (A.fresh p (k4 p hp).1).1, (A.fresh p (k4 p hp).1).2⟩, A.pin⟩⟩
      · have hb : b ≠ a := fun z => by subst z; rw [h0] at e; cases e
        rw [upd_ne hb]; exact A.fine.base b o e n
      · by_cases hb : b = a
        · rw [hb]; exact h0
        · rw [upd_ne hb] at e; exact A.fine.there b e
      · have hb : b ≠ a := fun z => e1 (by rw [z]; exact h0)
        rw [upd_ne hb]; exact A.fine.x b e1 e2
      · by_cases hb : b = a
        · subst hb; rw [upd_same] at e ⊢; exact e
        · rw [upd_ne hb] at e ⊢; exact A.fine.le b u e
      · by_cases hb : b = a
        · subst hb; rw [upd_same] at e ⊢; exact e
        · rw [upd_ne hb] at e ⊢; exact A.fine.tup b u e k
  · cases h
section
variable {X : Cx} {W : WX} {b b' b1 b2 : Bool} {pn : List Nat} {e : Expr} {pos : Pos} {g : Env → Rs}
theorem pxs_fzN {st : Stmt} (i : Nat) (h : PXS X W [] st g) : PXS X W [] st (sFzN i g) := ps_mono (ps_lockIn h) fun Dn σ H ⟨B, G, c, fp, A, P, q⟩ => by
  unfold sFzN at q
  by_cases hl : isNlk i c = true
  · rw [if_pos hl] at q
    exact .inl ⟨B, G, c, fp, A, P, q⟩
  rw [if_neg hl] at q
  cases hf : fzN i c with
  | none => rw [hf] at q; exact q.elim
  | some c' =>
    rw [hf] at q
    obtain ⟨d, u, hd, mu, k⟩ := A.fzN (P.2 rfl) hf
    refine .inr ⟨d, u, hd, mu, fun od => ?_⟩
    obtain ⟨G', fp', s, A'⟩ := k od
    exact ⟨B, G', c', fp', A', P, ResS.grow (r := g c') q s⟩
end
/-! ### .. walked -/
def Itn (w : World) (d : Addr) (o : Obj) (xs : List (NestedKey × Addr × Value)) : It :=
  ⟨fun i H => H d = some (.frz o (dN w d xs)) ∧ i < xs.length, fun i H x H' => H' = H ∧ ∃ y, xs[i]? = some y ∧ x = .ref y.2.1, fun i H => H d = some (.frz o (dN w d xs)) ∧ xs.length ≤ i⟩
theorem frzN {X : Cx} {pins : List (Addr × Obj)} {σ : L2.St} {H : Hp} {s : Shared} {d : Addr} {o : Obj} {xs : List (NestedKey × Addr × Value)} (I : L2.Inv X pins σ H s) (h : H d = some (.frz o (dN X.w d xs))) :
    (d == sysModules) = false ∧ s.heap.get? d = some o ∧ o.ExactDict ∧ ∃ (es : Array DictEntry) (ep : Nat), o.data = .dict es ep ∧ es.size = xs.length ∧ ∀ (i : Nat) (y : NestedKey × Addr × Value), xs[i]? = some y → ∃ en : DictEntry, es[i]? = some en ∧ en.key = .ref y.2.1 := by
  have x := I.hok d _ h
  unfold dN at x
  obtain ⟨hd, hs, _⟩ := (show s.heap.get? d = some o ∧ _ ∧ _ from x)
  obtain ⟨hs, o', es, ep, h1, h2, h3, h4⟩ := hs
  rw [hd] at h1
  cases h1
  refine ⟨hs, hd, h2, es, ep, h3, by simpa using congrArg List.length h4, fun i y e => ?_⟩
  have := congrArg (fun l => l[i]?) h4
  simp only [Array.getElem?_toList, List.getElem?_map, e] at this
  exact ⟨_, this, rfl⟩
section
variable {P : Program} {w : World} {K : PySem.W.Frag} {tg : Expr} {d : Addr} {o : Obj} {es : Array DictEntry} {ep : Nat}
theorem turn_keysN {xs : List (NestedKey × Addr × Value)} (it : Addr) (hod : o.data = .dict es ep) : Turn P w K tg (Itn w d o xs) [it] it (fun i h => h.IsKeyIter it d i xs.length ep) where
  mem := by simp
  obj := fun i h st b hb => by
    have e : b = it := by simpa using hb
    subst e
    obtain ⟨oi, e, c, dd⟩ := st
    exact ⟨oi, e, fun v z => by rw [dd] at z; cases z⟩
  keep := fun i h h' st k => st.at fun oi e => k it (by simp) oi e
  item := by
    intro X hP hw hK hc i pins s σ H E I hf st hg
    subst hP hw hK
    obtain ⟨hd, hi⟩ := hg
    obtain ⟨f0, f1, f2, f3, f4, f5⟩ := hf it (by simp)
    obtain ⟨hs, hgd, hx, es', ep', hdt, hsz, ent⟩ := frzN I hd
    obtain ⟨rfl, rfl⟩ := dict_ep hod hdt
    obtain ⟨y, hkv⟩ : ∃ p, xs[i]? = some p := ⟨xs[i], List.getElem?_eq_getElem hi⟩
    obtain ⟨en, hen, hkey⟩ := ent i y hkv
    refine next_key_item st hgd hdt hsz hen fun h' st' sb => ?_
    have I1 : Inv X pins σ H { s with heap := h' } := I.turned (t' := s.toks) (fun b ob hb e => (sb.2 b hb).trans e) f0 f1 f3 f4 f5
    obtain ⟨oi, e, c, dd⟩ := id st'
    exact ⟨en.key, rfl, go_of (s := { s with heap := h' }) e c dd (by decide) ⟨.ref y.2.1, H, I1, hkey, ⟨rfl, y, hkv, rfl⟩, st', fun b hb => (hf b hb).1⟩⟩
  done := by
    intro X hP hw hK hc i pins s σ H E I hf st hg
    subst hP hw hK
    obtain ⟨hd, hi⟩ := hg
    obtain ⟨f0, f1, f2, f3, f4, f5⟩ := hf it (by simp)
    obtain ⟨hs, hgd, hx, es', ep', hdt, hsz, ent⟩ := frzN I hd
    obtain ⟨rfl, rfl⟩ := dict_ep hod hdt
    exact next_key_end (I.ok.hd hc) st hgd hdt hsz hi fun h' eb => ⟨rfl, I.turned (t' := s.toks) (fun b ob hb e => eb b ob hb e) f0 f1 f3 f4 f5⟩
  self := fun A i s Q E st h => by
    refine wpAny_pyIter_slot st.typeIs F.slot_dict_keyiterator_iter (wpAny_call_entry F.slot_dict_keyiterator_iter st.typeIs F.entry_dict_keyiterator_iter ?_ (F.args_dict_keyiterator_iter_1 _))
    show wpAny _ _ (ret (.ref it)) _ _ s
    exact wpAny_pure ⟨_, rfl, "dict_keyiterator", _, st.typeIs, F.slot_dict_keyiterator_next.lookup, h⟩
end
def iKeysN (w : World) (td : TE) : TI := fun σ H R => td σ H fun x H1 => ∃ d o xs, x = .ref d ∧ H1 d = some (.frz o (dN w d xs)) ∧ R (Itn w d o xs) H1
section
variable {X : Cx} {W : WX} {b b' : Bool} {tg e : Expr} {td : TE} {pos : Pos}
theorem pi_keysN (he : PE X e td) : PI X tg e (iKeysN X.w td) := by
  refine ⟨fun pins s σ H R I h => ?_⟩
  refine thn (he.run pins s σ H _ I h) fun u s1 ⟨x, H1, I1, rx, d, o, xs, ex, hd, q⟩ => ?_
  subst ex
  obtain rfl : u = Value.ref d := rx
  obtain ⟨hs, hgd, hx, es, ep, hdt, hsz, ent⟩ := frzN I1 hd
  refine iter_keys hs hgd hx hdt (pi_one (tk := s1.toks) I1 _ (turn_keysN _ hdt) ⟨_, Heap.get?_push_size _ rfl, rfl, ?_⟩ q)
  rw [hsz] <;> rfl
def eItN' (g : Env → R D) : Env → R (List D) := fun c => g c >>= fun d => match d with
  | .nlk ks _ => .ok ks
  | _ => .stuck
theorem src_keysN {ga : Env → R D} (h : PX X W true e ga) : PSrc X W b tg e (iKeysN X.w (TX ⟨X.K, X.mg, X.w⟩ W true ga)) (eItN' ga) :=
  ⟨pi_keysN h, fun {B G H c σ fp P R} A q k => tx_seq A q fun d e0 v G1 H1 s1 t1 A1 r1 q1 => by
    cases r1 with
    | @nlk a o xs vs ks ds hr hk hn hv hkr ho =>
      have hr : G1 a = some (.frz o (dN X.w a xs)) := hr
      have hh := A1.fine.le a _ hr
      have hl : ks.length = xs.length := by simpa using congrArg List.length hk
      have hv' : vw b G1 H1 a = some (.frz o (dN X.w a xs)) := by
        cases b with
        | true => exact hr
        | false => exact hh
      refine ⟨a, o, xs, rfl, hh, k ks G1 H1 _ (by unfold eItN'; rw [e0]; rfl) s1 t1 A1 ⟨fun j H s hj => ⟨s a _ hv', by rw [← hl]; exact hj⟩, fun j H x H' s y => ⟨y.1, fun d e => ?_⟩, fun j H s hj => ⟨s a _ hv', by rw [← hl]; exact hj⟩⟩ q1⟩
      obtain ⟨z, e1, rfl⟩ := y.2
      obtain ⟨v, e2, e3⟩ := hkr.get e
      rw [List.getElem?_map, e1] at e2
      cases e2
      exact e3
    | _ => exact q1.elim⟩
/-! ### d.get(k, e) -/
def tNGt (E : Wd) (td ty tx : TE) : TE := fun σ H Q => td σ H fun x H1 => ∃ a, x = .ref a ∧ (∃ xs ks, ND E H1 a xs ks) ∧ ty σ H1 fun y H2 => tx σ H2 fun z H3 => ∃ xs ks d k, ND E H3 a xs ks ∧ Rp E H3 y d ∧ D.nk d = some k ∧
  (match atKey xs k with | some p => ∃ v, RelV v p.2 ∧ Q v H3 | none => Q z H3)
theorem pe_ngt {o f : Expr} {ty tx : TE} {apos cpos : Pos} (hu : X.A.units + 9 < cLine) (ho : PE X o td) (he : PE X e ty) (hf : PE X f tx) (m : M2 X o "get" apos e f cpos) : PE X (.Call (.Attribute o "get" apos) [e, f] [] cpos) (tNGt ⟨X.K, X.mg, X.w⟩ td ty tx) := by
  refine ⟨fun pins s σ H Q I h => ?_⟩
  refine wpAny_Call_method m.base m.few m.line PySem.F.plainAttrs_dict PySem.F.slot_dict_get PySem.F.type_dict_get (thn (ho.run pins s σ H _ I h) fun u s1 ⟨x, H1, I1, rx, a, ex, ⟨xs, ks, nd⟩, q1⟩ => ?_)
  subst ex
  obtain rfl : u = Value.ref a := rx
  obtain ⟨hsy, hm⟩ := nd.of I1
  obtain ⟨ob, es, ep, h1, h2, h3, _⟩ := id hm
  refine ⟨hm.typeIs, fun b hb => ?_, ?_⟩
  · cases hb
    exact ⟨ob, h1, h2.2.1⟩
  rw [m.trees]
  refine Calls.callWith_builtin rfl (Calls.evalArgs_plain (Calls.spliced_cons (thn (he.run pins s1 σ H1 _ I1 q1) fun iv s2 ⟨y, H2, I2, ry, q2⟩ => Calls.spliced_cons (thn (hf.run pins s2 σ H2 _ I2 q2) fun zv s3 ⟨z, H3, I3, rz, xs, ks, d, k, nd, rk, ek, q3⟩ => Calls.spliced_nil ?_))))
  obtain ⟨hsy, hm⟩ := nd.of I3
  obtain ⟨b, rfl, rfl, hk⟩ := key_is I3 rk ry ek
  refine getOr_keyed (knd := nestedKind X.prog X.w) (by show X.A.units + 1 + 8 < cLine; omega) hk hsy ⟨xs, hm, rfl⟩ ?_
  rw [valueAt_pairsH]
  cases hp : atKey xs k with
  | none => rw [hp] at q3; exact ⟨z, H3, I3.tok _, rz, q3⟩
  | some p =>
    rw [hp] at q3
    obtain ⟨v, rv, q4⟩ := q3
    exact ⟨v, H3, I3.tok _, rv, q4⟩
def eNGt (i : Nat) (gk ge : Env → R D) : Env → R D := fun c => match atNk i c with
  | some q => gk c >>= fun k => lift (D.nk k) >>= fun kk => ge c >>= fun d => lift (match nGet q.1 q.2 kk with | some (.v e) => some e | some _ => none | none => if nHas q.1 kk then none else some d)
  | none => .stuck
theorem px_ngt {x : Str} {p apos cpos : Pos} (i : Nat) {eb ef : Expr} {gb ge : Env → R D} (hu : X.A.units + 65 < cLine) (hb : PX X W true eb gb) (he : PX X W true ef ge) (m : M2 X (.Name x p) "get" apos eb ef cpos) (hN : X.N[i]? = some x := by rfl) (hv : Vis X.env.scope x := by first | exact Or.inl rfl | exact Or.inr (Or.inl rfl) | exact Or.inr (Or.inr rfl)) (hd : (x == ("__debug__" : Str)) = false := by decide)
    (hcd : (x == ("__classdict__" : Str)) = false := by decide) : PX X W true (.Call (.Attribute (.Name x p) "get" apos) [eb, ef] [] cpos) (eNGt i gb ge) :=
  pe_mono (pe_ngt (by omega) (pe_var hN hv hd hcd) hb he m) fun σ H Q ⟨B, G, c, fp, A, q⟩ => by
    unfold eNGt at q
    split at q
    · rename_i q' e0
      obtain ⟨a, xs, vs, fq, h1, nd, vl, ow⟩ := A.ndict e0
      refine ⟨_, h1, a, rfl, ⟨xs, q'.1, nd⟩, tx_seq A q fun k e3 w G1 H1 s1 t1 A1 r1 q1 => ?_⟩
      cases hk : D.nk k with
      | none => rw [hk] at q1; exact q1.elim
      | some kk =>
        rw [hk] at q1
        refine tx_seq A1 q1 fun d e4 w2 G2 H2 s2 t2 A2 r2 q2 => ?_
        obtain ⟨d3, e5, p4⟩ := Res.lift q2
        obtain ⟨a', xs, vs, fq, h1', nd, vl, ow⟩ := A2.ndict e0
        rw [h1] at h1'
        cases h1'
        refine ⟨xs, q'.1, k, kk, nd, (r1.mono s2).mono A2.fine.le, hk, ?_⟩
        split at e5
        · rename_i e6
          cases e5
          obtain ⟨p, v8, f8, e9, e10, e11⟩ := nGet_at nd.ky vl ow e6
          rw [e9]
          cases e11 with
          | v rv => exact ⟨v8, e10, p4 _ G2 H2 (s1.trans s2) (t1.trans t2) A2 rv⟩
        · cases e5
        · split at e5
          · cases e5
          · rename_i e6 e7
            cases e5
            rw [nHas_at kk nd.ky] at e7
            cases hp : atKey xs kk with
            | none => exact p4 _ G2 H2 (s1.trans s2) (t1.trans t2) A2 r2
            | some p => rw [hp] at e7; exact (e7 rfl).elim
    · exact q.elim
end
end VS

set_option maxHeartbeats 8000000
namespace GW
open PySem PySem.Spec PyProof.Rows L2 VS
noncomputable section
def wN : Nat := 1000000000
def BLnumber : VS.Env → Rs :=
    (sSeq (sSet 2 (eOp2 (opAdd true true) (eOp2 (opMul) (eFn (fSum) (eCons (eV 0) eNil)) (eC (.int 31))) (eOp2 (opMul) (eC (.int 1000003)) (eOp2 (opAdd true true) (eV 1) (eC (.int 1))))))
    (sSeq (sIf (eB (eOp2 (opRel fun i j => decide (i < j)) (eV 1) (eFn (fLen) (eCons (eV 0) eNil))))
    (sSet 2 (eOp2 (opIx true) (eV 0) (eV 1)))
    sNil)
    (sRet (eFn (fAbs) (eCons (eV 2) eNil)))))
def MLnumber : List D → R D := runF 3 BLnumber
def BLdraws : VS.Env → Rs :=
    (sSeq (sSet 4 (eCall MLnumber (eCons (eV 0) (eCons (eV 1) eNil))))
    (sSeq (sSetO 5 (eFnO fLstO eNil))
    (sSeq (sIf (eB (eOp2 (opRel fun i j => decide (j ≤ i)) (eV 4) (eOp2 (opPow) (eC (.int 10)) (eC (.int 18)))))
    (sSeq (sSet 4 (eOp2 (opSub) (eV 4) (eOp2 (opPow) (eC (.int 10)) (eC (.int 18)))))
    (sSeq (sFor 6 (eItR (eC (.int 0)) (eV 2))
    (sSeq (sApp 5 (eOp2 (opMod) (eV 4) (eV 3)))
    (sSet 4 (eOp2 (opDiv) (eV 4) (eV 3)))))
    (sFz 5 (sRet (eV 5)))))
    sNil)
    (sSeq (sSet 7 (eOp2 (opAdd true true) (eOp2 (opMod) (eV 4) (eC (.int 2147483647))) (eC (.int 1))))
    (sSeq (sFor 6 (eItR (eC (.int 0)) (eV 2))
    (sSeq (sSet 7 (eOp2 (opMod) (eOp2 (opAdd true true) (eOp2 (opAdd true true) (eOp2 (opMul) (eV 7) (eC (.int 48271))) (eOp2 (opMul) (eC (.int 11)) (eV 6))) (eC (.int 7))) (eC (.int 2147483647))))
    (sSeq (sSet 8 (eOp2 (opMod) (eOp2 (opAdd true true) (eOp2 (opAdd true true) (eOp2 (opMul) (eV 7) (eV 7)) (eOp2 (opMul) (eC (.int 69621)) (eV 6))) (eC (.int 5))) (eC (.int 2147483629))))
    (sApp 5 (eOp2 (opMod) (eOp2 (opDiv) (eV 8) (eC (.int 64))) (eV 3))))))
    (sFz 5 (sRet (eV 5))))))))
def MLdraws : List D → R D := runF 9 BLdraws
def BLwords : VS.Env → Rs :=
    (sSeq (sSet 2 (eFn fLst (eCons (eC (.str [])) eNil)))
    (sSeq (sSet 3 (eFn fLst (eCons (eC (.str [])) eNil)))
    (sSeq (sFor 4 (eItR (eC (.int 0)) (eV 1))
    (sSeq (sSetO 5 (eFnO fLstO eNil))
    (sSeq (sFor 6 (eIt true (eV 3))
    (sFor 7 (eIt true (eSl true (eC (.str [97, 98, 99])) eNoO (eO (eV 0))))
    (sApp 5 (eOp2 (opAdd true true) (eV 6) (eV 7)))))
    (sSeq (sSet 2 (eOp2 (opAdd true false) (eV 2) (eL 5)))
    (sFz 5 (sSet 3 (eV 5)))))))
    (sRet (eV 2)))))
def MLwords : List D → R D := runF 8 BLwords
def Bbegun_places : VS.Env → Rs :=
    (sRet (eFn (fTuple true) (eCons (eLc (eIt true (eV 0)) tYes' (eC (.int 0)) 1) eNil)))
def Mbegun_places : List D → R D := runF 2 Bbegun_places
def Bis_off : VS.Env → Rs :=
    (sRet (eOp2 (opEq) (eFn (fLen) (eCons (eLc (eIt true (eV 0)) (eB (eOp2 (opIsnt) (eV 1) (eC .non))) (eV 1) 1) eNil)) (eC (.int 0))))
def Mis_off : List D → R D := runF 2 Bis_off
def Btakes : VS.Env → Rs :=
    (sSeq (sIf (eB (eOp2 (opEq) (eOp2 (opIx true) (eV 0) (eC (.int 0))) (eC (.str [109, 97, 121, 98, 101]))))
    (sRet (eOp2 (opEq) (eOp2 (opIx true) (eV 0) (eC (.int 1))) (eV 1)))
    sNil)
    (sRet (eOp2 (opEq) (eOp2 (opBit Builtin.bitAnd) (eOp2 (opShr) (eOp2 (opIx true) (eV 0) (eC (.int 1))) (eV 1)) (eC (.int 1))) (eC (.int 1)))))
def Mtakes : List D → R D := runF 2 Btakes
def Bclimbed_place : VS.Env → Rs :=
    (sSeq (sIf (eB (eOp2 (opIs) (eV 1) (eC .non)))
    (sRet (eC .non))
    sNil)
    (sSeq (sFor 3 (eItR (eV 1) (eFn (fLen) (eCons (eV 0) eNil)))
    (sIf (eTru (eCall Mtakes (eCons (eOp2 (opIx true) (eV 0) (eV 3)) (eCons (eV 2) eNil))))
    (sRet (eOp2 (opAdd true true) (eV 3) (eFn (fInt) (eCons (eOp2 (opEq) (eOp2 (opIx true) (eOp2 (opIx true) (eV 0) (eV 3)) (eC (.int 0))) (eC (.str [109, 97, 121, 98, 101]))) eNil))))
    sNil))
    (sRet (eC .non))))
def Mclimbed_place : List D → R D := runF 4 Bclimbed_place
def Bclimbed_places : VS.Env → Rs :=
    (sRet (eFn (fTuple true) (eCons (eLc (eItR (eC (.int 0)) (eFn (fLen) (eCons (eV 0) eNil))) tYes' (eCall Mclimbed_place (eCons (eOp2 (opIx true) (eV 0) (eV 3)) (eCons (eOp2 (opIx true) (eV 1) (eV 3)) (eCons (eV 2) eNil)))) 3) eNil)))
def Mclimbed_places : List D → R D := runF 4 Bclimbed_places
def Bfirst_off : VS.Env → Rs :=
    (sSeq (sSetO 2 (eN1 (eCall Mbegun_places (eCons (eV 1) eNil)) (eC (.str []))))
    (sSeq (sSetO 3 (eFnO fLstO (eCons (eCall Mbegun_places (eCons (eV 1) eNil)) eNil)))
    (sSeq (sSet 4 (eC (.int 0)))
    (sSeq (whileL (eB (eOp2 (opRel fun i j => decide (i < j)) (eV 4) (eFn (fLen) (eCons (eL 3) eNil))))
    (sSeq (sSet 5 (eIxo 3 (eV 4)))
    (sSeq (sIf (eTru (eCall Mis_off (eCons (eV 5) eNil)))
    (sRet (eNIx 2 (eV 5)))
    sNil)
    (sSeq (sFor 6 (eItR (eC (.int 0)) (eV 0))
    (sSeq (sSet 7 (eCall Mclimbed_places (eCons (eV 1) (eCons (eV 5) (eCons (eV 6) eNil)))))
    (sIf (eB (eNIn true 2 (eV 7)))
    (sSeq (sNSet 2 (eV 7) (eOp2 (opAdd true true) (eNIx 2 (eV 5)) (eOp2 (opIx true) (eC (.str [97, 98, 99])) (eV 6))))
    (sApp 3 (eV 7)))
    sNil)))
    (sSet 4 (eOp2 (opAdd true true) (eV 4) (eC (.int 1))))))) wN)
    (sRet (eC .non))))))
def Mfirst_off : List D → R D := runF 8 Bfirst_off
def BLsame (MLsame : List D → R D) : VS.Env → Rs :=
    (sSeq (sIf (tOr' (eTru (eIs .bool (eV 1))) (eTru (eIs .bool (eV 0))))
    (sRet (eAnd (eIs .bool (eV 1)) (eAnd (eIs .bool (eV 0)) (eOp2 (opEq) (eV 0) (eV 1)))))
    sNil)
    (sSeq (sIf (tOr' (eB (eOp2 (opIs) (eV 1) (eC .non))) (eTru (eIs .int (eV 1))))
    (sRet (eAnd (eOp2 (opEq) (eV 0) (eV 1)) (eOr (eOp2 (opIs) (eV 1) (eC .non)) (eIs .int (eV 0)))))
    sNil)
    (sSeq (sIf (eTru (eIs .str (eV 1)))
    (sRet (eAnd (eIs .str (eV 0)) (eOp2 (opEq) (eV 0) (eV 1))))
    sNil)
    (sSeq (sIf (tOr' (eB (eOp2 (opNe) (eIs .list (eV 1)) (eIs .list (eV 0)))) (eB (eOp2 (opNe) (eIs .tuple (eV 1)) (eIs .tuple (eV 0)))))
    (sRet (eC (.bl false)))
    sNil)
    (sSeq (sIf (eB (eOp2 (opNe) (eFn (fLen) (eCons (eV 0) eNil)) (eFn (fLen) (eCons (eV 1) eNil))))
    (sRet (eC (.bl false)))
    sNil)
    (sSeq (sFor 2 (eItR (eC (.int 0)) (eFn (fLen) (eCons (eV 1) eNil)))
    (sIf (tNot' (eTru (eCall MLsame (eCons (eOp2 (opIx true) (eV 0) (eV 2)) (eCons (eOp2 (opIx true) (eV 1) (eV 2)) eNil)))))
    (sRet (eC (.bl false)))
    sNil))
    (sRet (eC (.bl true)))))))))
def MLsameN : Nat → List D → R D
  | 0 => fun _ => .stuck
  | n + 1 => runF 3 (BLsame (MLsameN n))
def MLsame : List D → R D := MLsameN 64
def BLladder : VS.Env → Rs :=
    (sSeq (sSetO 2 (eFnO fLstO eNil))
    (sSeq (sFor 3 (eIt true (eV 0))
    (sApp 2 (eOp2 (opIx true) (eFn fLst (eCons (eFn fTup (eCons (eC (.str [109, 97, 121, 98, 101])) (eCons (eOp2 (opMod) (eOp2 (opDiv) (eV 3) (eC (.int 2))) (eV 1)) eNil))) (eCons (eFn fTup (eCons (eC (.str [97, 110, 121])) (eCons (eOp2 (opAdd true true) (eC (.int 1)) (eOp2 (opMod) (eOp2 (opDiv) (eV 3) (eC (.int 2))) (eOp2 (opSub) (eOp2 (opShl) (eC (.int 1)) (eV 1)) (eC (.int 1))))) eNil))) eNil))) (eOp2 (opMod) (eV 3) (eC (.int 2))))))
    (sRet (eFn (fTuple false) (eCons (eL 2) eNil)))))
def MLladder : List D → R D := runF 4 BLladder
def Bcounted_places : VS.Env → Rs :=
    (sSeq (sSetO 3 (eN1 (eCall Mbegun_places (eCons (eV 1) eNil)) (eC (.int 1))))
    (sSeq (sFor 4 (eItR (eC (.int 0)) (eV 2))
    (sSeq (sSetO 5 eNNew)
    (sSeq (sFzN 3 (sFor 6 (eItN' (eV 3))
    (sFor 7 (eItR (eC (.int 0)) (eV 0))
    (sSeq (sSet 8 (eCall Mclimbed_places (eCons (eV 1) (eCons (eV 6) (eCons (eV 7) eNil)))))
    (sNSet 5 (eV 8) (eOp2 (opAdd true true) (eNGt 5 (eV 8) (eC (.int 0))) (eNIx 3 (eV 6))))))))
    (sFzN 5 (sSet 3 (eV 5))))))
    (sFzN 3 (sRet (eV 3)))))
def Mcounted_places : List D → R D := runF 9 Bcounted_places
def Bcount_on_ladders : VS.Env → Rs :=
    (sSeq (sSet 3 (eCall Mcounted_places (eCons (eV 0) (eCons (eV 1) (eCons (eV 2) eNil)))))
    (sRet (eFn (fSum) (eCons (eLc (eItN' (eV 3)) (tNot' (eTru (eCall Mis_off (eCons (eV 4) eNil)))) (eNIx 3 (eV 4)) 4) eNil))))
def Mcount_on_ladders : List D → R D := runF 5 Bcount_on_ladders
def BLpower : VS.Env → Rs :=
    (sSeq (sSet 2 (eC (.int 1)))
    (sSeq (sFor 3 (eItR (eC (.int 0)) (eV 1))
    (sSet 2 (eOp2 (opMul) (eV 2) (eV 0))))
    (sRet (eV 2))))
def MLpower : List D → R D := runF 4 BLpower
def BLtakes : VS.Env → Rs :=
    (sSeq (sIf (eB (eOp2 (opEq) (eOp2 (opIx true) (eV 0) (eC (.int 0))) (eC (.str [109, 97, 121, 98, 101]))))
    (sRet (eOp2 (opEq) (eOp2 (opIx true) (eV 0) (eC (.int 1))) (eV 1)))
    sNil)
    (sRet (eOp2 (opEq) (eOp2 (opBit Builtin.bitAnd) (eOp2 (opShr) (eOp2 (opIx true) (eV 0) (eC (.int 1))) (eV 1)) (eC (.int 1))) (eC (.int 1)))))
def MLtakes : List D → R D := runF 2 BLtakes
def BLon : VS.Env → Rs :=
    (sSeq (sSet 2 (eFn fLst (eCons (eC (.int 0)) eNil)))
    (sSeq (sFor 3 (eIt true (eV 1))
    (sSeq (sSetO 4 (eFnO fLstO eNil))
    (sSeq (sFor 5 (eIt true (eV 2))
    (sFor 6 (eItR (eV 5) (eFn (fLen) (eCons (eV 0) eNil)))
    (sIf (eTru (eCall MLtakes (eCons (eOp2 (opIx true) (eV 0) (eV 6)) (eCons (eMS fSIndex (eC (.str [97, 98, 99])) (eCons (eV 3) eNil)) eNil))))
    (sSeq (sSet 7 (eOp2 (opAdd true true) (eV 6) (eFn (fInt) (eCons (eOp2 (opEq) (eOp2 (opIx true) (eOp2 (opIx true) (eV 0) (eV 6)) (eC (.int 0))) (eC (.str [109, 97, 121, 98, 101]))) eNil))))
    (sIf (eB (eOp2 (opNotInS) (eV 7) (eL 4)))
    (sApp 4 (eV 7))
    sNil))
    sNil)))
    (sFz 4 (sSet 2 (eV 4))))))
    (sRet (eOp2 (opRel fun i j => decide (j < i)) (eFn (fLen) (eCons (eV 2) eNil)) (eC (.int 0))))))
def MLon : List D → R D := runF 8 BLon
def Blaw : VS.Env → Rs :=
    (sSeq (sSet 1 (eCall MLdraws (eCons (eV 0) (eCons (eC (.int 0)) (eCons (eC (.int 6)) (eCons (eC (.int 720)) eNil))))))
    (sSeq (sSet 2 (eOp2 (opAdd true true) (eC (.int 1)) (eOp2 (opMod) (eOp2 (opIx true) (eV 1) (eC (.int 0))) (eC (.int 3)))))
    (sSeq (sSet 3 (eLc (eItR (eC (.int 0)) (eOp2 (opMod) (eOp2 (opIx true) (eV 1) (eC (.int 4))) (eC (.int 4)))) tYes' (eCall MLladder (eCons (eCall MLdraws (eCons (eV 0) (eCons (eOp2 (opAdd true true) (eC (.int 1)) (eV 12)) (eCons (eOp2 (opMod) (eOp2 (opIx true) (eV 1) (eOp2 (opAdd true true) (eC (.int 1)) (eV 12))) (eC (.int 5))) (eCons (eC (.int 720)) eNil))))) (eCons (eV 2) eNil))) 12))
    (sSeq (sSet 4 (eOp2 (opMod) (eOp2 (opIx true) (eV 1) (eC (.int 5))) (eOp2 (opIx true) (eFn fLst (eCons (eC (.int 8)) (eCons (eC (.int 7)) (eCons (eC (.int 5)) eNil)))) (eOp2 (opSub) (eV 2) (eC (.int 1))))))
    (sSeq (sSet 5 (eCall MLwords (eCons (eV 2) (eCons (eOp2 (opIx true) (eFn fLst (eCons (eC (.int 7)) (eCons (eC (.int 6)) (eCons (eC (.int 4)) eNil)))) (eOp2 (opSub) (eV 2) (eC (.int 1)))) eNil))))
    (sSeq (sSet 6 (eLc (eIt true (eV 5)) (eB (eOp2 (opRel fun i j => decide (j < i)) (eFn (fLen) (eCons (eLc (eIt true (eV 3)) (eTru (eCall MLon (eCons (eV 14) (eCons (eV 13) eNil)))) (eV 14) 14) eNil)) (eC (.int 0)))) (eV 13) 13))
    (sSeq (sSet 7 (eFn (fLen) (eCons (eLc (eIt true (eV 6)) (eB (eOp2 (opEq) (eFn (fLen) (eCons (eV 13) eNil)) (eV 4))) (eV 13) 13) eNil)))
    (sSeq (sIf (tNot' (eTru (eCall MLsame (eCons (eCall Mcount_on_ladders (eCons (eV 2) (eCons (eFn (fList true) (eCons (eV 3) eNil)) (eCons (eV 4) eNil)))) (eCons (eV 7) eNil)))))
    (sRet (eC (.bl false)))
    sNil)
    (sSeq (sSet 8 (eCall Mfirst_off (eCons (eV 2) (eCons (eFn (fList true) (eCons (eV 3) eNil)) eNil))))
    (sSeq (sSet 9 (eLc (eIt true (eV 5)) (eB (eOp2 (opNotInS) (eV 13) (eV 6))) (eV 13) 13))
    (sSeq (sIf (eB (eOp2 (opRel fun i j => decide (j < i)) (eFn (fLen) (eCons (eV 9) eNil)) (eC (.int 0))))
    (sIf (tNot' (eTru (eCall MLsame (eCons (eV 8) (eCons (eOp2 (opIx true) (eV 9) (eC (.int 0))) eNil)))))
    (sRet (eC (.bl false)))
    sNil)
    (sIf (eB (eOp2 (opIsnt) (eV 8) (eC .non)))
    (sSeq (sIf (tOr' (tNot' (eTru (eIs .str (eV 8)))) (eB (eOp2 (opRel fun i j => decide (i ≤ j)) (eFn (fLen) (eCons (eV 8) eNil)) (eFn (fLen) (eCons (eOp2 (opIx true) (eV 5) (eOp2 (opSub) (eFn (fLen) (eCons (eV 5) eNil)) (eC (.int 1)))) eNil)))))
    (sRet (eC (.bl false)))
    sNil)
    (sIf (eB (eOp2 (opRel fun i j => decide (j < i)) (eFn (fLen) (eCons (eLc (eIt true (eV 3)) (eTru (eCall MLon (eCons (eV 14) (eCons (eV 8) eNil)))) (eV 14) 14) eNil)) (eC (.int 0))))
    (sRet (eC (.bl false)))
    sNil))
    (sIf (eB (eOp2 (opEq) (eFn (fLen) (eCons (eLc (eIt true (eV 3)) (eB (eOp2 (opInS) (eFn fTup (eCons (eC (.str [97, 110, 121])) (eCons (eOp2 (opSub) (eOp2 (opShl) (eC (.int 1)) (eV 2)) (eC (.int 1))) eNil))) (eV 14))) (eV 14) 14) eNil)) (eC (.int 0))))
    (sRet (eC (.bl false)))
    sNil)))
    (sSeq (sSet 10 (eOp2 (opAdd true true) (eC (.int 1)) (eOp2 (opMod) (eOp2 (opDiv) (eOp2 (opIx true) (eV 1) (eC (.int 0))) (eC (.int 3))) (eV 2))))
    (sSeq (sSet 11 (eFn fTup (eCons (eFn fTup (eCons (eC (.str [97, 110, 121])) (eCons (eOp2 (opSub) (eOp2 (opShl) (eC (.int 1)) (eV 10)) (eC (.int 1))) eNil))) eNil)))
    (sRet (eCall MLsame (eCons (eCall Mcount_on_ladders (eCons (eV 2) (eCons (eFn fLst (eCons (eV 11) eNil)) (eCons (eC (.int 40)) eNil)))) (eCons (eCall MLpower (eCons (eV 10) (eCons (eC (.int 40)) eNil))) eNil)))))))))))))))))
def Mlaw : List D → R D := runF 15 Blaw
end
end GW

set_option maxHeartbeats 4000000
namespace GW
open PySem PySem.Spec PyProof.Rows L2 VS
theorem asInts_map' (ns : List Int) : asInts (ns.map D.int) = some ns := by
  induction ns with
  | nil => rfl
  | cons n ns ih => rw [List.map_cons, asInts_cons, ih]; rfl
theorem Lnumber_spec (ns : List Int) (k : Nat) : ∃ v : Int, 0 ≤ v ∧ MLnumber [.lst (ns.map D.int), .int k] = .ok (.int v) := by
  unfold MLnumber BLnumber
  rw [runF_def]
  by_cases h : (k : Int) < ns.length
  · have hk : k < ns.length := by omega
    simp -implicitDefEqProofs [asInts_map', h, List.getElem?_eq_getElem hk]
    split <;> omega
  · simp -implicitDefEqProofs [asInts_map', h]
    split <;> omega
theorem hpow18 : opPow (.int 10) (.int 18) = some (.int 1000000000000000000) := (rfl)
theorem asI_0 : asI (.int 0) = some 0 := (rfl)
theorem Ldraws_a (ns : List Int) (k count : Nat) (many v : Int) (hc : count ≤ 1000000) (h1 : 0 < many) (h2 : many < 1073741824) (hv : 0 ≤ v) (e : MLnumber [.lst (ns.map D.int), .int k] = .ok (.int v)) (h : (1000000000000000000 : Int) ≤ v) : ∃ l : List Int, MLdraws [.lst (ns.map D.int), .int k, .int count, .int many] = .ok (.lst (l.map D.int)) ∧ l.length = count ∧ ∀ x ∈ l, 0 ≤ x ∧ x < many := by
  unfold MLdraws BLdraws
  rw [runF_def]
  have hi : asI (.int (count : Int)) = some (count : Int) := by rw [asI_int, if_pos ⟨by omega, by omega⟩]
  obtain ⟨c', hc', l, x, st, hcl, hll, hlx⟩ := forL_rg 6 (sSeq (sApp 5 (eOp2 (opMod) (eV 4) (eV 3))) (sSet 4 (eOp2 (opDiv) (eV 4) (eV 3)))) count
    (fun j c => ∃ (l : List Int) (x : Option O) (st : Int), c = [some (.v (.lst (ns.map D.int))), some (.v (.int k)), some (.v (.int count)), some (.v (.int many)), some (.v (.int st)), some (.lst (l.map fun i => .v (.int i))), x, none, none] ∧ l.length = j ∧ ∀ x ∈ l, 0 ≤ x ∧ x < many)
    [some (.v (.lst (ns.map D.int))), some (.v (.int k)), some (.v (.int count)), some (.v (.int many)), some (.v (.int (v - 1000000000000000000))), some (.lst []), none, none, none]
    (by
      rintro j c hj ⟨l, x, st, rfl, hl, hx⟩
      have hlt : j < 16777216 := by omega
      refine ⟨_, by simp -implicitDefEqProofs [hlt, hl, h1, h2]; rfl, l ++ [st % many], some (.v (.int j)), st / many, by simp, by simp -implicitDefEqProofs [hl], ?_⟩
      intro y hy
      rcases List.mem_append.mp hy with hy | hy
      · exact hx y hy
      · rw [List.mem_singleton.mp hy]; exact ⟨Int.emod_nonneg _ (by omega), Int.emod_lt_of_pos _ h1⟩)
    ⟨[], none, v - 1000000000000000000, by simp, rfl, by simp⟩
  refine ⟨l, ?_, by rw [hll]; simp, hlx⟩
  simp -implicitDefEqProofs [e, hpow18, h, hi, asI_0]
  rw [hc', hcl]; simp

theorem Ldraws_b (ns : List Int) (k count : Nat) (many v : Int) (hc : count ≤ 1000000) (h1 : 0 < many) (h2 : many < 1073741824) (hv : 0 ≤ v) (e : MLnumber [.lst (ns.map D.int), .int k] = .ok (.int v)) (h : ¬ (1000000000000000000 : Int) ≤ v) : ∃ l : List Int, MLdraws [.lst (ns.map D.int), .int k, .int count, .int many] = .ok (.lst (l.map D.int)) ∧ l.length = count ∧ ∀ x ∈ l, 0 ≤ x ∧ x < many := by
  unfold MLdraws BLdraws
  rw [runF_def]
  have hi : asI (.int (count : Int)) = some (count : Int) := by rw [asI_int, if_pos ⟨by omega, by omega⟩]
  obtain ⟨c', hc', l, x, y, st, hcl, hll, hlx, _⟩ := forL_rg 6 (sSeq (sSet 7 (eOp2 (opMod) (eOp2 (opAdd true true) (eOp2 (opAdd true true) (eOp2 (opMul) (eV 7) (eC (.int 48271))) (eOp2 (opMul) (eC (.int 11)) (eV 6))) (eC (.int 7))) (eC (.int 2147483647))))
  (sSeq (sSet 8 (eOp2 (opMod) (eOp2 (opAdd true true) (eOp2 (opAdd true true) (eOp2 (opMul) (eV 7) (eV 7)) (eOp2 (opMul) (eC (.int 69621)) (eV 6))) (eC (.int 5))) (eC (.int 2147483629))))
  (sApp 5 (eOp2 (opMod) (eOp2 (opDiv) (eV 8) (eC (.int 64))) (eV 3))))) count
    (fun j c => ∃ (l : List Int) (x y : Option O) (st : Int), c = [some (.v (.lst (ns.map D.int))), some (.v (.int k)), some (.v (.int count)), some (.v (.int many)), some (.v (.int v)), some (.lst (l.map fun i => .v (.int i))), x, some (.v (.int st)), y] ∧ l.length = j ∧ (∀ x ∈ l, 0 ≤ x ∧ x < many) ∧ 0 ≤ st ∧ st < 2 ^ 32)
    [some (.v (.lst (ns.map D.int))), some (.v (.int k)), some (.v (.int count)), some (.v (.int many)), some (.v (.int v)), some (.lst []), none, some (.v (.int (v % 2147483647 + 1))), none]
    (by
      rintro j c hj ⟨l, x, y, st, rfl, hl, hx, hs, hs'⟩
      have g1 : 0 ≤ (st * 48271 + 11 * (j : Int) + 7) % 2147483647 := Int.emod_nonneg _ (by omega)
      have g2 : (st * 48271 + 11 * (j : Int) + 7) % 2147483647 < 2147483647 := Int.emod_lt_of_pos _ (by omega)
      have hlt : j < 16777216 := by omega
      have g3 : -18446744073709551616 < (st * 48271 + 11 * (j : Int) + 7) % 2147483647 := by omega
      have g4 : (st * 48271 + 11 * (j : Int) + 7) % 2147483647 < 18446744073709551616 := by omega
      refine ⟨_, by simp -implicitDefEqProofs [hlt, hl, h1, h2, g3, g4]; rfl, l ++ [(((st * 48271 + 11 * (j : Int) + 7) % 2147483647) * ((st * 48271 + 11 * (j : Int) + 7) % 2147483647) + 69621 * (j : Int) + 5) % 2147483629 / 64 % many], some (.v (.int j)), some (.v (.int ((((st * 48271 + 11 * (j : Int) + 7) % 2147483647) * ((st * 48271 + 11 * (j : Int) + 7) % 2147483647) + 69621 * (j : Int) + 5) % 2147483629))), (st * 48271 + 11 * (j : Int) + 7) % 2147483647, by simp, by simp -implicitDefEqProofs [hl], ?_, g1, by omega⟩
      intro y hy
      rcases List.mem_append.mp hy with hy | hy
      · exact hx y hy
      · rw [List.mem_singleton.mp hy]; exact ⟨Int.emod_nonneg _ (by omega), Int.emod_lt_of_pos _ h1⟩)
    ⟨[], none, none, v % 2147483647 + 1, by simp, rfl, by simp, by omega, by omega⟩
  refine ⟨l, ?_, by rw [hll]; simp, hlx⟩
  simp -implicitDefEqProofs [e, hpow18, h, hi, asI_0]
  rw [hc', hcl]; simp

theorem Ldraws_spec (ns : List Int) (k count : Nat) (many : Int) (hc : count ≤ 1000000) (h1 : 0 < many) (h2 : many < 1073741824) : ∃ l : List Int, MLdraws [.lst (ns.map D.int), .int k, .int count, .int many] = .ok (.lst (l.map D.int)) ∧ l.length = count ∧ ∀ x ∈ l, 0 ≤ x ∧ x < many := by
  obtain ⟨v, hv, e⟩ := Lnumber_spec ns k
  by_cases h : (1000000000000000000 : Int) ≤ v
  · exact Ldraws_a ns k count many v hc h1 h2 hv e h
  · exact Ldraws_b ns k count many v hc h1 h2 hv e h
end GW

namespace GW
open PySem PySem.Spec PyProof.Rows L2 VS
theorem Lsame_loop (m : Nat) (ds : List D) (tu : List D → D) (htu : tu = D.lst ∨ tu = D.tup) (h : ∀ d ∈ ds, MLsameN m [d, d] = .ok (.bl true)) :
    ∃ c', forL 2 (sIf (tNot' (eTru (eCall (MLsameN m) (eCons (eOp2 (opIx true) (eV 0) (eV 2)) (eCons (eOp2 (opIx true) (eV 1) (eV 2)) eNil))))) (sRet (eC (.bl false))) sNil) (rangeD 0 ds.length) [some (.v (tu ds)), some (.v (tu ds)), none] = .ok .nx c' := by
  obtain ⟨c', h1, _⟩ := forL_rg 2 (sIf (tNot' (eTru (eCall (MLsameN m) (eCons (eOp2 (opIx true) (eV 0) (eV 2)) (eCons (eOp2 (opIx true) (eV 1) (eV 2)) eNil))))) (sRet (eC (.bl false))) sNil) ds.length
    (fun j c => ∃ x, c = [some (.v (tu ds)), some (.v (tu ds)), x]) [some (.v (tu ds)), some (.v (tu ds)), none]
    (by
      rintro j c hj ⟨x, rfl⟩
      have hj' : j < ds.length := by omega
      have hd : atI ds (j : Int) = some ds[j] := by rw [atI_ofNat, List.getElem?_eq_getElem hj']
      have hm := h _ (List.getElem_mem hj')
      refine ⟨_, ?_, some (.v (.int j)), rfl⟩
      rcases htu with rfl | rfl <;> simp -implicitDefEqProofs [hd, hm]) ⟨none, rfl⟩
  exact ⟨c', h1⟩
theorem Lsame_n {n : Nat} {d : D} (s : Sm n d) : ∀ m, n < m → MLsameN m [d, d] = .ok (.bl true) := by
  induction s with
  | non => rintro (_ | m) h; · omega
           simp -implicitDefEqProofs [MLsameN, BLsame, isI, opEq, D.eqv]
  | bl t => rintro (_ | m) h; · omega
            simp -implicitDefEqProofs [MLsameN, BLsame, isI]
  | int i => rintro (_ | m) h; · omega
             simp -implicitDefEqProofs [MLsameN, BLsame, isI]
  | str l hl =>
    rintro (_ | m) h; · omega
    simp -implicitDefEqProofs [MLsameN, BLsame, isI, opEq_self (d := .str l) (by rw [pln_str]; exact hl)]
  | lst ds hl hk ih =>
    rintro (_ | m) h; · omega
    obtain ⟨c', e⟩ := Lsame_loop m ds D.lst (.inl rfl) fun d hd => ih d hd m (by omega)
    simp -implicitDefEqProofs [MLsameN, BLsame, isI, asI_small (i := (ds.length : Int)) (by omega) hl, asI_zero]
    rw [e]
  | tup ds hl hk ih =>
    rintro (_ | m) h; · omega
    obtain ⟨c', e⟩ := Lsame_loop m ds D.tup (.inr rfl) fun d hd => ih d hd m (by omega)
    simp -implicitDefEqProofs [MLsameN, BLsame, isI, asI_small (i := (ds.length : Int)) (by omega) hl, asI_zero]
    rw [e]
theorem Lsame_ok {d : D} (s : Sm 63 d) : MLsame [d, d] = .ok (.bl true) := Lsame_n s 64 (by omega)
end GW

namespace VS
open PySem PySem.Spec PyProof.Rows L2
theorem compL_mapm {α : Type} (g : Env → R D) (i : Nat) (c : Env) (k : α → D) (f : α → D) : ∀ (l : List α), (∀ x ∈ l, g (c.set i (some (.v (k x)))) = .ok (f x)) → compL tYes' g i c (l.map k) = .ok (l.map f)
  | [], _ => rfl
  | d :: ds, h => by
    rw [List.map_cons, compL_cons, tYes_def]
    simp only [noX_ok, ok_bind, if_true]
    rw [h d List.mem_cons_self, compL_mapm g i c k f ds fun d hd => h d (List.mem_cons_of_mem _ hd)]
    rfl
theorem compL_filterm {α : Type} (t : Env → R Bool) (g : Env → R D) (i : Nat) (c : Env) (k : α → D) (p : α → Bool) (f : α → D) : ∀ (l : List α), (∀ x ∈ l, t (c.set i (some (.v (k x)))) = .ok (p x)) → (∀ x ∈ l, p x = true → g (c.set i (some (.v (k x)))) = .ok (f x)) → compL t g i c (l.map k) = .ok ((l.filter p).map f)
  | [], _, _ => rfl
  | d :: ds, h, q => by
    have ih := compL_filterm t g i c k p f ds (fun d hd => h d (List.mem_cons_of_mem _ hd)) fun d hd => q d (List.mem_cons_of_mem _ hd)
    rw [List.map_cons, compL_cons, h d List.mem_cons_self]
    simp only [noX_ok, ok_bind]
    cases hp : p d with
    | true =>
      rw [if_pos rfl, q d List.mem_cons_self hp, ih, List.filter_cons_of_pos hp]
      rfl
    | false =>
      rw [if_neg (by decide), ih, List.filter_cons_of_neg (by simp [hp])]
/-- a loop whose turns go on, or one of which returns d -/
theorem forL_opt {α β : Type} (i : Nat) (g : Env → Rs) (emb : β → D) (E : α → Env → Prop) (step : α → β → Option α) (d : D) : ∀ (xs : List β) (s : α) (c : Env), E s c →
    (∀ s c, E s c → ∀ x ∈ xs, match step s x with
      | some s' => ∃ c', Nx g (c.set i (some (.v (emb x)))) c' ∧ E s' c'
      | none => Ret g (c.set i (some (.v (emb x)))) d) →
    match xs.foldlM step s with
      | some s' => ∃ c', forL i g (xs.map emb) c = .ok .nx c' ∧ E s' c'
      | none => ∃ c', forL i g (xs.map emb) c = .ok (.rt d) c'
  | [], s, c, e, _ => ⟨c, rfl, e⟩
  | x :: xs, s, c, e, h => by
    have hx := h s c e x List.mem_cons_self
    rw [List.foldlM_cons]
    cases k : step s x with
    | none =>
      rw [k] at hx
      obtain ⟨c', hx⟩ := hx
      show ∃ c', _
      exact ⟨c', by rw [List.map_cons, forL_cons, hx]⟩
    | some s' =>
      rw [k] at hx
      obtain ⟨c', hx, e'⟩ := hx
      have ih := forL_opt i g emb E step d xs s' c' e' fun s c e x m => h s c e x (List.mem_cons_of_mem _ m)
      show match xs.foldlM step s' with
        | some s' => ∃ c', forL i g ((x :: xs).map emb) c = .ok .nx c' ∧ E s' c'
        | none => ∃ c', forL i g ((x :: xs).map emb) c = .ok (.rt d) c'
      rw [List.map_cons, forL_cons, show g (c.set i (some (.v (emb x)))) = .ok .nx c' from hx]
      exact ih
theorem Ret.for {i : Nat} {gs : Env → R (List D)} {g : Env → Rs} {c : Env} {ds : List D} {d : D} (h : gs c = .ok ds) (k : ∃ c', forL i g ds c = .ok (.rt d) c') : Ret (sFor i gs g) c d := by
  obtain ⟨c', k⟩ := k
  exact ⟨c', by rw [sFor_def, h]; exact k⟩
end VS
namespace GW
open PySem PySem.Spec PyProof.Rows L2 VS
abbrev ni (x : Nat) : D := .int (x : Int)
abbrev oD (d : D) : Option O := some (.v d)
def Wd' (lt : Nat) (w : List Nat) : Prop := ∀ c ∈ w, 97 ≤ c ∧ c < 97 + lt
theorem idx_let {k : Nat} (hk : k < 3) : fSIndex [97, 98, 99] [.str [97 + k]] = some (.int (k : Int)) := by
  have : k = 0 ∨ k = 1 ∨ k = 2 := by omega
  have o : Builtin.Str.occurrences (S [97, 98, 99]) (S [97]) 0 3 1 = [0] ∧ Builtin.Str.occurrences (S [97, 98, 99]) (S [98]) 0 3 1 = [1] ∧ Builtin.Str.occurrences (S [97, 98, 99]) (S [99]) 0 3 1 = [2] := by decide +kernel
  rcases this with rfl | rfl | rfl <;> simp [fSIndex, o]
theorem abc_at {k : Nat} (hk : k < 3) : opIx true (.str [97, 98, 99]) (.int (k : Int)) = some (.str [97 + k]) := by
  have : k = 0 ∨ k = 1 ∨ k = 2 := by omega
  rcases this with rfl | rfl | rfl <;> rfl
theorem joinL_one (l : List Nat) : TL.joinL [] (l.map fun x => [x]) = l := by
  induction l with
  | nil => rfl
  | cons a l ih =>
    cases l with
    | nil => rfl
    | cons b l =>
      rw [List.map_cons, List.map_cons, TL.joinL]
      simpa using ih
/-! ladders -/
abbrev Stp := Bool × Nat
def kw (m : Bool) : D := .str (if m then [109, 97, 121, 98, 101] else [97, 110, 121])
def stD (s : Stp) : D := .tup [kw s.1, .int s.2]
def lad (l : List Stp) : D := .tup (l.map stD)
def Sok (s : Stp) : Prop := (s.1 = true → s.2 < 3) ∧ (s.1 = false → 1 ≤ s.2 ∧ s.2 < 8)
def tk (s : Stp) (i : Nat) : Bool := if s.1 then s.2 == i else s.2.testBit i
def win (s o : Stp) : Bool := if s.1 then tk o s.2 else !o.1 && (s.2 &&& o.2 == s.2)
theorem bit_nat (a b : Nat) : Builtin.bitAnd (a : Int) (b : Int) = ((a &&& b : Nat) : Int) := by
  rfl
theorem stD0 (s : Stp) : opIx true (stD s) (.int 0) = some (kw s.1) := (rfl)
theorem stD1 (s : Stp) : opIx true (stD s) (.int 1) = some (.int s.2) := (rfl)
theorem eq_maybe (m : Bool) : opEq (kw m) (.str [109, 97, 121, 98, 101]) = some (.bl m) := by
  cases m <;> simp [opEq, kw]
theorem eq_any (m : Bool) : opEq (kw m) (.str [97, 110, 121]) = some (.bl (!m)) := by
  cases m <;> simp [opEq, kw]
def sh (v i : Nat) : Int := ((v >>> i : Nat) : Int)
def sb (v i : Nat) : Int := ((v >>> i &&& 1 : Nat) : Int)
theorem shr_spec (v i : Nat) : opShr (.int v) (.int i) = some (.int (sh v i)) := by
  unfold opShr sh
  simp [Nat.shiftRight_eq_div_pow]
theorem sb_spec (v i : Nat) : opBit Builtin.bitAnd (.int (sh v i)) (.int 1) = some (.int (sb v i)) := by
  unfold opBit sh sb
  exact congrArg (fun x => some (D.int x)) (bit_nat (v >>> i) 1)
theorem bit1 (v i : Nat) : ((v >>> i &&& 1 : Nat) == 1) = v.testBit i := by
  rw [Nat.testBit]
  rw [Nat.and_comm]
  have : (1 &&& v >>> i) = 0 ∨ (1 &&& v >>> i) = 1 := by
    have : 1 &&& v >>> i ≤ 1 := Nat.and_le_left
    omega
  rcases this with h | h <;> simp [h]
theorem tk_any (v i : Nat) : opEq (.int (sb v i)) (.int 1) = some (.bl (v.testBit i)) := by
  rw [opEq_int, ← bit1]
  unfold sb
  congr 2
  rw [Bool.eq_iff_iff, beq_iff_eq, beq_iff_eq]
  omega
theorem nat_eq (a b : Nat) : opEq (.int (a : Int)) (.int (b : Int)) = some (.bl (a == b)) := by
  rw [opEq_int]
  congr 2
  rw [Bool.eq_iff_iff, beq_iff_eq, beq_iff_eq]
  omega
theorem takes_spec (s : Stp) (i : Nat) : Mtakes [stD s, .int i] = .ok (.bl (tk s i)) ∧ MLtakes [stD s, .int i] = .ok (.bl (tk s i)) := by
  have e : Mtakes = MLtakes := rfl
  rw [e, and_self]
  obtain ⟨m, v⟩ := s
  unfold MLtakes BLtakes
  cases m with
  | true =>
    refine ret_of (.fst (.yes ?_ (.ret ?_)))
    · simp -implicitDefEqProofs [-opIx_tup, stD0, eq_maybe]
    · simp -implicitDefEqProofs [-opIx_tup, -opEq_int, stD1, tk, nat_eq]
  | false =>
    refine ret_of (.seq (.no ?_ .nil) (.ret ?_))
    · simp -implicitDefEqProofs [-opIx_tup, stD0, eq_maybe]
    · simp -implicitDefEqProofs [-opIx_tup, -opEq_int, stD1, tk, shr_spec, sb_spec, tk_any]
def ab (a b : Nat) : Int := ((a &&& b : Nat) : Int)
theorem ab_spec (a b : Nat) : opBit Builtin.bitAnd (.int (a : Int)) (.int (b : Int)) = some (.int (ab a b)) := by
  unfold opBit ab
  exact congrArg (fun x => some (D.int x)) (bit_nat a b)
theorem ab_eq (a b : Nat) : opEq (.int (ab a b)) (.int (a : Int)) = some (.bl (a &&& b == a)) := nat_eq _ _
end GW

namespace GW
open PySem PySem.Spec PyProof.Rows L2 VS
theorem ladIx {l : List Stp} {j : Nat} (h : j < l.length) : opIx true (lad l) (.int (j : Int)) = some (stD l[j]) := by
  unfold lad
  rw [opIx_tup, atI_ofNat, List.getElem?_map, List.getElem?_eq_getElem h]; rfl
theorem ladLen (l : List Stp) : fLen [lad l] = some (.int (l.length : Nat)) := by
  unfold lad; rw [fLen_tup, List.length_map]
def First (p : Stp → Bool) (l : List Stp) (a b : Nat) : Prop := a ≤ b ∧ b ≤ l.length ∧ (∀ j (h : j < l.length), a ≤ j → j < b → p l[j] = false) ∧ (∀ h : b < l.length, p l[b] = true)
def nx (p : Stp → Bool) (l : List Stp) (a : Nat) : Nat := a + (l.drop a).findIdx p
theorem First_nx (p : Stp → Bool) (l : List Stp) {a : Nat} (h : a ≤ l.length) : First p l a (nx p l a) := by
  have hl : (l.drop a).findIdx p ≤ (l.drop a).length := List.findIdx_le_length
  rw [List.length_drop] at hl
  refine ⟨by unfold nx; omega, by unfold nx; omega, ?_, ?_⟩
  · intro j hj h1 h2
    have hk : j - a < (l.drop a).findIdx p := by unfold nx at h2; omega
    have := List.not_of_lt_findIdx hk
    rw [List.getElem_drop] at this
    have e : a + (j - a) = j := by omega
    simpa [e] using this
  · intro hb
    have hlt : (l.drop a).findIdx p < (l.drop a).length := by rw [List.length_drop]; unfold nx at hb; omega
    have := List.findIdx_getElem (w := hlt)
    rw [List.getElem_drop] at this
    exact this
theorem First.eq {p : Stp → Bool} {l : List Stp} {a b b' : Nat} (h : First p l a b) (h' : First p l a b') : b = b' := by
  obtain ⟨h1, h2, h3, h4⟩ := h
  obtain ⟨k1, k2, k3, k4⟩ := h'
  rcases Nat.lt_trichotomy b b' with g | g | g
  · have := k3 b (by omega) h1 g
    rw [h4 (by omega)] at this; cases this
  · exact g
  · have := h3 b' (by omega) k1 g
    rw [k4 (by omega)] at this; cases this
def mb (l : List Stp) (j : Nat) : Bool := match l[j]? with | some s => s.1 | none => false
def gs (p : Stp → Bool) (l : List Stp) (a : Nat) : Option Nat := if nx p l a < l.length then some (nx p l a + if mb l (nx p l a) then 1 else 0) else none
def onS (l : List Stp) (a c : Nat) : Option Nat := gs (fun s => tk s (c - 97)) l a
def onB (l : List Stp) (w : List Nat) : Bool := (w.foldlM (onS l) 0).isSome
def wiS (s : List Stp) (a : Nat) (st : Stp) : Option Nat := gs (win st) s a
def wiB (f s : List Stp) : Bool := (f.foldlM (wiS s) 0).isSome
/-- a while loop that seeks the first place -/
theorem seek (p : Stp → Bool) (l : List Stp) (t : VS.Env → R Bool) (g : VS.Env → Rs) (E : Nat → VS.Env)
    (ht : ∀ a, a < l.length → ∀ h : a < l.length, t (E a) = .ok (!p l[a])) (ht2 : t (E l.length) = .ok false) (hg : ∀ a, a < l.length → g (E a) = .ok .nx (E (a + 1))) (hl : l.length ≤ 1000) {a : Nat} (ha : a ≤ l.length) :
    whileL t g wN (E a) = .ok .nx (E (nx p l a)) := by
  obtain ⟨c', e, h⟩ := whileL_ex t g (fun m c => ∃ b, c = E b ∧ b + m = l.length ∧ a ≤ b ∧ ∀ j (h : j < l.length), a ≤ j → j < b → p l[j] = false) (fun c => c = E (nx p l a)) (by
    rintro m c ⟨b, rfl, hm, hab, hj⟩
    by_cases hb : b < l.length
    · cases hp : p l[b] with
      | true =>
        refine .inl ⟨by rw [ht b hb hb, hp]; rfl, ?_⟩
        have : First p l a b := ⟨hab, by omega, hj, fun _ => hp⟩
        rw [this.eq (First_nx p l ha)]
      | false =>
        refine .inr ⟨by rw [ht b hb hb, hp]; rfl, m - 1, _, by omega, hg b hb, b + 1, rfl, by omega, by omega, ?_⟩
        intro j h h1 h2
        by_cases e : j = b
        · subst e; exact hp
        · exact hj j h h1 (by omega)
    · have hbl : b = l.length := by omega
      refine .inl ⟨by rw [hbl]; exact ht2, ?_⟩
      have : First p l a b := ⟨hab, by omega, hj, fun h => absurd h hb⟩
      rw [this.eq (First_nx p l ha)]) wN (l.length - a) (E a) (by unfold wN; omega) ⟨a, rfl, by omega, by omega, fun j _ h1 h2 => absurd h2 (by omega)⟩
  rw [e, h]
theorem mb_eq {l : List Stp} {j : Nat} (h : j < l.length) : mb l j = l[j].1 := by
  unfold mb; rw [List.getElem?_eq_getElem h]
end GW

namespace GW
open PySem PySem.Spec PyProof.Rows L2 VS
/-! the law's own walk over sets of places -/
theorem nodup_len : ∀ (m : Nat) (l : List Nat), l.Nodup → (∀ x ∈ l, x < m) → l.length ≤ m
  | 0, l, _, h => by
    cases l with
    | nil => simp
    | cons a l => exact absurd (h a List.mem_cons_self) (by omega)
  | m + 1, l, hn, h => by
    have h1 : (l.erase m).length ≤ m := nodup_len m (l.erase m) (hn.erase m) (by
      intro x hx
      have := (hn.mem_erase_iff).mp hx
      have := h x this.2
      omega)
    have := List.length_erase (a := m) (l := l)
    split at this <;> omega
/-- the places that may follow -/
def hop (l : List Stp) (k : Nat) (a x : Nat) : Prop := ∃ j, a ≤ j ∧ ∃ h : j < l.length, tk l[j] k = true ∧ x = j + if l[j].1 then 1 else 0
abbrev bodyN : VS.Env → Rs := (sIf (eTru (eCall MLtakes (eCons (eOp2 (opIx true) (eV 0) (eV 6)) (eCons (eMS fSIndex (eC (.str [97, 98, 99])) (eCons (eV 3) eNil)) eNil))))
    (sSeq (sSet 7 (eOp2 (opAdd true true) (eV 6) (eFn (fInt) (eCons (eOp2 (opEq) (eOp2 (opIx true) (eOp2 (opIx true) (eV 0) (eV 6)) (eC (.int 0))) (eC (.str [109, 97, 121, 98, 101]))) eNil))))
    (sIf (eB (eOp2 (opNotInS) (eV 7) (eL 4)))
    (sApp 4 (eV 7))
    sNil))
    sNil)
abbrev oN (f : List Nat) : Option O := some (.lst (f.map fun x => .v (ni x)))
theorem notin_spec (x : Nat) (f : List Nat) : opNotInS (ni x) (.lst (f.map ni)) = some (.bl (!f.contains x)) := by
  have e : ((f.map ni).any fun z => D.eqv z (ni x)) = f.contains x := by
    rw [List.any_map]
    induction f with
    | nil => rfl
    | cons a f ih =>
      rw [List.any_cons, ih, List.contains_cons]
      simp only [Function.comp_def, eqv_int]
      congr 1
      rw [Bool.eq_iff_iff, beq_iff_eq, beq_iff_eq]
      omega
  unfold opNotInS
  rw [inS, if_pos (by rw [pln_int, pln_lst, plns_all]; simp), ← e]
  rfl
/-- one place looked at -/
theorem turnN {l : List Stp} (hl : l.length ≤ 1000) (w e5 : D) {k : Nat} (hk : k < 3) {j : Nat} (hj : j < l.length) {f : List Nat} (hn : f.Nodup) (hf : ∀ x ∈ f, x ≤ l.length) (e2 x7 : Option O) :
    ∃ f' x7', Nx bodyN [oD (lad l), oD w, e2, oD (.str [97 + k]), oN f, oD e5, oD (ni j), x7] [oD (lad l), oD w, e2, oD (.str [97 + k]), oN f', oD e5, oD (ni j), x7'] ∧ f'.Nodup ∧ (∀ x ∈ f', x ≤ l.length) ∧
      ∀ x, x ∈ f' ↔ x ∈ f ∨ (tk l[j] k = true ∧ x = j + if l[j].1 then 1 else 0) := by
  have ts := (takes_spec l[j] k).2
  cases ht : tk l[j] k with
  | false =>
    rw [ht] at ts
    exact ⟨f, x7, .no (by simp -implicitDefEqProofs [-opIx_tup, ladIx hj, idx_let hk, ts]) .nil, hn, hf, fun x => by simp⟩
  | true =>
    rw [ht] at ts
    have t1 : eTru (eCall MLtakes (eCons (eOp2 (opIx true) (eV 0) (eV 6)) (eCons (eMS fSIndex (eC (.str [97, 98, 99])) (eCons (eV 3) eNil)) eNil))) [oD (lad l), oD w, e2, oD (.str [97 + k]), oN f, oD e5, oD (ni j), x7] = .ok true := by
      simp -implicitDefEqProofs [-opIx_tup, ladIx hj, idx_let hk, ts]
    obtain ⟨b, hb⟩ : ∃ b : Nat, b = j + if l[j].1 then 1 else 0 := ⟨_, rfl⟩
    have hbl : b ≤ l.length := by rw [hb]; split <;> omega
    have s7 : Nx (sSet 7 (eOp2 (opAdd true true) (eV 6) (eFn (fInt) (eCons (eOp2 (opEq) (eOp2 (opIx true) (eOp2 (opIx true) (eV 0) (eV 6)) (eC (.int 0))) (eC (.str [109, 97, 121, 98, 101]))) eNil)))) [oD (lad l), oD w, e2, oD (.str [97 + k]), oN f, oD e5, oD (ni j), x7] [oD (lad l), oD w, e2, oD (.str [97 + k]), oN f, oD e5, oD (ni j), oD (ni b)] := by
      refine (Nx.set (d := ni b) ?_).to rfl
      rw [hb]
      cases hm : l[j].1 <;> simp -implicitDefEqProofs [-opIx_tup, ladIx hj, stD0, eq_maybe, hm]
    have ni := notin_spec b f
    have fl : f.length ≤ l.length + 1 := nodup_len (l.length + 1) f hn fun x hx => by have := hf x hx; omega
    rw [← hb]
    cases hc : f.contains b with
    | true =>
      rw [hc] at ni
      refine ⟨f, _, .yes t1 (.seq s7 (.no ?_ .nil)), hn, hf, fun x => ?_⟩
      · simp -implicitDefEqProofs [Function.comp_def, ni]
      · have : b ∈ f := by simpa using hc
        constructor
        · exact .inl
        · rintro (h | ⟨_, rfl⟩)
          · exact h
          · exact this
    | false =>
      rw [hc] at ni
      have nb : b ∉ f := by simpa using hc
      refine ⟨f ++ [b], oD (GW.ni b), .yes t1 (.seq s7 (.yes ?_ ?_)), ?_, ?_, fun x => ?_⟩
      · simp -implicitDefEqProofs [Function.comp_def, ni]
      · unfold Nx
        simp -implicitDefEqProofs [show f.length < 16777216 by omega]
      · rw [List.nodup_append]
        exact ⟨hn, by simp, by intro a ha b' hb' e; simp at hb'; subst hb'; subst e; exact nb ha⟩
      · intro x hx
        rcases List.mem_append.mp hx with hx | hx
        · exact hf x hx
        · rw [List.mem_singleton.mp hx]; exact hbl
      · simp
/-- a range from a to the end of the ladder -/
theorem rangeN {l : List Stp} (hl : l.length ≤ 1000) (w : D) {k : Nat} (hk : k < 3) {a : Nat} (ha : a ≤ l.length) {f : List Nat} (hn : f.Nodup) (hf : ∀ x ∈ f, x ≤ l.length) (e2 x6 x7 : Option O) :
    ∃ f' x6' x7', Nx (sFor 6 (eItR (eV 5) (eFn (fLen) (eCons (eV 0) eNil))) bodyN) [oD (lad l), oD w, e2, oD (.str [97 + k]), oN f, oD (ni a), x6, x7] [oD (lad l), oD w, e2, oD (.str [97 + k]), oN f', oD (ni a), x6', x7'] ∧ f'.Nodup ∧ (∀ x ∈ f', x ≤ l.length) ∧
      ∀ x, x ∈ f' ↔ x ∈ f ∨ hop l k a x := by
  have er : rangeD a l.length = (List.range (l.length - a)).map fun i => ni (a + i) := by
    unfold rangeD
    rw [show ((l.length : Int) - a).toNat = l.length - a by omega]
    congr 1
  obtain ⟨c', e, f', x6', x7', rfl, h1, h2, h3⟩ := forL_ex 6 bodyN (fun m c => ∃ f' x6' x7', c = [oD (lad l), oD w, e2, oD (.str [97 + k]), oN f', oD (ni a), x6', x7'] ∧ f'.Nodup ∧ (∀ x ∈ f', x ≤ l.length) ∧
      ∀ x, x ∈ f' ↔ x ∈ f ∨ ∃ j, a ≤ j ∧ j < a + m ∧ ∃ h : j < l.length, tk l[j] k = true ∧ x = j + if l[j].1 then 1 else 0)
    ((List.range (l.length - a)).map fun i => ni (a + i)) [oD (lad l), oD w, e2, oD (.str [97 + k]), oN f, oD (ni a), x6, x7] (by
      rintro m d c hd ⟨f1, y6, y7, rfl, h1, h2, h3⟩
      rw [List.getElem?_map] at hd
      obtain ⟨i, hi, rfl⟩ := Option.map_eq_some_iff.mp hd
      obtain ⟨hm, rfl⟩ := List.getElem?_eq_some_iff.mp hi
      rw [List.length_range] at hm
      rw [List.getElem_range]
      obtain ⟨f2, z7, E, g1, g2, g3⟩ := turnN hl w (ni a) hk (j := a + m) (by omega) h1 h2 e2 y7
      refine ⟨_, E, f2, _, _, rfl, g1, g2, fun x => ?_⟩
      rw [g3, h3]
      constructor
      · rintro ((h | ⟨j, h1, h2, h3⟩) | h)
        · exact .inl h
        · exact .inr ⟨j, h1, by omega, h3⟩
        · exact .inr ⟨a + m, by omega, by omega, by omega, h⟩
      · rintro (h | ⟨j, h1, h2, h3, h4⟩)
        · exact .inl (.inl h)
        · by_cases hj : j = a + m
          · subst hj; exact .inr h4
          · exact .inl (.inr ⟨j, h1, by omega, h3, h4⟩))
    ⟨f, x6, x7, rfl, hn, hf, fun x => ⟨.inl, fun h => h.elim id fun ⟨j, h1, h2, _⟩ => absurd h2 (by omega)⟩⟩
  refine ⟨f', x6', x7', .for ?_ e, h1, h2, fun x => ?_⟩
  · rw [← er]
    simp -implicitDefEqProofs [ladLen, asI_small (i := (a : Int)) (by omega) (by omega), asI_small (i := (l.length : Int)) (by omega) (by omega)]
  · rw [h3]
    constructor
    · rintro (h | ⟨j, h1, h2, h3, h4⟩)
      · exact .inl h
      · exact .inr ⟨j, h1, h3, h4⟩
    · rintro (h | ⟨j, h1, h3, h4⟩)
      · exact .inl h
      · exact .inr ⟨j, h1, by simp; omega, h3, h4⟩
/-- all the places of a letter -/
theorem endsN {l : List Stp} (hl : l.length ≤ 1000) (w : D) {k : Nat} (hk : k < 3) (ends : List Nat) (he : ∀ x ∈ ends, x ≤ l.length) (x5 x6 x7 : Option O) :
    ∃ f' x5' x6' x7', Nx (sFor 5 (eIt true (eV 2)) (sFor 6 (eItR (eV 5) (eFn (fLen) (eCons (eV 0) eNil))) bodyN)) [oD (lad l), oD w, oD (.lst (ends.map ni)), oD (.str [97 + k]), oN [], x5, x6, x7] [oD (lad l), oD w, oD (.lst (ends.map ni)), oD (.str [97 + k]), oN f', x5', x6', x7'] ∧ f'.Nodup ∧ (∀ x ∈ f', x ≤ l.length) ∧
      ∀ x, x ∈ f' ↔ ∃ a ∈ ends, hop l k a x := by
  obtain ⟨c', e, f', x5', x6', x7', rfl, h1, h2, h3⟩ := forL_ex 5 (sFor 6 (eItR (eV 5) (eFn (fLen) (eCons (eV 0) eNil))) bodyN) (fun m c => ∃ f' x5' x6' x7', c = [oD (lad l), oD w, oD (.lst (ends.map ni)), oD (.str [97 + k]), oN f', x5', x6', x7'] ∧ f'.Nodup ∧ (∀ x ∈ f', x ≤ l.length) ∧
      ∀ x, x ∈ f' ↔ ∃ a ∈ ends.take m, hop l k a x)
    (ends.map ni) [oD (lad l), oD w, oD (.lst (ends.map ni)), oD (.str [97 + k]), oN [], x5, x6, x7] (by
      rintro m d c hd ⟨f1, y5, y6, y7, rfl, h1, h2, h3⟩
      rw [List.getElem?_map] at hd
      obtain ⟨a, ha, rfl⟩ := Option.map_eq_some_iff.mp hd
      obtain ⟨hm, rfl⟩ := List.getElem?_eq_some_iff.mp ha
      obtain ⟨f2, z6, z7, E, g1, g2, g3⟩ := rangeN hl w hk (he _ (List.getElem_mem hm)) h1 h2 (oD (.lst (ends.map ni))) y6 y7
      refine ⟨_, E, f2, _, _, _, rfl, g1, g2, fun x => ?_⟩
      rw [g3, h3, List.take_succ_eq_append_getElem hm]
      constructor
      · rintro (⟨b, hb, h⟩ | h)
        · exact ⟨b, List.mem_append_left _ hb, h⟩
        · exact ⟨_, List.mem_append_right _ (List.mem_singleton.mpr rfl), h⟩
      · rintro ⟨b, hb, h⟩
        rcases List.mem_append.mp hb with hb | hb
        · exact .inl ⟨b, hb, h⟩
        · rw [List.mem_singleton.mp hb] at h; exact .inr h)
    ⟨[], x5, x6, x7, rfl, List.nodup_nil, by simp, by simp⟩
  rw [List.length_map, List.take_length] at h3
  exact ⟨f', x5', x6', x7', .for (by simp -implicitDefEqProofs) e, h1, h2, h3⟩
/-- what the set of places and the greedy place are to each other -/
def Rel (l : List Stp) (ends : List Nat) : Option Nat → Prop
  | none => ends = []
  | some a => a ∈ ends ∧ ∀ x ∈ ends, a ≤ x
theorem rel_step {l : List Stp} {ends f : List Nat} {k : Nat} {o : Option Nat} (h : Rel l ends o) (he : ∀ x ∈ ends, x ≤ l.length) (hf : ∀ x, x ∈ f ↔ ∃ a ∈ ends, hop l k a x) : Rel l f (o.bind fun a => onS l a (97 + k)) := by
  cases o with
  | none =>
    have : ends = [] := h
    subst this
    show f = []
    refine List.eq_nil_iff_forall_not_mem.mpr fun x hx => ?_
    obtain ⟨a, ha, _⟩ := (hf x).mp hx
    exact nomatch ha
  | some a =>
    obtain ⟨h1, h2⟩ := h
    show Rel l f (onS l a (97 + k))
    have F := First_nx (fun s => tk s k) l (he a h1)
    unfold onS gs
    rw [Nat.add_sub_cancel_left]
    generalize nx (fun s => tk s k) l a = b at F ⊢
    obtain ⟨f1, f2, f3, f4⟩ := F
    by_cases hb : b < l.length
    · rw [if_pos hb, mb_eq hb]
      refine ⟨(hf _).mpr ⟨a, h1, b, f1, hb, f4 hb, rfl⟩, fun x hx => ?_⟩
      obtain ⟨a', ha', j, g1, g2, g3, rfl⟩ := (hf x).mp hx
      have := h2 a' ha'
      have hjb : ¬ j < b := fun hlt => by have := f3 j g2 (by omega) hlt; simp only [g3] at this; cases this
      by_cases e : j = b
      · subst e; omega
      · split <;> split <;> omega
    · rw [if_neg hb]
      refine List.eq_nil_iff_forall_not_mem.mpr fun x hx => ?_
      obtain ⟨a', ha', j, g1, g2, g3, rfl⟩ := (hf x).mp hx
      have := h2 a' ha'
      have := f3 j g2 (by omega) (by omega)
      simp only [g3] at this
      cases this
theorem Lon_spec (l : List Stp) (w : List Nat) (hl : l.length ≤ 1000) (hw : Wd' 3 w) (hwl : w.length ≤ 1000000) : MLon [lad l, .str w] = .ok (.bl (onB l w)) := by
  obtain ⟨c', e, ends, x4, x3, x5, x6, x7, rfl, h1, h2⟩ := forL_ex 3 (sSeq (sSetO 4 (eFnO fLstO eNil))
    (sSeq (sFor 5 (eIt true (eV 2)) (sFor 6 (eItR (eV 5) (eFn (fLen) (eCons (eV 0) eNil))) bodyN)) (sFz 4 (sSet 2 (eV 4)))))
    (fun m c => ∃ ends x4 x3 x5 x6 x7, c = [oD (lad l), oD (.str w), oD (.lst (ends.map ni)), x3, x4, x5, x6, x7] ∧ (∀ x ∈ ends, x ≤ l.length) ∧ Rel l ends ((w.take m).foldlM (onS l) 0)) (w.map fun x => .str [x])
    [oD (lad l), oD (.str w), oD (.lst [ni 0]), none, none, none, none, none] (by
      rintro m d c hd ⟨ends, x4, x3, x5, x6, x7, rfl, h1, h2⟩
      rw [List.getElem?_map] at hd
      obtain ⟨a, ha, rfl⟩ := Option.map_eq_some_iff.mp hd
      obtain ⟨hm, rfl⟩ := List.getElem?_eq_some_iff.mp ha
      obtain ⟨k1, k2⟩ := hw _ (List.getElem_mem hm)
      obtain ⟨k, hk⟩ : ∃ k, w[m] = 97 + k := ⟨w[m] - 97, by omega⟩
      obtain ⟨f, y5, y6, y7, E, g1, g2, g3⟩ := endsN hl (.str w) (k := k) (by omega) ends h1 x5 x6 x7
      rw [List.take_succ_eq_append_getElem hm, List.foldlM_append, hk]
      refine ⟨_, Nx.seq (.setO (d := .lst []) (by simp -implicitDefEqProofs)) (.seq E (.fz ((Nx.set (d := .lst (f.map ni)) ?_).to rfl))), f, _, _, _, _, _, rfl, g2, ?_⟩
      · simp -implicitDefEqProofs [Function.comp_def]
      · have := rel_step h2 h1 g3
        cases hq : (w.take m).foldlM (onS l) 0 with
        | none => rw [hq] at this; exact this
        | some q =>
          rw [hq] at this
          show Rel l f ([97 + k].foldlM (onS l) q)
          rw [List.foldlM_cons]
          have e2 : (Option.some q).bind (fun a => onS l a (97 + k)) = onS l q (97 + k) := rfl
          rw [e2] at this
          cases hz : onS l q (97 + k) with
          | none => rw [hz] at this; exact this
          | some z => rw [hz] at this; exact this)
    ⟨[0], none, none, none, none, none, rfl, by simp, by simp [Rel]⟩
  rw [List.length_map, List.take_length] at h2
  unfold MLon BLon onB
  refine ret_of (.seq (.set (d := .lst [ni 0]) (by simp -implicitDefEqProofs)) (.seq (.for (ds := w.map fun x => .str [x]) ?_ e) (.ret ?_)))
  · simp -implicitDefEqProofs [show w.length ≤ 16777216 by omega]
  · cases hq : w.foldlM (onS l) 0 with
    | none =>
      rw [hq] at h2
      have : ends = [] := h2
      subst this
      simp -implicitDefEqProofs
    | some q =>
      rw [hq] at h2
      have : 0 < ends.length := List.length_pos_of_mem h2.1
      simp -implicitDefEqProofs [this]
end GW

namespace VS
open PySem PySem.Spec PyProof.Rows L2
theorem forL_ix {β : Type} (i : Nat) (g : Env → Rs) (emb : β → D) (P : Nat → Env → Prop) (R : D → Prop) : ∀ (xs : List β) (n : Nat) (c : Env), P n c →
    (∀ j c x, xs[j]? = some x → P (n + j) c → (∃ c', Nx g (c.set i (some (.v (emb x)))) c' ∧ P (n + j + 1) c') ∨ ∃ d, R d ∧ Ret g (c.set i (some (.v (emb x)))) d) →
    (∃ c', forL i g (xs.map emb) c = .ok .nx c' ∧ P (n + xs.length) c') ∨ ∃ d c', R d ∧ forL i g (xs.map emb) c = .ok (.rt d) c'
  | [], n, c, e, _ => .inl ⟨c, rfl, e⟩
  | x :: xs, n, c, e, h => by
    rcases h 0 c x rfl e with ⟨c', h1, e'⟩ | ⟨d, hp, c', h1⟩
    · have h1 : g (c.set i (some (.v (emb x)))) = .ok .nx c' := h1
      rcases forL_ix i g emb P R xs (n + 1) c' e' (fun j c y hy hP => by
        have := h (j + 1) c y (by simpa using hy) (by rw [show n + (j + 1) = n + 1 + j by omega]; exact hP)
        rw [show n + (j + 1) = n + 1 + j by omega] at this
        exact this) with ⟨c2, b, e2⟩ | ⟨d, c2, hd, b⟩
      · exact .inl ⟨c2, by rw [List.map_cons, forL_cons, h1]; exact b, by rw [List.length_cons, show n + (xs.length + 1) = n + 1 + xs.length by omega]; exact e2⟩
      · exact .inr ⟨d, c2, hd, by rw [List.map_cons, forL_cons, h1]; exact b⟩
    · exact .inr ⟨d, c', hp, by rw [List.map_cons, forL_cons, h1]⟩
theorem whileL_or (t : Env → R Bool) (g : Env → Rs) (P : Nat → Env → Prop) (Q : Env → Prop) (R : D → Prop) (h : ∀ m c, P m c → (t c = .ok false ∧ Q c) ∨ (t c = .ok true ∧ ∃ m' c', m' < m ∧ Nx g c c' ∧ P m' c') ∨ (t c = .ok true ∧ ∃ d, R d ∧ Ret g c d)) : ∀ (f m : Nat) (c : Env), m < f → P m c →
    (∃ c', whileL t g f c = .ok .nx c' ∧ Q c') ∨ ∃ d c', R d ∧ whileL t g f c = .ok (.rt d) c' := by
  intro f
  induction f with
  | zero => intro m c hm; omega
  | succ f ih =>
    intro m c hm p
    rcases h m c p with ⟨ht, q⟩ | ⟨ht, m', c', hlt, hg, p'⟩ | ⟨ht, d, hd, c', hg⟩
    · refine .inl ⟨c, ?_, q⟩
      rw [whileL, ht]; rfl
    · have hg : g c = .ok .nx c' := hg
      rcases ih m' c' (by omega) p' with ⟨c2, a, b⟩ | ⟨d, c2, a, b⟩
      · refine .inl ⟨c2, ?_, b⟩
        rw [whileL, ht, st_ok, if_pos rfl, hg]; exact a
      · refine .inr ⟨d, c2, a, ?_⟩
        rw [whileL, ht, st_ok, if_pos rfl, hg]; exact b
    · refine .inr ⟨d, c', hd, ?_⟩
      rw [whileL, ht, st_ok, if_pos rfl, hg]
theorem sNSet_def (i : Nat) (gi g : Env → R D) (c : Env) : sNSet i gi g c = (g c).st c fun d => (lift (atN i c)).st c fun q => (gi c).st c fun k => (lift (D.nk k)).st c fun kk => (lift (nPut q.1 q.2 k kk d)).st c fun o => .ok .nx (c.set i (some o)) := (rfl)
theorem eNIx_def (i : Nat) (gk : Env → R D) (c : Env) : eNIx i gk c = match atNk i c with
  | some q => gk c >>= fun k => lift (D.nk k) >>= fun kk => lift ((nGet q.1 q.2 kk).bind fun o => match o with | .v d => some d | _ => none)
  | none => .stuck := (rfl)
theorem eNIn_def (neg : Bool) (i : Nat) (gk : Env → R D) (c : Env) : eNIn neg i gk c = match atNk i c with
  | some q => gk c >>= fun k => lift (D.nk k) >>= fun kk => .ok (.bl (cond neg (!nHas q.1 kk) (nHas q.1 kk)))
  | none => .stuck := (rfl)
theorem eN1_def (gk gv : Env → R D) (c : Env) : eN1 gk gv c = gk c >>= fun k => gv c >>= fun d => lift (D.nk k) >>= fun _ => .ok (.ndc [k] [.v d]) := (rfl)
end VS
namespace GW
open PySem PySem.Spec PyProof.Rows L2 VS
theorem nd_len : ∀ (n : Nat) {q : List Nat}, q.Nodup → (∀ p ∈ q, p < n) → q.length ≤ n
  | 0, q, _, h => by
    cases q with
    | nil => exact Nat.le_refl 0
    | cons x q => exact absurd (h x List.mem_cons_self) (Nat.not_lt_zero x)
  | n + 1, q, hn, h => by
    have h1 : (q.erase n).length ≤ n := nd_len n (hn.erase n) fun p hp => by
      have a := h p (List.mem_of_mem_erase hp)
      have b : p ≠ n := fun e => by
        rw [e] at hp
        exact ((List.Nodup.mem_erase_iff hn).mp hp).1 rfl
      omega
    by_cases e : n ∈ q
    · rw [List.length_erase_of_mem e] at h1
      omega
    · rw [List.erase_of_not_mem e] at h1
      omega
theorem okElT (ds : List D) : okEl true ds = true := by unfold okEl; rfl
theorem atN_of {c : VS.Env} {i : Nat} {ks : List D} {os : List O} (h : c[i]? = some (some (.ndc ks os))) : atN i c = some (ks, os) := by unfold atN; rw [h]
theorem atNk_of {c : VS.Env} {i : Nat} {ks : List D} {os : List O} (h : c[i]? = some (some (.ndc ks os))) : atNk i c = some (ks, os) := by unfold atNk; rw [h]

theorem eV_of {c : VS.Env} {i : Nat} {d : D} (h : c[i]? = some (oD d)) : eV i c = .ok d := by rw [eV_def, h]
theorem add_nat (a b : Nat) : opAdd true true (ni a) (ni b) = some (ni (a + b)) := by rw [opAdd_int]; simp [ni]
/-! ### words -/
def lets (lt : Nat) : List Nat := ([97, 98, 99] : List Nat).take lt
theorem lets_map {lt : Nat} (h : lt ≤ 3) : lets lt = (List.range lt).map fun k => 97 + k := by
  have : lt = 0 ∨ lt = 1 ∨ lt = 2 ∨ lt = 3 := by omega
  rcases this with rfl | rfl | rfl | rfl <;> rfl
theorem lets_in {lt : Nat} (h2 : lt ≤ 3) {c : Nat} : c ∈ lets lt ↔ 97 ≤ c ∧ c < 97 + lt := by
  rw [lets_map h2, List.mem_map]
  constructor
  · rintro ⟨k, hk, rfl⟩
    have := List.mem_range.mp hk
    omega
  · rintro ⟨a, b⟩
    exact ⟨c - 97, List.mem_range.mpr (by omega), by omega⟩
def lvl (lt : Nat) : Nat → List (List Nat)
  | 0 => [[]]
  | k + 1 => (lvl lt k).flatMap fun w => (lets lt).map fun c => w ++ [c]
def upto (lt L : Nat) : List (List Nat) := (List.range (L + 1)).flatMap (lvl lt)
theorem lvl_mem {lt : Nat} (h2 : lt ≤ 3) : ∀ k w, w ∈ lvl lt k ↔ Wd' lt w ∧ w.length = k
  | 0, w => by
    show w ∈ [[]] ↔ _
    rw [List.mem_singleton]
    constructor
    · rintro rfl; exact ⟨(fun c hc => nomatch hc), rfl⟩
    · rintro ⟨_, h⟩; exact List.eq_nil_of_length_eq_zero h
  | k + 1, w => by
    show w ∈ (lvl lt k).flatMap _ ↔ _
    rw [List.mem_flatMap]
    constructor
    · rintro ⟨u, hu, hw⟩
      obtain ⟨c, hc, rfl⟩ := List.mem_map.mp hw
      obtain ⟨a, b⟩ := (lvl_mem h2 k u).mp hu
      refine ⟨fun d hd => ?_, by simp [b]⟩
      rcases List.mem_append.mp hd with z | z
      · exact a d z
      · rw [List.mem_singleton.mp z]; exact (lets_in h2).mp hc
    · rintro ⟨hw, hl⟩
      have hne : w ≠ [] := fun e => by rw [e] at hl; simp at hl
      refine ⟨w.dropLast, (lvl_mem h2 k _).mpr ⟨fun c hc => hw c (List.dropLast_subset _ hc), by simp [hl]⟩, List.mem_map.mpr ⟨w.getLast hne, (lets_in h2).mpr (hw _ (List.getLast_mem hne)), List.dropLast_concat_getLast hne⟩⟩
theorem upto_mem {lt L : Nat} (h2 : lt ≤ 3) {w : List Nat} : w ∈ upto lt L ↔ Wd' lt w ∧ w.length ≤ L := by
  unfold upto
  rw [List.mem_flatMap]
  constructor
  · rintro ⟨k, hk, hw⟩
    have := (lvl_mem h2 k w).mp hw
    have hk := List.mem_range.mp hk
    exact ⟨this.1, by omega⟩
  · rintro ⟨a, b⟩
    exact ⟨w.length, List.mem_range.mpr (by omega), (lvl_mem h2 _ w).mpr ⟨a, rfl⟩⟩
/-- the place of a word in the short order -/
def num (lt : Nat) (w : List Nat) : Nat := w.foldl (fun q c => q * lt + (c - 97) + 1) 0
theorem num_app (lt : Nat) (w : List Nat) (c : Nat) : num lt (w ++ [c]) = num lt w * lt + (c - 97) + 1 := by unfold num; rw [List.foldl_append]; rfl
def lo (lt : Nat) : Nat → Nat
  | 0 => 0
  | n + 1 => lo lt n * lt + 1
theorem lo_lt {lt : Nat} (h : 1 ≤ lt) (n : Nat) : lo lt n < lo lt (n + 1) := by
  show _ < lo lt n * lt + 1
  have := Nat.le_mul_of_pos_right (lo lt n) h
  omega
theorem lo_mono {lt : Nat} (h : 1 ≤ lt) {a b : Nat} (hab : a ≤ b) : lo lt a ≤ lo lt b := by
  induction hab with
  | refl => exact Nat.le_refl _
  | step _ ih => exact Nat.le_trans ih (Nat.le_of_lt (lo_lt h _))
theorem num_bd {lt : Nat} (h : 1 ≤ lt) : ∀ (n : Nat) (w : List Nat), w.length = n → Wd' lt w → lo lt n ≤ num lt w ∧ num lt w < lo lt (n + 1)
  | 0, w, hl, _ => by
    rw [List.eq_nil_of_length_eq_zero hl]
    exact ⟨Nat.le_refl _, by show 0 < 0 * lt + 1; omega⟩
  | n + 1, w, hl, hw => by
    have hne : w ≠ [] := fun e => by rw [e] at hl; simp at hl
    have ih := num_bd h n w.dropLast (by simp [hl]) fun c hc => hw c (List.dropLast_subset _ hc)
    have hc := hw _ (List.getLast_mem hne)
    rw [← List.dropLast_concat_getLast hne, num_app]
    generalize w.getLast hne = c at hc
    generalize num lt w.dropLast = q at ih
    obtain ⟨a, b⟩ := ih
    constructor
    · show lo lt n * lt + 1 ≤ _
      have := Nat.mul_le_mul_right lt a
      omega
    · show _ < lo lt (n + 1) * lt + 1
      have h1 : (q + 1) * lt ≤ lo lt (n + 1) * lt := Nat.mul_le_mul_right lt b
      rw [Nat.succ_mul] at h1
      omega
theorem num_len {lt : Nat} (h : 1 ≤ lt) {u v : List Nat} (hu : Wd' lt u) (hv : Wd' lt v) (hn : num lt u ≤ num lt v) : u.length ≤ v.length := by
  rcases Nat.lt_or_ge v.length u.length with z | z
  · have a := (num_bd h _ u rfl hu).1
    have b := (num_bd h _ v rfl hv).2
    have := lo_mono h (show v.length + 1 ≤ u.length from z)
    omega
  · exact z
theorem num_inj {lt : Nat} (h : 1 ≤ lt) : ∀ (n : Nat) (u v : List Nat), u.length = n → Wd' lt u → Wd' lt v → num lt u = num lt v → u = v
  | 0, u, v, hl, hu, hv, e => by
    rw [List.eq_nil_of_length_eq_zero hl] at e ⊢
    have := num_len h hv (show Wd' lt [] from fun c hc => nomatch hc) (by rw [e]; exact Nat.le_refl _)
    exact (List.eq_nil_of_length_eq_zero (by simpa using this)).symm
  | n + 1, u, v, hl, hu, hv, e => by
    have l1 := num_len h hu hv (by omega)
    have hne : u ≠ [] := fun z => by rw [z] at hl; simp at hl
    have hne2 : v ≠ [] := fun z => by rw [z] at l1; simp at l1; exact hne l1
    have hc := hu _ (List.getLast_mem hne)
    have hd := hv _ (List.getLast_mem hne2)
    have e2 := e
    rw [← List.dropLast_concat_getLast hne, ← List.dropLast_concat_getLast hne2, num_app, num_app] at e2
    have hq : num lt u.dropLast = num lt v.dropLast ∧ u.getLast hne = v.getLast hne2 := by
      generalize u.getLast hne = c at hc e2
      generalize v.getLast hne2 = d at hd e2
      generalize num lt u.dropLast = a at e2
      generalize num lt v.dropLast = b at e2
      rcases Nat.lt_trichotomy a b with z | z | z
      · have := Nat.mul_le_mul_right lt (show a + 1 ≤ b from z)
        rw [Nat.succ_mul] at this
        omega
      · subst z; exact ⟨rfl, by omega⟩
      · have := Nat.mul_le_mul_right lt (show b + 1 ≤ a from z)
        rw [Nat.succ_mul] at this
        omega
    have ih := num_inj h n u.dropLast v.dropLast (by simp [hl]) (fun c hc => hu c (List.dropLast_subset _ hc)) (fun c hc => hv c (List.dropLast_subset _ hc)) hq.1
    rw [← List.dropLast_concat_getLast hne, ← List.dropLast_concat_getLast hne2, ih, hq.2]
theorem lvl_sorted {lt : Nat} (h1 : 1 ≤ lt) (h2 : lt ≤ 3) : ∀ k, (lvl lt k).Pairwise fun u v => num lt u < num lt v
  | 0 => List.pairwise_singleton _ _
  | k + 1 => by
    have ih := lvl_sorted h1 h2 k
    show ((lvl lt k).flatMap fun w => (lets lt).map fun c => w ++ [c]).Pairwise _
    rw [List.pairwise_flatMap]
    constructor
    · intro w _
      rw [lets_map h2, List.map_map, List.pairwise_map]
      refine List.pairwise_lt_range.imp fun {a b} hab => ?_
      show num lt (w ++ [97 + a]) < num lt (w ++ [97 + b])
      rw [num_app, num_app]; omega
    · refine ih.imp fun {u v} huv x hx y hy => ?_
      obtain ⟨c, hc, rfl⟩ := List.mem_map.mp hx
      obtain ⟨d, hd, rfl⟩ := List.mem_map.mp hy
      have hc := (lets_in h2).mp hc
      have hd := (lets_in h2).mp hd
      rw [num_app, num_app]
      have := Nat.mul_le_mul_right lt (show num lt u + 1 ≤ num lt v from huv)
      rw [Nat.succ_mul] at this
      omega
theorem upto_sorted {lt L : Nat} (h1 : 1 ≤ lt) (h2 : lt ≤ 3) : (upto lt L).Pairwise fun u v => num lt u < num lt v := by
  unfold upto
  rw [List.pairwise_flatMap]
  refine ⟨fun k _ => lvl_sorted h1 h2 k, List.pairwise_lt_range.imp fun {a b} hab x hx y hy => ?_⟩
  have hx := (lvl_mem h2 a x).mp hx
  have hy := (lvl_mem h2 b y).mp hy
  have p := (num_bd h1 a x hx.2 hx.1).2
  have q := (num_bd h1 b y hy.2 hy.1).1
  have := lo_mono h1 (show a + 1 ≤ b from hab)
  omega
end GW

namespace GW
open PySem PySem.Spec PyProof.Rows L2 VS
/-! ### places -/
abbrev Pl := List (Option Nat)
def plD : Option Nat → D
  | none => .non
  | some a => ni a
def plsD (P : Pl) : D := .tup (P.map plD)
def cl (l : List Stp) (o : Option Nat) (c : Nat) : Option Nat := o.bind fun a => onS l a c
def pl (LS : List (List Stp)) (w : List Nat) : Pl := LS.map fun l => w.foldlM (onS l) 0
def clP (LS : List (List Stp)) (P : Pl) (c : Nat) : Pl := (List.range LS.length).map fun i => cl (LS.getD i []) (P.getD i none) c
theorem fold_app (l : List Stp) (w : List Nat) (c : Nat) : (w ++ [c]).foldlM (onS l) 0 = cl l (w.foldlM (onS l) 0) c := by
  rw [List.foldlM_append]
  unfold cl
  cases w.foldlM (onS l) 0 with
  | none => rfl
  | some a =>
    show [c].foldlM (onS l) a = onS l a c
    rw [List.foldlM_cons]
    cases onS l a c with
    | none => rfl
    | some b => rfl
theorem clP_pl (LS : List (List Stp)) (w : List Nat) (c : Nat) : clP LS (pl LS w) c = pl LS (w ++ [c]) := by
  unfold clP pl
  refine List.ext_getElem (by simp) fun i h1 h2 => ?_
  have hi : i < LS.length := by simpa using h1
  rw [List.getElem_map, List.getElem_range, List.getElem_map, fold_app, List.getD_eq_getElem?_getD, List.getElem?_eq_getElem hi, List.getD_eq_getElem?_getD, List.getElem?_map, List.getElem?_eq_getElem hi]; rfl
/-- the ladders are short -/
def Lok (LS : List (List Stp)) : Prop := LS.length ≤ 3 ∧ ∀ l ∈ LS, l.length ≤ 4
theorem onS_bd {l : List Stp} {a c b : Nat} (h : onS l a c = some b) : b ≤ l.length := by
  unfold onS gs at h
  split at h
  · cases h
    split <;> omega
  · cases h
theorem fold_bd (l : List Stp) : ∀ (w : List Nat) (a b : Nat), a ≤ l.length → w.foldlM (onS l) a = some b → b ≤ l.length
  | [], a, b, ha, h => by cases h; exact ha
  | c :: w, a, b, ha, h => by
    rw [List.foldlM_cons] at h
    cases e : onS l a c with
    | none => rw [e] at h; cases h
    | some x => rw [e] at h; exact fold_bd l w x b (onS_bd e) h
/-- places of a tuple: none, or at most the length -/
def Pok (LS : List (List Stp)) (P : Pl) : Prop := P.length = LS.length ∧ ∀ i, i < LS.length → ∀ a, P.getD i none = some a → a ≤ (LS.getD i []).length
theorem pl_ok (LS : List (List Stp)) (w : List Nat) : Pok LS (pl LS w) := by
  refine ⟨by simp [pl], fun i hi a h => ?_⟩
  unfold pl at h
  rw [List.getD_eq_getElem?_getD, List.getElem?_map, List.getElem?_eq_getElem hi] at h
  rw [List.getD_eq_getElem?_getD, List.getElem?_eq_getElem hi]
  exact fold_bd _ w 0 a (Nat.zero_le _) h
theorem rangeD_ab (a b : Nat) : rangeD (a : Int) (b : Int) = (List.range (b - a)).map fun j => ni (a + j) := by
  unfold rangeD
  have : ((b : Int) - (a : Int)).toNat = b - a := by omega
  rw [this]
  refine List.map_congr_left fun j _ => ?_
  show D.int _ = D.int _
  exact congrArg D.int (by omega)
abbrev plB : VS.Env → Rs := (sIf (eTru (eCall Mtakes (eCons (eOp2 (opIx true) (eV 0) (eV 3)) (eCons (eV 2) eNil))))
    (sRet (eOp2 (opAdd true true) (eV 3) (eFn (fInt) (eCons (eOp2 (opEq) (eOp2 (opIx true) (eOp2 (opIx true) (eV 0) (eV 3)) (eC (.int 0))) (eC (.str [109, 97, 121, 98, 101]))) eNil))))
    sNil)
theorem place_spec (l : List Stp) (hl : l.length ≤ 1000) (o : Option Nat) (ho : ∀ a, o = some a → a ≤ l.length) {k : Nat} (hk : k < 3) : Mclimbed_place [lad l, plD o, ni k] = .ok (plD (cl l o (97 + k))) := by
  cases o with
  | none =>
    unfold Mclimbed_place Bclimbed_place
    exact ret_of (.fst (.yes rfl (.ret rfl)))
  | some a =>
    have ha := ho a rfl
    have hloop := forL_ix 3 plB (fun j => ni (a + j)) (fun m c => ∃ x, c = [oD (lad l), oD (ni a), oD (ni k), x] ∧ ∀ j (h : j < l.length), a ≤ j → j < a + m → tk l[j] k = false) (fun d => d = plD (onS l a (97 + k))) (List.range (l.length - a)) 0 [oD (lad l), oD (ni a), oD (ni k), none] ⟨none, rfl, fun j _ h1 h2 => absurd h2 (by omega)⟩ (by
      rintro j c x hx ⟨x3, rfl, hn⟩
      obtain ⟨hj, hjx⟩ := List.getElem?_eq_some_iff.mp hx
      rw [List.getElem_range] at hjx
      subst hjx
      rw [List.length_range] at hj
      have hlt : a + j < l.length := by omega
      have hix := ladIx hlt
      have htk := (takes_spec l[a + j] k).1
      have v : (eTru (eCall Mtakes (eCons (eOp2 (opIx true) (eV 0) (eV 3)) (eCons (eV 2) eNil)))) [oD (lad l), oD (ni a), oD (ni k), oD (ni (a + j))] = .ok (tk l[a + j] k) := by
        simp -implicitDefEqProofs only [eTru_def, eCall_def, eCons_def, eNil_def, eOp2_def, eV_def, List.getElem?_cons_zero, List.getElem?_cons_succ, ok_bind, hix, lift_some, htk, noX_ok, truD_bl]
      cases ht : tk l[a + j] k with
      | true =>
        rw [ht] at v
        refine .inr ⟨plD (some (a + j + if l[a + j].1 then 1 else 0)), ?_, .yes v (.ret ?_)⟩
        · have hF : First (fun s => tk s k) l a (a + j) := ⟨by omega, by omega, fun i h h1 h2 => hn i h h1 (by omega), fun _ => ht⟩
          have hnx := hF.eq (First_nx (fun s => tk s k) l ha)
          unfold onS gs
          rw [Nat.add_sub_cancel_left, ← hnx, if_pos hlt, mb_eq hlt]
        · have hm := eq_maybe l[a + j].1
          show (eOp2 _ _ _) [oD (lad l), oD (ni a), oD (ni k), oD (ni (a + j))] = _
          simp -implicitDefEqProofs only [eOp2_def, eFn_def, eCons_def, eNil_def, eV_def, eC_def, List.getElem?_cons_zero, List.getElem?_cons_succ, ok_bind, hix, lift_some, stD0, hm, fInt_bl]
          cases l[a + j].1 <;> (rw [opAdd_int]; simp [plD, ni])
      | false =>
        rw [ht] at v
        refine .inl ⟨_, .no v .nil, oD (ni (a + j)), rfl, fun i h h1 h2 => ?_⟩
        by_cases e : i = a + j
        · subst e; exact ht
        · exact hn i h h1 (by omega))
    have er : (eItR (eV 1) (eFn (fLen) (eCons (eV 0) eNil))) [oD (lad l), oD (ni a), oD (ni k), none] = .ok ((List.range (l.length - a)).map fun j => ni (a + j)) := by
      simp -implicitDefEqProofs only [eItR_def, eFn_def, eCons_def, eNil_def, eV_def, List.getElem?_cons_zero, List.getElem?_cons_succ, ok_bind, ladLen, lift_some, asI_small (i := (a : Int)) (by omega) (by omega), asI_small (i := (l.length : Int)) (by omega) (by omega)]
      rw [rangeD_ab]
    unfold Mclimbed_place Bclimbed_place
    refine ret_of ?_
    show Ret _ [oD (lad l), oD (ni a), oD (ni k), none] _
    refine .seq (.no rfl .nil) ?_
    rcases hloop with ⟨c', h, x, rfl, hn⟩ | ⟨d, c', rfl, h⟩
    · refine .seq (.for er h) (.ret ?_)
      have hF : First (fun s => tk s k) l a l.length := ⟨ha, Nat.le_refl _, fun i h h1 h2 => hn i h h1 (by rw [List.length_range]; omega), fun h => absurd h (by omega)⟩
      have hnx := hF.eq (First_nx (fun s => tk s k) l ha)
      show VS.R.ok D.non = .ok (plD (onS l a (97 + k)))
      unfold onS gs
      rw [Nat.add_sub_cancel_left, ← hnx, if_neg (by omega)]; rfl
    · exact .fst (.for er ⟨c', h⟩)
abbrev LD (LS : List (List Stp)) : D := .lst (LS.map lad)
theorem lsIx {LS : List (List Stp)} {i : Nat} (h : i < LS.length) : opIx true (LD LS) (ni i) = some (lad (LS.getD i [])) := by
  show opIx true (.lst _) (.int (i : Int)) = _
  rw [opIx_lst, atI_ofNat, List.getElem?_map, List.getElem?_eq_getElem h, List.getD_eq_getElem?_getD, List.getElem?_eq_getElem h]; rfl
theorem plIx {P : Pl} {i : Nat} (h : i < P.length) : opIx true (plsD P) (ni i) = some (plD (P.getD i none)) := by
  show opIx true (.tup _) (.int (i : Int)) = _
  rw [opIx_tup, atI_ofNat, List.getElem?_map, List.getElem?_eq_getElem h, List.getD_eq_getElem?_getD, List.getElem?_eq_getElem h]; rfl
theorem places_spec (LS : List (List Stp)) (hL : Lok LS) (P : Pl) (hP : Pok LS P) {k : Nat} (hk : k < 3) : Mclimbed_places [LD LS, plsD P, ni k] = .ok (plsD (clP LS P (97 + k))) := by
  obtain ⟨h3, h4⟩ := hL
  have er : (eItR (eC (.int 0)) (eFn (fLen) (eCons (eV 0) eNil))) [oD (LD LS), oD (plsD P), oD (ni k), none] = .ok ((List.range LS.length).map ni) := by
    simp -implicitDefEqProofs only [eItR_def, eFn_def, eCons_def, eNil_def, eV_def, eC_def, List.getElem?_cons_zero, ok_bind, fLen_lst, List.length_map, lift_some, asI_zero, asI_small (i := (LS.length : Int)) (by omega) (by omega)]
    rw [rangeD_nat]
  have cm := compL_mapm (eCall Mclimbed_place (eCons (eOp2 (opIx true) (eV 0) (eV 3)) (eCons (eOp2 (opIx true) (eV 1) (eV 3)) (eCons (eV 2) eNil)))) 3 [oD (LD LS), oD (plsD P), oD (ni k), none] ni (fun i => plD (cl (LS.getD i []) (P.getD i none) (97 + k))) (List.range LS.length) (fun i hi => by
    have hi := List.mem_range.mp hi
    have i1 := lsIx hi
    have i2 := plIx (P := P) (i := i) (by rw [hP.1]; exact hi)
    have hl : (LS.getD i []).length ≤ 1000 := by
      rw [List.getD_eq_getElem?_getD, List.getElem?_eq_getElem hi]
      have := h4 _ (List.getElem_mem hi)
      show LS[i].length ≤ 1000
      omega
    have e := place_spec (LS.getD i []) hl (P.getD i none) (hP.2 i hi) hk
    show (eCall _ _) [oD (LD LS), oD (plsD P), oD (ni k), oD (ni i)] = _
    simp -implicitDefEqProofs only [eCall_def, eCons_def, eNil_def, eOp2_def, eV_def, List.getElem?_cons_zero, List.getElem?_cons_succ, ok_bind, i1, i2, lift_some, e, noX_ok])
  unfold Mclimbed_places Bclimbed_places
  refine ret_of (.ret ?_)
  show (eFn _ _) [oD (LD LS), oD (plsD P), oD (ni k), none] = _
  rw [eFn_def, eCons_def, eLc_def, eLcs_def, er, ok_bind, cm, ok_bind, List.length_map, List.length_range, if_pos (by omega), ok_bind, ok_bind, eNil_def, ok_bind, ok_bind, fTuple_lst, if_pos (okElT _), lift_some]
  unfold plsD clP
  rw [List.map_map]; rfl
theorem begun_spec (LS : List (List Stp)) (hL : Lok LS) : Mbegun_places [LD LS] = .ok (plsD (pl LS [])) := by
  have es : (eIt true (eV 0)) [oD (LD LS), none] = .ok (LS.map lad) := by
    show lift (asA true (.lst _)) = _
    rw [asA_lst, if_pos (okElT _)]; rfl
  have cm := compL_mapm (eC (.int 0)) 1 [oD (LD LS), none] lad (fun _ => ni 0) LS (fun _ _ => rfl)
  unfold Mbegun_places Bbegun_places
  refine ret_of (.ret ?_)
  show (eFn _ _) [oD (LD LS), none] = _
  rw [eFn_def, eCons_def, eLc_def, eLcs_def, es, ok_bind, cm, ok_bind, List.length_map, if_pos (by have := hL.1; omega), ok_bind, ok_bind, eNil_def, ok_bind, ok_bind, fTuple_lst, if_pos (okElT _), lift_some]
  unfold plsD pl
  rw [List.map_map]; rfl
def offP (P : Pl) : Bool := (P.filter fun o => o.isSome).length == 0
theorem off_spec (P : Pl) (h : P.length ≤ 1000) : Mis_off [plsD P] = .ok (.bl (offP P)) := by
  have es : (eIt true (eV 0)) [oD (plsD P), none] = .ok (P.map plD) := by
    show lift (asA true (.tup _)) = _
    rw [asA_tup, if_pos (okElT _)]; rfl
  have cm := compL_filterm (eB (eOp2 (opIsnt) (eV 1) (eC .non))) (eV 1) 1 [oD (plsD P), none] plD (fun o => o.isSome) plD P (by
    intro o _
    cases o <;> rfl) (by intro o _ _; rfl)
  have hl := List.length_filter_le (fun o : Option Nat => o.isSome) P
  unfold Mis_off Bis_off
  refine ret_of (.ret ?_)
  show (eOp2 _ _ _) [oD (plsD P), none] = _
  rw [eOp2_def, eFn_def, eCons_def, eLc_def, eLcs_def, es, ok_bind, cm, ok_bind, List.length_map, if_pos (by omega), ok_bind, ok_bind, eNil_def, ok_bind, ok_bind, fLen_lst, lift_some, ok_bind, eC_def, ok_bind, List.length_map]
  show lift (opEq (.int _) (.int 0)) = _
  rw [opEq_int, lift_some]
  unfold offP
  exact congrArg (fun b => VS.R.ok (D.bl b)) (by rw [Bool.eq_iff_iff, beq_iff_eq, beq_iff_eq]; omega)
theorem offP_pl (LS : List (List Stp)) (w : List Nat) : offP (pl LS w) = !(LS.any fun l => onB l w) := by
  unfold offP pl onB
  induction LS with
  | nil => rfl
  | cons l LS ih =>
    rw [List.map_cons, List.filter_cons, List.any_cons]
    cases (w.foldlM (onS l) 0) with
    | none => simpa using ih
    | some a => simp
end GW

namespace VS
open PySem PySem.Spec PyProof.Rows L2
theorem eNGt_def (i : Nat) (gk ge : VS.Env → VS.R D) (c : VS.Env) : eNGt i gk ge c = match atNk i c with
  | some q => gk c >>= fun k => lift (D.nk k) >>= fun kk => ge c >>= fun d => lift (match nGet q.1 q.2 kk with | some (.v e) => some e | some _ => none | none => if nHas q.1 kk then none else some d)
  | none => .stuck := (rfl)
theorem sFzN_def (i : Nat) (g : VS.Env → Rs) (c : VS.Env) : sFzN i g c = if isNlk i c then g c else match fzN i c with
  | some c' => g c'
  | none => .stuck := (rfl)
theorem eItN'_def (g : VS.Env → VS.R D) (c : VS.Env) : eItN' g c = g c >>= fun d => match d with
  | .nlk ks _ => .ok ks
  | _ => .stuck := (rfl)
theorem vals_map {α : Type} (f : α → D) : ∀ l : List α, vals (l.map fun x => O.v (f x)) = some (l.map f)
  | [] => rfl
  | x :: l => by rw [List.map_cons, vals, vals_map f l]; rfl
end VS
namespace GW
open PySem PySem.Spec PyProof.Rows L2 VS
/-! ### tuples of places as keys -/
def kE : Option Nat → NestedKey
  | none => .none
  | some a => .num a
def kPl (P : Pl) : NestedKey := .tup (P.map kE)
theorem nqs_pl : ∀ P : Pl, D.nqs (P.map plD) = some (P.map kE)
  | [] => rfl
  | o :: P => by
    rw [List.map_cons, D.nqs, nqs_pl P]
    cases o <;> simp [plD, kE, D.nq]
theorem depth_pl : ∀ P : Pl, NestedKey.depthAll (P.map kE) ≤ 1
  | [] => by simp [NestedKey.depthAll]
  | o :: P => by
    have ih := depth_pl P
    rw [List.map_cons]
    cases o <;> simp [kE, NestedKey.depthAll, NestedKey.depth] <;> omega
theorem nk_pl (P : Pl) : D.nk (plsD P) = some (kPl P) := by
  have hd := depth_pl P
  unfold plsD D.nk
  simp only [D.nq, nqs_pl, Option.map_some, Option.bind_some]
  rw [if_pos (by simp only [NestedKey.depth]; omega)]
  rfl
theorem kE_inj : ∀ P Q : Pl, P.map kE = Q.map kE → P = Q
  | [], [], _ => rfl
  | [], _ :: _, h => by simp at h
  | _ :: _, [], h => by simp at h
  | o :: P, q :: Q, h => by
    rw [List.map_cons, List.map_cons] at h
    obtain ⟨h1, h2⟩ := List.cons.inj h
    have e := kE_inj P Q h2
    have e2 : o = q := by
      cases o <;> cases q <;> simp [kE] at h1 ⊢
      omega
    rw [e, e2]
theorem kPl_inj {P Q : Pl} : kPl P = kPl Q ↔ P = Q := by
  constructor
  · intro h
    unfold kPl at h
    injection h with h
    exact kE_inj P Q h
  · rintro rfl; rfl
section
variable {β : Type} (v : β → D)
abbrev ksD (A : List (Pl × β)) : List D := A.map fun p => plsD p.1
abbrev nO (A : List (Pl × β)) : Option O := some (.ndc (ksD A) (A.map fun p => O.v (v p.2)))
abbrev kD (A : List (Pl × β)) : D := .nlk (ksD A) (A.map fun p => v p.2)
def lkA : List (Pl × β) → Pl → Option β
  | [], _ => none
  | p :: A, P => if p.1 = P then some p.2 else lkA A P
def putA : List (Pl × β) → Pl → β → List (Pl × β)
  | [], P, b => [(P, b)]
  | p :: A, P, b => if p.1 = P then (P, b) :: A else p :: putA A P b
theorem nGet_A : ∀ (A : List (Pl × β)) (P : Pl), nGet (ksD A) (A.map fun p => O.v (v p.2)) (kPl P) = (lkA A P).map fun b => O.v (v b)
  | [], P => rfl
  | p :: A, P => by
    show nGet (plsD p.1 :: ksD A) (O.v (v p.2) :: A.map fun p => O.v (v p.2)) (kPl P) = _
    rw [nGet, nk_pl, lkA]
    by_cases h : p.1 = P
    · rw [if_pos (by rw [h]), if_pos h]; rfl
    · rw [if_neg (fun e => h (kPl_inj.mp (Option.some.inj e))), if_neg h]; exact nGet_A A P
theorem nHas_A : ∀ (A : List (Pl × β)) (P : Pl), nHas (ksD A) (kPl P) = (lkA A P).isSome
  | [], P => rfl
  | p :: A, P => by
    have ih := nHas_A A P
    unfold nHas at ih ⊢
    show (plsD p.1 :: ksD A).any _ = _
    rw [List.any_cons, ih, nk_pl, lkA]
    by_cases h : p.1 = P
    · rw [if_pos h, h]; simp
    · rw [if_neg h, decide_eq_false (fun e => h (kPl_inj.mp (Option.some.inj e)))]; rfl
theorem lkA_none : ∀ {A : List (Pl × β)} {P : Pl}, lkA A P = none ↔ P ∉ A.map (·.1)
  | [], P => by simp [lkA]
  | p :: A, P => by
    rw [lkA, List.map_cons, List.mem_cons]
    by_cases h : p.1 = P
    · rw [if_pos h]; simp [h]
    · rw [if_neg h, lkA_none]; simp [Ne.symm h]
theorem lkA_mem : ∀ {A : List (Pl × β)} {p : Pl × β}, (A.map (·.1)).Nodup → p ∈ A → lkA A p.1 = some p.2
  | [], p, _, h => nomatch h
  | q :: A, p, n, h => by
    rw [lkA]
    have n := List.nodup_cons.mp (show (q.1 :: A.map (·.1)).Nodup from n)
    rcases List.mem_cons.mp h with z | z
    · rw [z, if_pos rfl]
    · rw [if_neg (fun e => n.1 (by rw [e]; exact List.mem_map.mpr ⟨p, z, rfl⟩))]
      exact lkA_mem n.2 z
theorem putA_keys : ∀ (A : List (Pl × β)) (P : Pl) (b : β), (putA A P b).map (·.1) = if P ∈ A.map (·.1) then A.map (·.1) else A.map (·.1) ++ [P]
  | [], P, b => by simp [putA]
  | p :: A, P, b => by
    rw [putA]
    by_cases h : p.1 = P
    · rw [if_pos h, List.map_cons, List.map_cons, if_pos (by rw [h]; exact List.mem_cons_self), h]
    · rw [if_neg h, List.map_cons, putA_keys A P b, List.map_cons]
      by_cases h2 : P ∈ A.map (·.1)
      · rw [if_pos h2, if_pos (List.mem_cons_of_mem _ h2)]
      · rw [if_neg h2, if_neg (fun z => (List.mem_cons.mp z).elim (fun e => h e.symm) h2)]; rfl
theorem putA_new : ∀ {A : List (Pl × β)} {P : Pl} {b : β}, P ∉ A.map (·.1) → putA A P b = A ++ [(P, b)]
  | [], P, b, _ => rfl
  | p :: A, P, b, h => by
    rw [putA, if_neg (fun e => h (by rw [← e]; exact List.mem_cons_self)), putA_new fun z => h (List.mem_cons_of_mem _ z)]; rfl
theorem putA_nd {A : List (Pl × β)} {P : Pl} {b : β} (h : (A.map (·.1)).Nodup) : ((putA A P b).map (·.1)).Nodup := by
  rw [putA_keys]
  split
  · exact h
  · rename_i hn
    exact List.nodup_append.mpr ⟨h, by simp, fun a ha c hc => by rw [List.mem_singleton.mp hc]; exact fun e => hn (e ▸ ha)⟩
theorem nRep_none : ∀ {A : List (Pl × β)} {P : Pl} {b : β}, P ∉ A.map (·.1) → nRep (ksD A) (A.map fun p => O.v (v p.2)) (kPl P) (v b) = A.map fun p => O.v (v p.2)
  | [], P, b, _ => rfl
  | p :: A, P, b, h => by
    show nRep (plsD p.1 :: ksD A) (O.v (v p.2) :: A.map fun p => O.v (v p.2)) (kPl P) (v b) = _
    rw [nRep, nk_pl, if_neg (fun e => h (by rw [← kPl_inj.mp (Option.some.inj e)]; exact List.mem_cons_self)), nRep_none fun z => h (List.mem_cons_of_mem _ z)]; rfl
theorem nRep_A : ∀ {A : List (Pl × β)} {P : Pl} {b : β}, (A.map (·.1)).Nodup → P ∈ A.map (·.1) → nRep (ksD A) (A.map fun p => O.v (v p.2)) (kPl P) (v b) = (putA A P b).map fun p => O.v (v p.2)
  | [], P, b, _, h => nomatch h
  | p :: A, P, b, n, h => by
    have n := List.nodup_cons.mp (show (p.1 :: A.map (·.1)).Nodup from n)
    show nRep (plsD p.1 :: ksD A) (O.v (v p.2) :: A.map fun p => O.v (v p.2)) (kPl P) (v b) = _
    rw [nRep, nk_pl, putA]
    by_cases e : p.1 = P
    · rw [if_pos (by rw [e]), if_pos e, nRep_none v (by rw [← e]; exact n.1)]; rfl
    · rw [if_neg (fun z => e (kPl_inj.mp (Option.some.inj z))), if_neg e, nRep_A n.2 ((List.mem_cons.mp h).elim (fun z => absurd z.symm e) id)]; rfl
theorem nPut_A {A : List (Pl × β)} (n : (A.map (·.1)).Nodup) (hl : A.length ≤ 100000) (P : Pl) (b : β) : nPut (ksD A) (A.map fun p => O.v (v p.2)) (plsD P) (kPl P) (v b) = some (.ndc (ksD (putA A P b)) ((putA A P b).map fun p => O.v (v p.2))) := by
  have hk : ksD (putA A P b) = ((putA A P b).map (·.1)).map plsD := by rw [List.map_map]; rfl
  have hk' : ksD A = (A.map (·.1)).map plsD := by rw [List.map_map]; rfl
  unfold nPut
  rw [show (ksD A).length = A.length from List.length_map _, if_pos (by omega), nHas_A, hk, putA_keys]
  by_cases h : P ∈ A.map (·.1)
  · have : (lkA A P).isSome = true := by
      cases e : lkA A P with
      | none => exact absurd h (lkA_none.mp e)
      | some x => rfl
    rw [this, if_pos rfl, if_pos h, nRep_A v n h, ← hk']
  · rw [lkA_none.mpr h, if_neg (by simp), if_neg h, putA_new h, List.map_append, List.map_append, ← hk']; rfl
variable {c : VS.Env} {i : Nat} {A : List (Pl × β)} {P : Pl}
theorem nset_A {gi g : VS.Env → VS.R D} {b : β} (h : c[i]? = some (nO v A)) (hi : gi c = .ok (plsD P)) (hg : g c = .ok (v b)) (n : (A.map (·.1)).Nodup) (hl : A.length ≤ 100000) : Nx (sNSet i gi g) c (c.set i (nO v (putA A P b))) := by
  unfold Nx
  rw [sNSet_def, hg, st_ok, atN_of h, lift_some, st_ok, hi, st_ok, nk_pl, lift_some, st_ok, nPut_A v n hl, lift_some, st_ok]
/-- a dict at a name -/
def At (c : VS.Env) (i : Nat) (A : List (Pl × β)) : Prop := atNk i c = some (ksD A, A.map fun p => O.v (v p.2))
theorem At.own (h : c[i]? = some (nO v A)) : At v c i A := atNk_of h
theorem At.lk (h : c[i]? = some (oD (kD v A))) : At v c i A := by
  unfold At atNk
  rw [h]
  show some (ksD A, (A.map fun p => v p.2).map O.v) = _
  rw [List.map_map]; rfl
theorem nix_A {gk : VS.Env → VS.R D} {b : β} (h : At v c i A) (hk : gk c = .ok (plsD P)) (hb : lkA A P = some b) : eNIx i gk c = .ok (v b) := by
  rw [eNIx_def, show atNk i c = _ from h]
  show (gk c >>= fun k => lift (D.nk k) >>= fun kk => lift ((nGet (ksD A) (A.map fun p => O.v (v p.2)) kk).bind _)) = _
  rw [hk, ok_bind, nk_pl, lift_some, ok_bind, nGet_A, hb]; rfl
theorem nin_A {gk : VS.Env → VS.R D} (neg : Bool) (h : At v c i A) (hk : gk c = .ok (plsD P)) : eNIn neg i gk c = .ok (.bl (cond neg (!(lkA A P).isSome) (lkA A P).isSome)) := by
  rw [eNIn_def, show atNk i c = _ from h]
  show (gk c >>= fun k => lift (D.nk k) >>= fun kk => VS.R.ok (D.bl (cond neg (!nHas (ksD A) kk) (nHas (ksD A) kk)))) = _
  rw [hk, ok_bind, nk_pl, lift_some, ok_bind, nHas_A]
theorem ngt_A {gk ge : VS.Env → VS.R D} {b : β} (h : At v c i A) (hk : gk c = .ok (plsD P)) (he : ge c = .ok (v b)) : eNGt i gk ge c = .ok (v ((lkA A P).getD b)) := by
  rw [eNGt_def, show atNk i c = _ from h]
  show (gk c >>= fun k => lift (D.nk k) >>= fun kk => ge c >>= fun d => lift (match nGet (ksD A) (A.map fun p => O.v (v p.2)) kk with | some (.v e) => some e | some _ => none | none => if nHas (ksD A) kk then none else some d)) = _
  rw [hk, ok_bind, nk_pl, lift_some, ok_bind, he, ok_bind, nGet_A, nHas_A]
  cases lkA A P with
  | none => rfl
  | some x => rfl
theorem fzN_A {g : VS.Env → Rs} (h : c[i]? = some (nO v A) ∨ c[i]? = some (oD (kD v A))) : sFzN i g c = g (c.set i (oD (kD v A))) := by
  rw [sFzN_def]
  rcases h with h | h
  · have h1 : isNlk i c = false := by unfold isNlk; rw [h]
    have h2 : fzN i c = some (c.set i (oD (kD v A))) := by
      unfold fzN
      rw [h]
      show (vals (A.map fun p => O.v (v p.2))).map _ = _
      rw [vals_map fun p : Pl × β => v p.2]; rfl
    rw [h1, if_neg (by simp), h2]
  · have h1 : isNlk i c = true := by unfold isNlk; rw [h]
    have h2 : c.set i (oD (kD v A)) = c := by
      refine List.ext_getElem? fun j => ?_
      by_cases e : i = j
      · subst e
        have := List.getElem?_eq_some_iff.mp h
        rw [List.getElem?_set_self this.1, h]
      · rw [List.getElem?_set_ne e]
    rw [h1, if_pos rfl, h2]
end
/-! ### how many tuples there are -/
def digit : Option Nat → Nat
  | none => 0
  | some a => a + 1
def code (P : Pl) : Nat := P.foldr (fun o q => digit o + 6 * q) 0
theorem code_lt : ∀ P : Pl, (∀ o ∈ P, digit o < 6) → code P < 6 ^ P.length
  | [], _ => by simp [code]
  | o :: P, h => by
    have h1 := code_lt P fun x hx => h x (List.mem_cons_of_mem _ hx)
    have h2 := h o List.mem_cons_self
    show digit o + 6 * code P < 6 ^ (P.length + 1)
    rw [Nat.pow_succ]
    omega
theorem code_inj : ∀ P Q : Pl, (∀ o ∈ P, digit o < 6) → (∀ o ∈ Q, digit o < 6) → P.length = Q.length → code P = code Q → P = Q
  | [], [], _, _, _, _ => rfl
  | [], _ :: _, _, _, h, _ => by simp at h
  | _ :: _, [], _, _, h, _ => by simp at h
  | o :: P, q :: Q, h1, h2, hl, e => by
    have a := h1 o List.mem_cons_self
    have b := h2 q List.mem_cons_self
    have e : digit o + 6 * code P = digit q + 6 * code Q := e
    have ih := code_inj P Q (fun x hx => h1 x (List.mem_cons_of_mem _ hx)) (fun x hx => h2 x (List.mem_cons_of_mem _ hx)) (by simpa using hl) (by omega)
    have ed : digit o = digit q := by omega
    have : o = q := by cases o <;> cases q <;> simp [digit] at ed ⊢; exact ed
    rw [ih, this]
theorem pl_digit {LS : List (List Stp)} (hL : Lok LS) (w : List Nat) : ∀ o ∈ pl LS w, digit o < 6 := by
  intro o ho
  unfold pl at ho
  obtain ⟨l, hl, rfl⟩ := List.mem_map.mp ho
  have h4 := hL.2 l hl
  cases e : w.foldlM (onS l) 0 with
  | none => simp [digit]
  | some a =>
    have := fold_bd l w 0 a (Nat.zero_le _) e
    simp only [digit]; omega
theorem keys_le {LS : List (List Stp)} (hL : Lok LS) {K : List Pl} (n : K.Nodup) (h : ∀ P ∈ K, ∃ w, P = pl LS w) : K.length ≤ 216 := by
  have hn : (K.map code).Nodup := by
    rw [List.nodup_iff_pairwise_ne, List.pairwise_map]
    have hp : K.Pairwise (· ≠ ·) := n
    refine List.Pairwise.imp_of_mem (fun {a b} ha hb hne e => hne ?_) hp
    obtain ⟨u, rfl⟩ := h a ha
    obtain ⟨w, rfl⟩ := h b hb
    exact code_inj _ _ (pl_digit hL u) (pl_digit hL w) (by simp [pl]) e
  have := nd_len 216 hn fun x hx => by
    obtain ⟨P, hP, rfl⟩ := List.mem_map.mp hx
    obtain ⟨w, rfl⟩ := h P hP
    have h1 := code_lt _ (pl_digit hL w)
    have h2 : (pl LS w).length ≤ 3 := by simp [pl]; exact hL.1
    have h3 : 6 ^ (pl LS w).length ≤ 6 ^ 3 := Nat.pow_le_pow_right (by omega) h2
    omega
  rwa [List.length_map] at this
end GW

namespace GW
open PySem PySem.Spec PyProof.Rows L2 VS
abbrev Al := List (Pl × Nat)
def Sg (f : Pl → Nat) (A : Al) : Nat := (A.map fun p => p.2 * f p.1).sum
def addA (B : Al) (Q : Pl) (v : Nat) : Al := putA B Q ((lkA B Q).getD 0 + v)
theorem Sg_add (f : Pl → Nat) (Q : Pl) (v : Nat) : ∀ B : Al, Sg f (addA B Q v) = Sg f B + v * f Q
  | [] => by simp [addA, putA, lkA, Sg]
  | p :: B => by
    have ih := Sg_add f Q v B
    unfold addA at ih ⊢
    rw [lkA, putA]
    by_cases h : p.1 = Q
    · rw [if_pos h, if_pos h]
      subst h
      show (p.2 + v) * f p.1 + Sg f B = p.2 * f p.1 + Sg f B + v * f p.1
      rw [Nat.add_mul]; omega
    · rw [if_neg h, if_neg h]
      show p.2 * f p.1 + Sg f (putA B Q ((lkA B Q).getD 0 + v)) = p.2 * f p.1 + Sg f B + v * f Q
      omega
structure IvB (LS : List (List Stp)) (B : Al) : Prop where
  nd : (B.map (·.1)).Nodup
  re : ∀ P ∈ B.map (·.1), ∃ w, P = pl LS w
theorem IvB.len {LS : List (List Stp)} (hL : Lok LS) {B : Al} (h : IvB LS B) : B.length ≤ 216 := by
  have := keys_le hL h.nd h.re
  rwa [List.length_map] at this
theorem IvB.add {LS : List (List Stp)} {B : Al} (h : IvB LS B) (w : List Nat) (v : Nat) : IvB LS (addA B (pl LS w) v) := by
  refine ⟨putA_nd h.nd, fun P hP => ?_⟩
  unfold addA at hP
  rw [putA_keys] at hP
  split at hP
  · exact h.re P hP
  · rcases List.mem_append.mp hP with z | z
    · exact h.re P z
    · exact ⟨w, List.mem_singleton.mp z⟩
theorem sum_flat {α β : Type} (g : α → List β) (h : β → Nat) : ∀ l : List α, ((l.flatMap g).map h).sum = (l.map fun x => ((g x).map h).sum).sum
  | [] => rfl
  | x :: l => by rw [List.flatMap_cons, List.map_append, List.sum_append, sum_flat g h l, List.map_cons, List.sum_cons]
theorem sum_range_succ (g : Nat → Nat) (j : Nat) : ((List.range (j + 1)).map g).sum = ((List.range j).map g).sum + g j := by
  rw [List.range_succ, List.map_append, List.sum_append]; simp
def stF (LS : List (List Stp)) (lt : Nat) (f : Pl → Nat) (P : Pl) : Nat := ((List.range lt).map fun k => f (clP LS P (97 + k))).sum
theorem lvl_sum {LS : List (List Stp)} {lt : Nat} (h2 : lt ≤ 3) (f : Pl → Nat) (m : Nat) : ((lvl lt (m + 1)).map fun w => f (pl LS w)).sum = ((lvl lt m).map fun w => stF LS lt f (pl LS w)).sum := by
  show (((lvl lt m).flatMap fun w => (lets lt).map fun c => w ++ [c]).map fun w => f (pl LS w)).sum = _
  rw [sum_flat]
  refine congrArg List.sum (List.map_congr_left fun w _ => ?_)
  unfold stF
  rw [lets_map h2, List.map_map, List.map_map]
  refine congrArg List.sum (List.map_congr_left fun k _ => ?_)
  show f (pl LS (w ++ [97 + k])) = _
  rw [clP_pl]
abbrev bodyC : VS.Env → Rs := (sSeq (sSet 8 (eCall Mclimbed_places (eCons (eV 1) (eCons (eV 6) (eCons (eV 7) eNil)))))
    (sNSet 5 (eV 8) (eOp2 (opAdd true true) (eNGt 5 (eV 8) (eC (.int 0))) (eNIx 3 (eV 6)))))
section
variable {LS : List (List Stp)} {lt : Nat} {A : Al}
theorem letC (hL : Lok LS) {w : List Nat} {v : Nat} (hv : lkA A (pl LS w) = some v) {B : Al} (I : IvB LS B) {k : Nat} (hk : k < 3) (x0 x2 x4 x8 : Option O) :
    ∃ y8, Nx bodyC [x0, oD (LD LS), x2, oD (kD ni A), x4, nO ni B, oD (plsD (pl LS w)), oD (ni k), x8] [x0, oD (LD LS), x2, oD (kD ni A), x4, nO ni (addA B (clP LS (pl LS w) (97 + k)) v), oD (plsD (pl LS w)), oD (ni k), y8] := by
  have e := places_spec LS hL (pl LS w) (pl_ok LS w) hk
  have hl := I.len hL
  refine ⟨oD (plsD (clP LS (pl LS w) (97 + k))), .seq ((Nx.set (d := plsD (clP LS (pl LS w) (97 + k))) ?_).to rfl) ((nset_A ni (b := (lkA B (clP LS (pl LS w) (97 + k))).getD 0 + v) rfl rfl ?_ I.nd (by omega)).to rfl)⟩
  · simp -implicitDefEqProofs only [eCall_def, eCons_def, eNil_def, eV_def, List.getElem?_cons_zero, List.getElem?_cons_succ, ok_bind, e, noX_ok]
  · have g1 := ngt_A ni (c := [x0, oD (LD LS), x2, oD (kD ni A), x4, nO ni B, oD (plsD (pl LS w)), oD (ni k), oD (plsD (clP LS (pl LS w) (97 + k)))]) (i := 5) (A := B) (P := clP LS (pl LS w) (97 + k)) (gk := eV 8) (ge := eC (.int 0)) (b := 0) (At.own ni rfl) rfl rfl
    have g2 := nix_A ni (c := [x0, oD (LD LS), x2, oD (kD ni A), x4, nO ni B, oD (plsD (pl LS w)), oD (ni k), oD (plsD (clP LS (pl LS w) (97 + k)))]) (i := 3) (A := A) (P := pl LS w) (gk := eV 6) (At.lk ni rfl) rfl hv
    show (eOp2 (opAdd true true) (eNGt 5 (eV 8) (eC (.int 0))) (eNIx 3 (eV 6))) [x0, oD (LD LS), x2, oD (kD ni A), x4, nO ni B, oD (plsD (pl LS w)), oD (ni k), oD (plsD (clP LS (pl LS w) (97 + k)))] = _
    rw [eOp2_def, g1, ok_bind, g2, ok_bind, add_nat, lift_some]
theorem rowC (hL : Lok LS) (h1 : 1 ≤ lt) (h2 : lt ≤ 3) {w : List Nat} {v : Nat} (hv : lkA A (pl LS w) = some v) {B : Al} (I : IvB LS B) (x2 x4 x7 x8 : Option O) :
    ∃ B' y7 y8, Nx (sFor 7 (eItR (eC (.int 0)) (eV 0)) bodyC) [oD (ni lt), oD (LD LS), x2, oD (kD ni A), x4, nO ni B, oD (plsD (pl LS w)), x7, x8] [oD (ni lt), oD (LD LS), x2, oD (kD ni A), x4, nO ni B', oD (plsD (pl LS w)), y7, y8] ∧ IvB LS B' ∧ ∀ f, Sg f B' = Sg f B + v * stF LS lt f (pl LS w) := by
  obtain ⟨c', main, B', y7, y8, rfl, I', hS⟩ := forL_rg 7 bodyC (lt : Int) (fun j c => ∃ B' y7 y8, c = [oD (ni lt), oD (LD LS), x2, oD (kD ni A), x4, nO ni B', oD (plsD (pl LS w)), y7, y8] ∧ IvB LS B' ∧ ∀ f, Sg f B' = Sg f B + v * ((List.range j).map fun k => f (clP LS (pl LS w) (97 + k))).sum) [oD (ni lt), oD (LD LS), x2, oD (kD ni A), x4, nO ni B, oD (plsD (pl LS w)), x7, x8] (by
    rintro j c hj ⟨B', y7, y8, rfl, I', hS⟩
    obtain ⟨z8, hN⟩ := letC hL hv I' (k := j) (by omega) (oD (ni lt)) x2 x4 y8
    refine ⟨_, hN, addA B' (clP LS (pl LS w) (97 + j)) v, oD (ni j), z8, rfl, ?_, fun f => ?_⟩
    · rw [clP_pl]; exact I'.add _ _
    · rw [Sg_add, hS f, sum_range_succ, Nat.mul_add, Nat.add_assoc]) ⟨B, x7, x8, rfl, I, fun f => by simp⟩
  rw [Int.toNat_natCast] at hS
  refine ⟨B', y7, y8, Nx.for ?_ main, I', hS⟩
  simp -implicitDefEqProofs only [eItR_def, eV_def, eC_def, List.getElem?_cons_zero, ok_bind, lift_some, asI_zero, asI_small (i := (lt : Int)) (by omega) (by omega)]
theorem allC (hL : Lok LS) (h1 : 1 ≤ lt) (h2 : lt ≤ 3) (I : IvB LS A) (x2 x4 x6 x7 x8 : Option O) :
    ∃ B y6 y7 y8, Nx (sFor 6 (eItN' (eV 3)) (sFor 7 (eItR (eC (.int 0)) (eV 0)) bodyC)) [oD (ni lt), oD (LD LS), x2, oD (kD ni A), x4, nO ni [], x6, x7, x8] [oD (ni lt), oD (LD LS), x2, oD (kD ni A), x4, nO ni B, y6, y7, y8] ∧ IvB LS B ∧ ∀ f, Sg f B = Sg (stF LS lt f) A := by
  obtain ⟨c', main, B, y6, y7, y8, rfl, I', hS⟩ := forL_ex 6 (sFor 7 (eItR (eC (.int 0)) (eV 0)) bodyC) (fun j c => ∃ B y6 y7 y8, c = [oD (ni lt), oD (LD LS), x2, oD (kD ni A), x4, nO ni B, y6, y7, y8] ∧ IvB LS B ∧ ∀ f, Sg f B = Sg (stF LS lt f) (A.take j)) (ksD A) [oD (ni lt), oD (LD LS), x2, oD (kD ni A), x4, nO ni [], x6, x7, x8] (by
    rintro j d c hd ⟨B, y6, y7, y8, rfl, I', hS⟩
    rw [List.getElem?_map] at hd
    obtain ⟨p, hp, rfl⟩ := Option.map_eq_some_iff.mp hd
    obtain ⟨hj, hjp⟩ := List.getElem?_eq_some_iff.mp hp
    have hmem := List.mem_of_getElem? hp
    obtain ⟨w, hw⟩ := I.re p.1 (List.mem_map.mpr ⟨p, hmem, rfl⟩)
    have hv := lkA_mem I.nd hmem
    rw [hw] at hv ⊢
    obtain ⟨B', z7, z8, hN, I2, hS2⟩ := rowC hL h1 h2 hv I' x2 x4 y7 y8
    refine ⟨_, hN, B', oD (plsD (pl LS w)), z7, z8, rfl, I2, fun f => ?_⟩
    rw [hS2 f, hS f, List.take_succ_eq_append_getElem hj, hjp]
    unfold Sg
    rw [List.map_append, List.sum_append]
    simp [hw]) ⟨[], x6, x7, x8, rfl, ⟨List.nodup_nil, fun P h => nomatch h⟩, fun f => rfl⟩
  rw [List.length_map, List.take_length] at hS
  exact ⟨B, y6, y7, y8, Nx.for rfl main, I', hS⟩
theorem counted_spec (hL : Lok LS) (h1 : 1 ≤ lt) (h2 : lt ≤ 3) (n : Nat) (hn : n ≤ 1000) : ∃ A : Al, Mcounted_places [ni lt, LD LS, ni n] = .ok (kD ni A) ∧ IvB LS A ∧ ∀ f, Sg f A = ((lvl lt n).map fun w => f (pl LS w)).sum := by
  obtain ⟨c', main, A, s3, x4, x5, x6, x7, x8, rfl, h3, I, hS⟩ := forL_rg 4 (sSeq (sSetO 5 eNNew)
    (sSeq (sFzN 3 (sFor 6 (eItN' (eV 3)) (sFor 7 (eItR (eC (.int 0)) (eV 0)) bodyC)))
    (sFzN 5 (sSet 3 (eV 5))))) (n : Int) (fun m c => ∃ A s3 x4 x5 x6 x7 x8, c = [oD (ni lt), oD (LD LS), oD (ni n), s3, x4, x5, x6, x7, x8] ∧ (s3 = nO ni A ∨ s3 = oD (kD ni A)) ∧ IvB LS A ∧ ∀ f, Sg f A = ((lvl lt m).map fun w => f (pl LS w)).sum)
    [oD (ni lt), oD (LD LS), oD (ni n), nO ni [(pl LS [], 1)], none, none, none, none, none] (by
      rintro m c hm ⟨A, s3, x4, x5, x6, x7, x8, rfl, h3, I, hS⟩
      obtain ⟨B, y6, y7, y8, hN, I', hS'⟩ := allC (A := A) hL h1 h2 I (oD (ni n)) (oD (ni m)) x6 x7 x8
      refine ⟨[oD (ni lt), oD (LD LS), oD (ni n), oD (kD ni B), oD (ni m), oD (kD ni B), y6, y7, y8], Nx.seq (c' := [oD (ni lt), oD (LD LS), oD (ni n), s3, oD (ni m), nO ni [], x6, x7, x8]) ((Nx.setO (d := .ndc [] []) rfl).to rfl) (.seq (c' := [oD (ni lt), oD (LD LS), oD (ni n), oD (kD ni A), oD (ni m), nO ni B, y6, y7, y8]) ?_ ?_), B, _, _, _, _, _, _, rfl, .inr rfl, I', fun f => ?_⟩
      · unfold Nx
        rw [fzN_A ni (A := A) (h3.imp (fun h => by rw [h]; rfl) (fun h => by rw [h]; rfl))]
        exact hN
      · unfold Nx
        rw [fzN_A ni (A := B) (.inl rfl)]
        exact (Nx.set (i := 3) (d := kD ni B) rfl).to rfl
      · rw [hS' f, hS, lvl_sum h2])
    ⟨[(pl LS [], 1)], _, _, _, _, _, _, rfl, .inl rfl, ⟨by simp, fun P hP => ⟨[], by simpa using hP⟩⟩, fun f => by simp [Sg, lvl]⟩
  rw [Int.toNat_natCast] at hS
  refine ⟨A, ?_, I, hS⟩
  have hb := begun_spec LS hL
  unfold Mcounted_places Bcounted_places
  refine ret_of ?_
  show Ret _ [oD (ni lt), oD (LD LS), oD (ni n), none, none, none, none, none, none] _
  have hn1 : (eN1 (eCall Mbegun_places (eCons (eV 1) eNil)) (eC (.int 1))) [oD (ni lt), oD (LD LS), oD (ni n), none, none, none, none, none, none] = .ok (.ndc [plsD (pl LS [])] [.v (.int 1)]) := by
    rw [eN1_def]
    have : (eCall Mbegun_places (eCons (eV 1) eNil)) [oD (ni lt), oD (LD LS), oD (ni n), none, none, none, none, none, none] = .ok (plsD (pl LS [])) := by
      simp -implicitDefEqProofs only [eCall_def, eCons_def, eNil_def, eV_def, List.getElem?_cons_zero, List.getElem?_cons_succ, ok_bind, hb, noX_ok]
    rw [this, ok_bind, eC_def, ok_bind, nk_pl]; rfl
  refine .seq ((Nx.setO hn1).to rfl) (.seq (.for (ds := rangeD 0 n) ?_ main) ?_)
  · show (eItR _ _) [oD (ni lt), oD (LD LS), oD (ni n), _, none, none, none, none, none] = _
    simp -implicitDefEqProofs only [eItR_def, eV_def, eC_def, List.getElem?_cons_zero, List.getElem?_cons_succ, ok_bind, lift_some, asI_zero, asI_small (i := (n : Int)) (by omega) (by omega)]
  · unfold Ret
    rw [fzN_A ni (A := A) (h3.imp (fun h => by rw [h]; rfl) (fun h => by rw [h]; rfl))]
    exact Ret.ret (d := kD ni A) rfl
theorem sum_nat (l : List Nat) : (l.map fun x => ((x : Nat) : Int)).sum = ((l.sum : Nat) : Int) := by
  induction l with
  | nil => rfl
  | cons x l ih => rw [List.map_cons, List.sum_cons, ih, List.sum_cons]; omega
/-- on some ladder -/
def onA (LS : List (List Stp)) (w : List Nat) : Bool := LS.any fun l => onB l w
theorem sum_count (p : List Nat → Bool) : ∀ l : List (List Nat), (l.map fun w => if p w then 1 else 0).sum = (l.filter p).length
  | [] => rfl
  | w :: l => by
    rw [List.map_cons, List.sum_cons, sum_count p l, List.filter_cons]
    cases p w <;> simp; omega
theorem count_spec (hL : Lok LS) (h1 : 1 ≤ lt) (h2 : lt ≤ 3) (n : Nat) (hn : n ≤ 1000) : Mcount_on_ladders [ni lt, LD LS, ni n] = .ok (ni ((lvl lt n).filter (onA LS)).length) := by
  obtain ⟨A, e, I, hS⟩ := counted_spec hL h1 h2 n hn
  have hl := I.len hL
  have hlen := List.length_filter_le (fun p : Pl × Nat => !offP p.1) A
  have cm := compL_filterm (tNot' (eTru (eCall Mis_off (eCons (eV 4) eNil)))) (eNIx 3 (eV 4)) 4 [oD (ni lt), oD (LD LS), oD (ni n), oD (kD ni A), none] (fun p : Pl × Nat => plsD p.1) (fun p => !offP p.1) (fun p => ni p.2) A (by
    intro p hp
    obtain ⟨w, hw⟩ := I.re p.1 (List.mem_map.mpr ⟨p, hp, rfl⟩)
    have eo := off_spec p.1 (by rw [hw]; simp [pl]; have := hL.1; omega)
    show (tNot' _) [oD (ni lt), oD (LD LS), oD (ni n), oD (kD ni A), oD (plsD p.1)] = _
    simp -implicitDefEqProofs only [tNot_def, eTru_def, eCall_def, eCons_def, eNil_def, eV_def, List.getElem?_cons_zero, List.getElem?_cons_succ, ok_bind, eo, noX_ok, truD_bl, lift_some]) (by
    intro p hp _
    exact nix_A ni (c := [oD (ni lt), oD (LD LS), oD (ni n), oD (kD ni A), oD (plsD p.1)]) (i := 3) (A := A) (P := p.1) (gk := eV 4) (At.lk ni rfl) rfl (lkA_mem I.nd hp))
  have hs : ((A.filter fun p => !offP p.1).map fun p => p.2).sum = ((lvl lt n).filter (onA LS)).length := by
    have h := hS fun P => if offP P then 0 else 1
    have e1 : Sg (fun P => if offP P then 0 else 1) A = ((A.filter fun p => !offP p.1).map fun p => p.2).sum := by
      unfold Sg
      clear h hS cm hlen hl I e
      induction A with
      | nil => rfl
      | cons p A ih =>
        rw [List.map_cons, List.sum_cons, ih, List.filter_cons]
        cases hq : offP p.1 <;> simp [hq]
    rw [← e1, h, ← sum_count]
    refine congrArg List.sum (List.map_congr_left fun w _ => ?_)
    rw [offP_pl]
    unfold onA
    cases (LS.any fun l => onB l w) <;> rfl
  unfold Mcount_on_ladders Bcount_on_ladders
  refine ret_of ?_
  show Ret _ [oD (ni lt), oD (LD LS), oD (ni n), none, none] _
  refine .seq ((Nx.set (d := kD ni A) ?_).to rfl) (.ret ?_)
  · simp -implicitDefEqProofs only [eCall_def, eCons_def, eNil_def, eV_def, List.getElem?_cons_zero, List.getElem?_cons_succ, ok_bind, e, noX_ok]
  · have es : (eItN' (eV 3)) [oD (ni lt), oD (LD LS), oD (ni n), oD (kD ni A), none] = .ok (A.map fun p => plsD p.1) := rfl
    show (eFn _ _) [oD (ni lt), oD (LD LS), oD (ni n), oD (kD ni A), none] = _
    rw [eFn_def, eCons_def, eLc_def, eLcs_def, es, ok_bind, cm, ok_bind, List.length_map, if_pos (by omega), ok_bind, ok_bind, eNil_def, ok_bind, ok_bind, fSum_lst]
    have : ((A.filter fun p => !offP p.1).map fun p => ni p.2) = ((((A.filter fun p => !offP p.1).map fun p => p.2)).map fun x => ((x : Nat) : Int)).map D.int := by rw [List.map_map, List.map_map]; rfl
    rw [this, asInts_map, Option.map_some, sum_nat, hs]; rfl
end
end GW

namespace GW
open PySem PySem.Spec PyProof.Rows L2 VS
abbrev Wl := List (Pl × List Nat)
structure IvF (LS : List (List Stp)) (lt a : Nat) (A : Wl) : Prop where
  nd : (A.map (·.1)).Nodup
  ok : ∀ p ∈ A, Wd' lt p.2 ∧ p.1 = pl LS p.2
  z : A[0]? = some (pl LS [], [])
  so : A.Pairwise fun p q => num lt p.2 < num lt q.2
  ln : ∀ (i : Nat) (p : Pl × List Nat), A[i]? = some p → p.2.length ≤ i
  cl : ∀ (i : Nat) (p : Pl × List Nat), A[i]? = some p → i < a → ∀ k' < lt, ∃ q ∈ A, q.1 = clP LS p.1 (97 + k') ∧ num lt q.2 ≤ num lt (p.2 ++ [97 + k'])
  of : ∀ (i : Nat) (p : Pl × List Nat), A[i]? = some p → i < a → offP p.1 = false
structure IvK (LS : List (List Stp)) (lt a k : Nat) (p0 : Pl × List Nat) (A : Wl) : Prop extends IvF LS lt a A where
  cur : A[a]? = some p0
  ck : ∀ k' < k, ∃ q ∈ A, q.1 = clP LS p0.1 (97 + k') ∧ num lt q.2 ≤ num lt (p0.2 ++ [97 + k'])
  ub : ∀ q ∈ A, num lt q.2 < num lt p0.2 * lt + k + 1
section
variable {LS : List (List Stp)} {lt a k : Nat} {A : Wl} {p0 : Pl × List Nat}
theorem IvF.len (hL : Lok LS) (I : IvF LS lt a A) : A.length ≤ 216 := by
  have := keys_le hL I.nd fun P hP => by
    obtain ⟨p, hp, rfl⟩ := List.mem_map.mp hP
    exact ⟨p.2, (I.ok p hp).2⟩
  rwa [List.length_map] at this
def stepF (LS : List (List Stp)) (p0 : Pl × List Nat) (k : Nat) (A : Wl) : Wl := if (lkA A (clP LS p0.1 (97 + k))).isSome then A else A ++ [(clP LS p0.1 (97 + k), p0.2 ++ [97 + k])]
theorem IvK.step (h3 : lt ≤ 3) (I : IvK LS lt a k p0 A) (hk : k < lt) : IvK LS lt a (k + 1) p0 (stepF LS p0 k A) := by
  have hal : a < A.length := (List.getElem?_eq_some_iff.mp I.cur).1
  have hp0 := List.mem_of_getElem? I.cur
  obtain ⟨w0, e0⟩ := I.ok p0 hp0
  have hnum : num lt (p0.2 ++ [97 + k]) = num lt p0.2 * lt + k + 1 := by rw [num_app]; omega
  unfold stepF
  cases hl : lkA A (clP LS p0.1 (97 + k)) with
  | some x =>
    rw [if_pos (show (some x).isSome = true from rfl)]
    have hin : clP LS p0.1 (97 + k) ∈ A.map (·.1) := by
      by_cases h : clP LS p0.1 (97 + k) ∈ A.map (·.1)
      · exact h
      · rw [lkA_none.mpr h] at hl; cases hl
    obtain ⟨q, hq, eq⟩ := List.mem_map.mp hin
    refine { I with ck := fun k' hk' => ?_, ub := fun q hq => by have := I.ub q hq; omega }
    by_cases e : k' = k
    · subst e
      exact ⟨q, hq, eq, by have := I.ub q hq; omega⟩
    · exact I.ck k' (by omega)
  | none =>
    rw [if_neg (by simp)]
    have hn := lkA_none.mp hl
    have hmem : ∀ {q : Pl × List Nat}, q ∈ A → q ∈ A ++ [(clP LS p0.1 (97 + k), p0.2 ++ [97 + k])] := fun h => List.mem_append_left _ h
    have hget : ∀ {i : Nat} {p : Pl × List Nat}, (A ++ [(clP LS p0.1 (97 + k), p0.2 ++ [97 + k])])[i]? = some p → i < A.length → A[i]? = some p := fun {i p} h hi => by rwa [List.getElem?_append_left hi] at h
    refine ⟨⟨?_, ?_, ?_, ?_, ?_, ?_, ?_⟩, ?_, ?_, ?_⟩
    · rw [List.map_append]
      exact List.nodup_append.mpr ⟨I.nd, by simp, fun x hx y hy => by rw [List.mem_singleton.mp hy]; exact fun e => hn (by rw [← show x = clP LS p0.1 (97 + k) from e]; exact hx)⟩
    · intro p hp
      rcases List.mem_append.mp hp with h | h
      · exact I.ok p h
      · rw [List.mem_singleton.mp h]
        refine ⟨fun c hc => ?_, by rw [e0, clP_pl]⟩
        rcases List.mem_append.mp hc with z | z
        · exact w0 c z
        · rw [List.mem_singleton.mp z]; omega
    · rw [List.getElem?_append_left (by omega)]; exact I.z
    · rw [List.pairwise_append]
      refine ⟨I.so, List.pairwise_singleton _ _, fun p hp q hq => ?_⟩
      rw [List.mem_singleton.mp hq, hnum]
      exact I.ub p hp
    · intro i p hi
      by_cases h : i < A.length
      · exact I.ln i p (hget hi h)
      · obtain ⟨h1, h2⟩ := List.getElem?_eq_some_iff.mp hi
        rw [List.length_append, List.length_singleton] at h1
        have : i = A.length := by omega
        subst this
        rw [List.getElem?_append_right (Nat.le_refl _), Nat.sub_self] at hi
        cases hi
        have := I.ln a p0 I.cur
        show (p0.2 ++ [97 + k]).length ≤ _
        rw [List.length_append, List.length_singleton]; omega
    · intro i p hi hia k' hk'
      obtain ⟨q, hq, r⟩ := I.cl i p (hget hi (by omega)) hia k' hk'
      exact ⟨q, hmem hq, r⟩
    · intro i p hi hia
      exact I.of i p (hget hi (by omega)) hia
    · rw [List.getElem?_append_left hal]; exact I.cur
    · intro k' hk'
      by_cases e : k' = k
      · subst e
        exact ⟨_, List.mem_append_right _ List.mem_cons_self, rfl, Nat.le_refl _⟩
      · obtain ⟨q, hq, r⟩ := I.ck k' (by omega)
        exact ⟨q, hmem hq, r⟩
    · intro q hq
      rcases List.mem_append.mp hq with h | h
      · have := I.ub q h; omega
      · rw [List.mem_singleton.mp h, hnum]; omega
/-- the bound for the next one -/
def Ub (lt a : Nat) (A : Wl) : Prop := ∀ p0 : Pl × List Nat, A[a]? = some p0 → ∀ q ∈ A, num lt q.2 < num lt p0.2 * lt + 1
theorem IvK.start (I : IvF LS lt a A) (hu : Ub lt a A) (hc : A[a]? = some p0) : IvK LS lt a 0 p0 A :=
  { I with cur := hc, ck := fun k' h => absurd h (Nat.not_lt_zero _), ub := fun q hq => by have := hu p0 hc q hq; omega }
theorem IvK.next (I : IvK LS lt a lt p0 A) (ho : offP p0.1 = false) : IvF LS lt (a + 1) A ∧ Ub lt (a + 1) A := by
  refine ⟨{ I.toIvF with cl := fun i p hi hia k' hk' => ?_, of := fun i p hi hia => ?_ }, fun p1 hp1 q hq => ?_⟩
  · by_cases e : i = a
    · subst e
      rw [I.cur] at hi; cases hi
      exact I.ck k' hk'
    · exact I.cl i p hi (by omega) k' hk'
  · by_cases e : i = a
    · subst e
      rw [I.cur] at hi; cases hi
      exact ho
    · exact I.of i p hi (by omega)
  · have h1 := I.ub q hq
    obtain ⟨ha, ea⟩ := List.getElem?_eq_some_iff.mp I.cur
    obtain ⟨hb, eb⟩ := List.getElem?_eq_some_iff.mp hp1
    have := List.pairwise_iff_getElem.mp I.so a (a + 1) ha hb (by omega)
    rw [ea, eb] at this
    have hm := Nat.mul_le_mul_right lt (show num lt p0.2 + 1 ≤ num lt p1.2 from this)
    rw [Nat.succ_mul] at hm
    omega
/-- every word is behind one that has come -/
theorem IvF.reach (h1 : 1 ≤ lt) (h3 : lt ≤ 3) (I : IvF LS lt a A) : ∀ (n : Nat) (v : List Nat), v.length = n → Wd' lt v →
    (∃ (j : Nat) (p : Pl × List Nat), a ≤ j ∧ A[j]? = some p ∧ num lt p.2 ≤ num lt v) ∨ ∃ (i : Nat) (p : Pl × List Nat), i < a ∧ A[i]? = some p ∧ p.1 = pl LS v ∧ num lt p.2 ≤ num lt v
  | 0, v, hl, hv => by
    rw [List.eq_nil_of_length_eq_zero hl]
    by_cases ha : a = 0
    · exact .inl ⟨0, _, by omega, I.z, Nat.le_refl _⟩
    · exact .inr ⟨0, _, by omega, I.z, rfl, Nat.le_refl _⟩
  | n + 1, v, hl, hv => by
    have hne : v ≠ [] := fun z => by rw [z] at hl; simp at hl
    have hc := hv _ (List.getLast_mem hne)
    have hv' : Wd' lt v.dropLast := fun c hc => hv c (List.dropLast_subset _ hc)
    have ih := I.reach h1 h3 n v.dropLast (by simp [hl]) hv'
    have ev := List.dropLast_concat_getLast hne
    generalize v.getLast hne = c at hc ev
    generalize v.dropLast = u at hv' ih ev
    rw [← ev]
    have hmono : num lt u ≤ num lt (u ++ [c]) := by
      rw [num_app]
      have := Nat.le_mul_of_pos_right (num lt u) h1
      omega
    rcases ih with ⟨j, p, h2, h3', h4⟩ | ⟨i, p, h2, h3', h4, h5⟩
    · exact .inl ⟨j, p, h2, h3', by omega⟩
    · obtain ⟨q, hq, e1, e2⟩ := I.cl i p h3' h2 (c - 97) (by omega)
      rw [Nat.add_sub_cancel' hc.1] at e1 e2
      obtain ⟨i', hi', ei⟩ := List.getElem_of_mem hq
      have hq' : A[i']? = some q := by rw [List.getElem?_eq_getElem hi', ei]
      have hle : num lt q.2 ≤ num lt (u ++ [c]) := by
        rw [num_app] at e2 ⊢
        have := Nat.mul_le_mul_right lt h5
        omega
      by_cases h : i' < a
      · exact .inr ⟨i', q, h, hq', by rw [e1, h4, clP_pl], hle⟩
      · exact .inl ⟨i', q, by omega, hq', hle⟩
theorem IvF.least (h1 : 1 ≤ lt) (h3 : lt ≤ 3) (I : IvF LS lt a A) {v : List Nat} (hv : Wd' lt v) (ho : offP (pl LS v) = true) : ∃ (j : Nat) (p : Pl × List Nat), a ≤ j ∧ A[j]? = some p ∧ num lt p.2 ≤ num lt v := by
  rcases I.reach h1 h3 v.length v rfl hv with h | ⟨i, p, h2, h3', h4, _⟩
  · exact h
  · have := I.of i p h3' h2
    rw [h4, ho] at this; cases this
abbrev qO' (A : Wl) : Option O := some (.lst (A.map fun p => O.v (plsD p.1)))
abbrev bodyF : VS.Env → Rs := (sSeq (sSet 7 (eCall Mclimbed_places (eCons (eV 1) (eCons (eV 5) (eCons (eV 6) eNil)))))
    (sIf (eB (eNIn true 2 (eV 7)))
    (sSeq (sNSet 2 (eV 7) (eOp2 (opAdd true true) (eNIx 2 (eV 5)) (eOp2 (opIx true) (eC (.str [97, 98, 99])) (eV 6))))
    (sApp 3 (eV 7)))
    sNil))
theorem letF (hL : Lok LS) (h3 : lt ≤ 3) (I : IvK LS lt a k p0 A) (hk : k < lt) (x0 x4 x7 : Option O) :
    ∃ y7, Nx bodyF [x0, oD (LD LS), nO D.str A, qO' A, x4, oD (plsD p0.1), oD (ni k), x7] [x0, oD (LD LS), nO D.str (stepF LS p0 k A), qO' (stepF LS p0 k A), x4, oD (plsD p0.1), oD (ni k), y7] := by
  have hp0 := List.mem_of_getElem? I.cur
  obtain ⟨w0, e0⟩ := I.ok p0 hp0
  have e := places_spec LS hL p0.1 (by rw [e0]; exact pl_ok LS _) (k := k) (by omega)
  have hl := I.len hL
  have hlen := I.ln a p0 I.cur
  have hal : a < A.length := (List.getElem?_eq_some_iff.mp I.cur).1
  refine ⟨oD (plsD (clP LS p0.1 (97 + k))), .seq ((Nx.set (d := plsD (clP LS p0.1 (97 + k))) ?_).to rfl) ?_⟩
  · simp -implicitDefEqProofs only [eCall_def, eCons_def, eNil_def, eV_def, List.getElem?_cons_zero, List.getElem?_cons_succ, ok_bind, e, noX_ok]
  · have ht := nin_A D.str (c := [x0, oD (LD LS), nO D.str A, qO' A, x4, oD (plsD p0.1), oD (ni k), oD (plsD (clP LS p0.1 (97 + k)))]) (i := 2) (A := A) (P := clP LS p0.1 (97 + k)) (gk := eV 7) true (At.own D.str rfl) rfl
    unfold stepF
    cases hlk : lkA A (clP LS p0.1 (97 + k)) with
    | some x =>
      rw [hlk] at ht
      rw [if_pos (show (some x).isSome = true from rfl)]
      exact .no (by show (eB _) [x0, oD (LD LS), nO D.str A, qO' A, x4, oD (plsD p0.1), oD (ni k), oD (plsD (clP LS p0.1 (97 + k)))] = _; rw [eB_def, ht]; rfl) .nil
    | none =>
      rw [hlk] at ht
      rw [if_neg (by simp)]
      have hn := lkA_none.mp hlk
      refine .yes (by show (eB _) [x0, oD (LD LS), nO D.str A, qO' A, x4, oD (plsD p0.1), oD (ni k), oD (plsD (clP LS p0.1 (97 + k)))] = _; rw [eB_def, ht]; rfl) (.seq (c' := [x0, oD (LD LS), nO D.str (A ++ [(clP LS p0.1 (97 + k), p0.2 ++ [97 + k])]), qO' A, x4, oD (plsD p0.1), oD (ni k), oD (plsD (clP LS p0.1 (97 + k)))]) ?_ ?_)
      · have g2 := nix_A D.str (c := [x0, oD (LD LS), nO D.str A, qO' A, x4, oD (plsD p0.1), oD (ni k), oD (plsD (clP LS p0.1 (97 + k)))]) (i := 2) (A := A) (P := p0.1) (gk := eV 5) (At.own D.str rfl) rfl (lkA_mem I.nd hp0)
        refine (nset_A D.str (c := [x0, oD (LD LS), nO D.str A, qO' A, x4, oD (plsD p0.1), oD (ni k), oD (plsD (clP LS p0.1 (97 + k)))]) (i := 2) (P := clP LS p0.1 (97 + k)) (b := p0.2 ++ [97 + k]) rfl rfl ?_ I.nd (by omega)).to ?_
        · have ha := abc_at (k := k) (by omega)
          rw [eOp2_def, g2, ok_bind]
          simp -implicitDefEqProofs only [eOp2_def, eV_def, eC_def, List.getElem?_cons_zero, List.getElem?_cons_succ, ok_bind, ha, lift_some]
          rw [opAdd_str, if_pos (by simp; omega)]; rfl
        · rw [putA_new hn]; rfl
      · show sApp 3 (eV 7) [x0, oD (LD LS), nO D.str (A ++ [(clP LS p0.1 (97 + k), p0.2 ++ [97 + k])]), qO' A, x4, oD (plsD p0.1), oD (ni k), oD (plsD (clP LS p0.1 (97 + k)))] = _
        rw [sApp_def]
        show (if (A.map fun p => O.v (plsD p.1)).length < 16777216 then _ else _) = _
        rw [if_pos (by rw [List.length_map]; omega)]
        have hm : (A ++ [(clP LS p0.1 (97 + k), p0.2 ++ [97 + k])]).map (fun p => O.v (plsD p.1)) = (A.map fun p => O.v (plsD p.1)) ++ [O.v (plsD (clP LS p0.1 (97 + k)))] := by rw [List.map_append]; rfl
        show _ = VS.Rs.ok .nx [x0, oD (LD LS), nO D.str (A ++ [(clP LS p0.1 (97 + k), p0.2 ++ [97 + k])]), some (.lst ((A ++ [(clP LS p0.1 (97 + k), p0.2 ++ [97 + k])]).map fun p => O.v (plsD p.1))), x4, oD (plsD p0.1), oD (ni k), oD (plsD (clP LS p0.1 (97 + k)))]
        rw [hm]; rfl
theorem first_spec (hL : Lok LS) (h1 : 1 ≤ lt) (h3 : lt ≤ 3) :
    (∃ w, Mfirst_off [ni lt, LD LS] = .ok (.str w) ∧ Wd' lt w ∧ onA LS w = false ∧ w.length ≤ 216 ∧ ∀ v, Wd' lt v → onA LS v = false → num lt w ≤ num lt v) ∨
    (Mfirst_off [ni lt, LD LS] = .ok .non ∧ ∀ v, Wd' lt v → onA LS v = true) := by
  have onOff : ∀ v, offP (pl LS v) = !(onA LS v) := fun v => offP_pl LS v
  have main := whileL_or (eB (eOp2 (opRel fun i j => decide (i < j)) (eV 4) (eFn (fLen) (eCons (eL 3) eNil)))) (sSeq (sSet 5 (eIxo 3 (eV 4)))
    (sSeq (sIf (eTru (eCall Mis_off (eCons (eV 5) eNil)))
    (sRet (eNIx 2 (eV 5)))
    sNil)
    (sSeq (sFor 6 (eItR (eC (.int 0)) (eV 0)) bodyF)
    (sSet 4 (eOp2 (opAdd true true) (eV 4) (eC (.int 1)))))))
    (fun m c => ∃ A a x5 x6 x7, c = [oD (ni lt), oD (LD LS), nO D.str A, qO' A, oD (ni a), x5, x6, x7] ∧ IvF LS lt a A ∧ Ub lt a A ∧ a ≤ A.length ∧ m + a = 300)
    (fun _ => ∀ v, Wd' lt v → onA LS v = true) (fun d => ∃ w, d = .str w ∧ Wd' lt w ∧ onA LS w = false ∧ w.length ≤ 216 ∧ ∀ v, Wd' lt v → onA LS v = false → num lt w ≤ num lt v) (by
      rintro m c ⟨A, a, x5, x6, x7, rfl, I, hu, hal, hm⟩
      have hlen := I.len hL
      have ht : (eB (eOp2 (opRel fun i j => decide (i < j)) (eV 4) (eFn (fLen) (eCons (eL 3) eNil)))) [oD (ni lt), oD (LD LS), nO D.str A, qO' A, oD (ni a), x5, x6, x7] = .ok (decide (a < A.length)) := by
        simp -implicitDefEqProofs only [eB_def, eOp2_def, eFn_def, eCons_def, eNil_def, eV_def, eL_def, List.getElem?_cons_zero, List.getElem?_cons_succ, ok_bind, toD_lst, fLen_lst, List.length_map, lift_some, opRel_int, asB_bl]
        congr 1
        rw [Bool.eq_iff_iff, decide_eq_true_iff, decide_eq_true_iff]
        omega
      by_cases ha : a < A.length
      · have hget := List.getElem?_eq_getElem ha
        have hi : A[a] ∈ A := List.getElem_mem ha
        generalize A[a] = p0 at hget hi
        obtain ⟨w0, e0⟩ := I.ok p0 hi
        have hat : ixO (.lst (A.map fun p => O.v (plsD p.1))) (ni a) = some (plsD p0.1) := by
          show ixO (.lst _) (.int _) = _
          rw [ixO_lst, atI_ofNat, List.getElem?_map, hget]; rfl
        have s5 : Nx (sSet 5 (eIxo 3 (eV 4))) [oD (ni lt), oD (LD LS), nO D.str A, qO' A, oD (ni a), x5, x6, x7] [oD (ni lt), oD (LD LS), nO D.str A, qO' A, oD (ni a), oD (plsD p0.1), x6, x7] := by
          refine (Nx.set (d := plsD p0.1) ?_).to rfl
          simp -implicitDefEqProofs only [eIxo_def, eV_def, List.getElem?_cons_zero, List.getElem?_cons_succ, ok_bind, hat, lift_some]
        have eo := off_spec p0.1 (by rw [e0]; simp [pl]; have := hL.1; omega)
        have hoff : (eTru (eCall Mis_off (eCons (eV 5) eNil))) [oD (ni lt), oD (LD LS), nO D.str A, qO' A, oD (ni a), oD (plsD p0.1), x6, x7] = .ok (offP p0.1) := by
          simp -implicitDefEqProofs only [eTru_def, eCall_def, eCons_def, eNil_def, eV_def, List.getElem?_cons_zero, List.getElem?_cons_succ, ok_bind, eo, noX_ok, truD_bl, lift_some]
        cases ho : offP p0.1 with
        | true =>
          rw [ho] at hoff
          have g2 := nix_A D.str (c := [oD (ni lt), oD (LD LS), nO D.str A, qO' A, oD (ni a), oD (plsD p0.1), x6, x7]) (i := 2) (A := A) (P := p0.1) (gk := eV 5) (At.own D.str rfl) rfl (lkA_mem I.nd hi)
          refine .inr (.inr ⟨ht.trans (by rw [decide_eq_true ha]), .str p0.2, ⟨p0.2, rfl, w0, ?_, ?_, fun v hv hov => ?_⟩, .seq s5 (.fst (.yes hoff (.ret g2)))⟩)
          · have := onOff p0.2
            rw [← e0, ho] at this
            simpa using this.symm
          · have := I.ln a p0 hget; omega
          · obtain ⟨j, p, hj, hp, hle⟩ := I.least h1 h3 hv (by rw [onOff, hov]; rfl)
            by_cases e : j = a
            · subst e; rw [hget] at hp; cases hp; exact hle
            · obtain ⟨hb, eb⟩ := List.getElem?_eq_some_iff.mp hp
              obtain ⟨ha', ea⟩ := List.getElem?_eq_some_iff.mp hget
              have := List.pairwise_iff_getElem.mp I.so a j ha hb (by omega)
              rw [ea, eb] at this
              omega
        | false =>
          rw [ho] at hoff
          obtain ⟨c', hfor, A', y6, y7, rfl, IK⟩ := forL_rg 6 bodyF (lt : Int) (fun j c => ∃ A' y6 y7, c = [oD (ni lt), oD (LD LS), nO D.str A', qO' A', oD (ni a), oD (plsD p0.1), y6, y7] ∧ IvK LS lt a j p0 A') [oD (ni lt), oD (LD LS), nO D.str A, qO' A, oD (ni a), oD (plsD p0.1), x6, x7] (by
              rintro j c hj ⟨A', y6, y7, rfl, IK⟩
              obtain ⟨z7, hN⟩ := letF hL h3 IK (by omega) (oD (ni lt)) (oD (ni a)) y7
              exact ⟨_, hN, stepF LS p0 j A', oD (ni j), z7, rfl, IK.step h3 (by omega)⟩) ⟨A, x6, x7, rfl, IvK.start I hu hget⟩
          rw [Int.toNat_natCast] at IK
          obtain ⟨I', hu'⟩ := IK.next ho
          have hal' : a < A'.length := (List.getElem?_eq_some_iff.mp IK.cur).1
          refine .inr (.inl ⟨ht.trans (by rw [decide_eq_true ha]), m - 1, _, by omega, .seq s5 (.seq (.no hoff .nil) (.seq (.for (ds := rangeD 0 (lt : Int)) ?_ hfor) ((Nx.set (d := ni (a + 1)) ?_).to rfl))), A', a + 1, _, _, _, rfl, I', hu', hal', by omega⟩)
          · simp -implicitDefEqProofs only [eItR_def, eV_def, eC_def, List.getElem?_cons_zero, ok_bind, lift_some, asI_zero, asI_small (i := (lt : Int)) (by omega) (by omega)]
          · show (eOp2 _ _ _) [oD (ni lt), oD (LD LS), nO D.str A', qO' A', oD (ni a), oD (plsD p0.1), y6, y7] = _
            simp -implicitDefEqProofs only [eOp2_def, eV_def, eC_def, List.getElem?_cons_zero, List.getElem?_cons_succ, ok_bind]
            rw [show opAdd true true (ni a) (.int 1) = _ from add_nat a 1]; rfl
      · refine .inl ⟨ht.trans (by rw [decide_eq_false ha]), fun v hv => ?_⟩
        cases h : onA LS v with
        | true => rfl
        | false =>
          obtain ⟨j, p, hj, hp, _⟩ := I.least h1 h3 hv (by rw [onOff, h]; rfl)
          have := (List.getElem?_eq_some_iff.mp hp).1
          omega)
    wN 300 [oD (ni lt), oD (LD LS), nO D.str [(pl LS [], [])], qO' [(pl LS [], [])], oD (ni 0), none, none, none] (by unfold wN; omega)
    ⟨[(pl LS [], [])], 0, none, none, none, rfl, ⟨by simp, fun p hp => by rw [List.mem_singleton.mp hp]; exact ⟨(fun c hc => nomatch hc), rfl⟩, rfl, List.pairwise_singleton _ _, fun i p hi => by
      cases i with
      | zero => cases hi; simp
      | succ i => simp at hi, fun i p _ h => absurd h (Nat.not_lt_zero _), fun i p _ h => absurd h (Nat.not_lt_zero _)⟩, fun p0 h0 q hq => by rw [List.mem_singleton.mp hq]; show num lt [] < _; simp [num], by simp, by omega⟩
  have hb := begun_spec LS hL
  have hbe : (eCall Mbegun_places (eCons (eV 1) eNil)) [oD (ni lt), oD (LD LS), none, none, none, none, none, none] = .ok (plsD (pl LS [])) := by
    simp -implicitDefEqProofs only [eCall_def, eCons_def, eNil_def, eV_def, List.getElem?_cons_zero, List.getElem?_cons_succ, ok_bind, hb, noX_ok]
  have hn1 : (eN1 (eCall Mbegun_places (eCons (eV 1) eNil)) (eC (.str []))) [oD (ni lt), oD (LD LS), none, none, none, none, none, none] = .ok (.ndc [plsD (pl LS [])] [.v (.str [])]) := by
    rw [eN1_def, hbe, ok_bind, eC_def, ok_bind, nk_pl]; rfl
  have hq1 : (eFnO fLstO (eCons (eCall Mbegun_places (eCons (eV 1) eNil)) eNil)) [oD (ni lt), oD (LD LS), nO D.str [(pl LS [], [])], none, none, none, none, none] = .ok (.lst [.v (plsD (pl LS []))]) := by
    simp -implicitDefEqProofs only [eFnO_def, eCall_def, eCons_def, eNil_def, eV_def, List.getElem?_cons_zero, List.getElem?_cons_succ, ok_bind, hb, noX_ok]
    rfl
  unfold Mfirst_off Bfirst_off
  rcases main with ⟨c', e, hr⟩ | ⟨d, c', ⟨w, rfl, h⟩, e⟩
  · refine .inr ⟨ret_of ?_, hr⟩
    show Ret _ [oD (ni lt), oD (LD LS), none, none, none, none, none, none] _
    exact .seq ((Nx.setO hn1).to rfl) (.seq ((Nx.setO hq1).to rfl) (.seq ((Nx.set (d := ni 0) rfl).to rfl) (.seq (show Nx (whileL _ _ _) _ _ from e) (.ret rfl))))
  · refine .inl ⟨w, ret_of ?_, h⟩
    show Ret _ [oD (ni lt), oD (LD LS), none, none, none, none, none, none] _
    exact .seq ((Nx.setO hn1).to rfl) (.seq ((Nx.setO hq1).to rfl) (.seq ((Nx.set (d := ni 0) rfl).to rfl) (.fst ⟨c', e⟩)))
end
end GW

namespace GW
open PySem PySem.Spec PyProof.Rows L2 VS
def Sk (lt : Nat) (s : Stp) : Prop := (s.1 = true → s.2 < lt) ∧ (s.1 = false → 1 ≤ s.2 ∧ s.2 < 2 ^ lt)
theorem nat_of {x : Int} (h : 0 ≤ x) : ∃ k : Nat, x = k := ⟨x.toNat, (Int.toNat_of_nonneg h).symm⟩
theorem flats_lad (l : List Stp) : D.flats (l.map stD) = true := by
  induction l with
  | nil => simp [D.flats]
  | cons a l ih => rw [List.map_cons, D.flats, ih]; rfl
theorem Lladder_spec {lt : Nat} (ps : List Int) (h1 : 1 ≤ lt) (h2 : lt ≤ 3) (hp : ∀ x ∈ ps, 0 ≤ x) (hl : ps.length ≤ 1000) :
    ∃ l : List Stp, MLladder [.lst (ps.map D.int), .int lt] = .ok (lad l) ∧ l.length = ps.length ∧ ∀ st ∈ l, Sk lt st := by
  obtain ⟨c', e, l, x, rfl, hl1, hl2⟩ := forL_ex 3 (sApp 2 (eOp2 (opIx true) (eFn fLst (eCons (eFn fTup (eCons (eC (.str [109, 97, 121, 98, 101])) (eCons (eOp2 (opMod) (eOp2 (opDiv) (eV 3) (eC (.int 2))) (eV 1)) eNil))) (eCons (eFn fTup (eCons (eC (.str [97, 110, 121])) (eCons (eOp2 (opAdd true true) (eC (.int 1)) (eOp2 (opMod) (eOp2 (opDiv) (eV 3) (eC (.int 2))) (eOp2 (opSub) (eOp2 (opShl) (eC (.int 1)) (eV 1)) (eC (.int 1))))) eNil))) eNil))) (eOp2 (opMod) (eV 3) (eC (.int 2)))))
    (fun j c => ∃ (l : List Stp) (x : Option O), c = [oD (.lst (ps.map D.int)), oD (.int lt), some (.lst (l.map fun s => .v (stD s))), x] ∧ l.length = j ∧ ∀ st ∈ l, Sk lt st) (ps.map D.int) [oD (.lst (ps.map D.int)), oD (.int lt), some (.lst []), none] (by
      rintro j d c hd ⟨l, x, rfl, hl1, hl2⟩
      rw [List.getElem?_map] at hd
      obtain ⟨p, ha, rfl⟩ := Option.map_eq_some_iff.mp hd
      obtain ⟨hj, rfl⟩ := List.getElem?_eq_some_iff.mp ha
      have hp := hp _ (List.getElem_mem hj)
      generalize ps[j] = p at hp ⊢
      have hshl : opShl (.int 1) (.int (lt : Int)) = some (.int ((2 ^ lt : Nat) : Int)) := by
        have : lt = 1 ∨ lt = 2 ∨ lt = 3 := by omega
        rcases this with rfl | rfl | rfl <;> simp [opShl]
      have hM : 2 ≤ 2 ^ lt ∧ 2 ^ lt ≤ 8 := by
        have : lt = 1 ∨ lt = 2 ∨ lt = 3 := by omega
        rcases this with rfl | rfl | rfl <;> simp
      obtain ⟨M, hMe⟩ : ∃ M, (2 ^ lt : Nat) = M := ⟨_, rfl⟩
      rw [hMe] at hshl hM
      have hMe' : 2 ^ lt = M := hMe
      obtain ⟨a, ha⟩ := nat_of (x := p / 2 % lt) (Int.emod_nonneg _ (by omega))
      obtain ⟨b, hb⟩ := nat_of (x := p / 2 % ((M : Int) - 1)) (Int.emod_nonneg _ (by omega))
      have ha2 : p / 2 % lt < lt := Int.emod_lt_of_pos _ (by omega)
      have hb2 : p / 2 % ((M : Int) - 1) < M - 1 := Int.emod_lt_of_pos _ (by omega)
      have hsel : p % 2 = 0 ∨ p % 2 = 1 := by omega
      obtain ⟨st, hst, hv⟩ : ∃ st : Stp, opIx true (.lst [.tup [.str [109, 97, 121, 98, 101], .int (a : Nat)], .tup [.str [97, 110, 121], .int (1 + (b : Int))]]) (.int (p % 2)) = some (stD st) ∧ Sk lt st := by
        rcases hsel with h | h
        · exact ⟨(true, a), by rw [h]; rfl, by simp [Sk]; omega⟩
        · refine ⟨(false, 1 + b), ?_, by simp [Sk]; omega⟩
          rw [h]
          show some _ = some _
          rw [stD, kw]
          simp
      refine ⟨_, ?_, l ++ [st], oD (.int p), rfl, by simp [hl1], ?_⟩
      · simp -implicitDefEqProofs [-opIx_lst, show 0 < lt by omega, ha, hshl, hb, hst, show (0 : Int) < (M : Int) - 1 by omega, show (1 : Int) < (M : Int) by omega, show l.length < 16777216 by omega]
      · intro s hs
        rcases List.mem_append.mp hs with hs | hs
        · exact hl2 s hs
        · rw [List.mem_singleton.mp hs]; exact hv)
    ⟨[], none, by simp, rfl, by simp⟩
  rw [List.length_map] at hl1
  refine ⟨l, ?_, hl1, hl2⟩
  unfold MLladder BLladder
  refine ret_of (.seq (.setO (d := .lst []) (by simp -implicitDefEqProofs)) (.seq (.for (ds := ps.map D.int) (by simp -implicitDefEqProofs) e) (.ret ?_)))
  simp -implicitDefEqProofs [lad, Function.comp_def, flats_lad]

/-! ### where no set takes all letters some word is on none -/
def pot (l : List Stp) : Option Nat → Nat
  | none => 0
  | some a => l.length + 1 - a
theorem onS_some {s : List Stp} {a c b : Nat} (ha : a ≤ s.length) (h : onS s a c = some b) : a ≤ b ∧ b ≤ s.length := by
  unfold onS gs at h
  have F := First_nx (fun s => tk s (c - 97)) s ha
  generalize nx (fun s => tk s (c - 97)) s a = x at F h
  obtain ⟨f1, f2, _⟩ := F
  split at h
  · cases h
    split <;> omega
  · cases h
theorem pot_le {l : List Stp} (w : List Nat) (c : Nat) : pot l ((w ++ [c]).foldlM (onS l) 0) ≤ pot l (w.foldlM (onS l) 0) := by
  rw [fold_app]
  cases e : w.foldlM (onS l) 0 with
  | none => exact Nat.le_refl _
  | some a =>
    have ha := fold_bd l w 0 a (Nat.zero_le _) e
    show pot l (onS l a c) ≤ _
    cases e2 : onS l a c with
    | none => exact Nat.zero_le _
    | some b =>
      have := onS_some ha e2
      show l.length + 1 - b ≤ l.length + 1 - a
      omega
theorem bit_miss {lt m : Nat} (h1 : 1 ≤ lt) (h3 : lt ≤ 3) (hm : m < 2 ^ lt) (hne : m ≠ 2 ^ lt - 1) : ∃ k, k < lt ∧ m.testBit k = false := by
  have : lt = 1 ∨ lt = 2 ∨ lt = 3 := by omega
  rcases this with rfl | rfl | rfl
  · have : m = 0 := by omega
    subst this; exact ⟨0, by omega, rfl⟩
  · have : m = 0 ∨ m = 1 ∨ m = 2 := by omega
    rcases this with rfl | rfl | rfl
    · exact ⟨0, by omega, rfl⟩
    · exact ⟨1, by omega, rfl⟩
    · exact ⟨0, by omega, rfl⟩
  · have : m = 0 ∨ m = 1 ∨ m = 2 ∨ m = 3 ∨ m = 4 ∨ m = 5 ∨ m = 6 := by omega
    rcases this with rfl | rfl | rfl | rfl | rfl | rfl | rfl
    · exact ⟨0, by omega, rfl⟩
    · exact ⟨1, by omega, rfl⟩
    · exact ⟨0, by omega, rfl⟩
    · exact ⟨2, by omega, rfl⟩
    · exact ⟨0, by omega, rfl⟩
    · exact ⟨1, by omega, rfl⟩
    · exact ⟨0, by omega, rfl⟩
theorem pot_lt {lt : Nat} (h1 : 1 ≤ lt) (h3 : lt ≤ 3) {l : List Stp} (hs : ∀ s ∈ l, Sk lt s) (hf : ((false, 2 ^ lt - 1) : Stp) ∉ l) {w : List Nat} (hw : onB l w = true) : ∃ c, 97 ≤ c ∧ c < 97 + lt ∧ pot l ((w ++ [c]).foldlM (onS l) 0) < pot l (w.foldlM (onS l) 0) := by
  unfold onB at hw
  cases e : w.foldlM (onS l) 0 with
  | none => rw [e] at hw; cases hw
  | some a =>
    have ha := fold_bd l w 0 a (Nat.zero_le _) e
    have key : ∃ k, k < lt ∧ ∀ b, onS l a (97 + k) = some b → a < b := by
      have up : ∀ k, (∀ h : a < l.length, tk l[a] k = false ∨ l[a].1 = true) → ∀ b, onS l a (97 + k) = some b → a < b := fun k hk b hb => by
        unfold onS gs at hb
        rw [Nat.add_sub_cancel_left] at hb
        have F := First_nx (fun s => tk s k) l ha
        generalize nx (fun s => tk s k) l a = x at F hb
        obtain ⟨f1, f2, f3, f4⟩ := F
        split at hb
        · rename_i hx
          cases hb
          by_cases e : x = a
          · subst e
            have := f4 hx
            rcases hk hx with h | h
            · simp only [h] at this; cases this
            · rw [mb_eq hx, h]; simp
          · split <;> omega
        · cases hb
      by_cases hal : a < l.length
      · cases hm : l[a].1 with
        | true => exact ⟨0, h1, up 0 fun _ => .inr hm⟩
        | false =>
          obtain ⟨m1, m2⟩ := (hs _ (List.getElem_mem hal)).2 hm
          have hne : l[a].2 ≠ 2 ^ lt - 1 := fun z => hf (by
            have : l[a] = (false, 2 ^ lt - 1) := Prod.ext hm z
            rw [← this]; exact List.getElem_mem hal)
          obtain ⟨k, hk, hb⟩ := bit_miss h1 h3 m2 hne
          exact ⟨k, hk, up k fun _ => .inl (by unfold tk; rw [hm]; simpa using hb)⟩
      · exact ⟨0, h1, up 0 fun h => absurd h hal⟩
    obtain ⟨k, hk, hb⟩ := key
    refine ⟨97 + k, by omega, by omega, ?_⟩
    rw [fold_app, e]
    show pot l (onS l a (97 + k)) < l.length + 1 - a
    cases e2 : onS l a (97 + k) with
    | none => show 0 < _; omega
    | some b =>
      have h1 := hb b e2
      have h2 := onS_some ha e2
      show l.length + 1 - b < _
      omega
def Ph (LS : List (List Stp)) (w : List Nat) : Nat := (LS.map fun l => pot l (w.foldlM (onS l) 0)).sum
theorem sum_le {α : Type} {f g : α → Nat} : ∀ {l : List α}, (∀ x ∈ l, f x ≤ g x) → (l.map f).sum ≤ (l.map g).sum
  | [], _ => Nat.le_refl _
  | x :: l, h => by
    have := sum_le (l := l) fun y hy => h y (List.mem_cons_of_mem _ hy)
    have := h x List.mem_cons_self
    simp only [List.map_cons, List.sum_cons]; omega
theorem sum_lt {α : Type} {f g : α → Nat} {x : α} : ∀ {l : List α}, (∀ y ∈ l, f y ≤ g y) → x ∈ l → f x < g x → (l.map f).sum < (l.map g).sum
  | [], _, h, _ => nomatch h
  | y :: l, h, hx, hlt => by
    have h1 := h y List.mem_cons_self
    have h2 := sum_le (l := l) fun z hz => h z (List.mem_cons_of_mem _ hz)
    simp only [List.map_cons, List.sum_cons]
    rcases List.mem_cons.mp hx with e | e
    · subst e; omega
    · have := sum_lt (l := l) (fun z hz => h z (List.mem_cons_of_mem _ hz)) e hlt
      omega
theorem off_ex {lt : Nat} {LS : List (List Stp)} (h1 : 1 ≤ lt) (h3 : lt ≤ 3) (hs : ∀ l ∈ LS, ∀ s ∈ l, Sk lt s) (hf : ∀ l ∈ LS, ((false, 2 ^ lt - 1) : Stp) ∉ l) : ∀ (n : Nat) (w : List Nat), Wd' lt w → Ph LS w ≤ n → ∃ v, Wd' lt v ∧ onA LS v = false
  | n, w, hw, hn => by
    cases ho : onA LS w with
    | false => exact ⟨w, hw, ho⟩
    | true =>
      obtain ⟨l, hl, hon⟩ := List.any_eq_true.mp ho
      obtain ⟨c, c1, c2, hlt⟩ := pot_lt h1 h3 (hs l hl) (hf l hl) hon
      have hd : Ph LS (w ++ [c]) < Ph LS w := sum_lt (fun y _ => pot_le w c) hl hlt
      cases n with
      | zero => omega
      | succ n =>
        refine off_ex h1 h3 hs hf n (w ++ [c]) (fun d hd => ?_) (by omega)
        rcases List.mem_append.mp hd with z | z
        · exact hw d z
        · rw [List.mem_singleton.mp z]; exact ⟨c1, c2⟩
/-! ### one set -/
theorem bits_cnt {lt b : Nat} (h3 : lt ≤ 3) (hb : b ≤ lt) : ((lets lt).filter fun c => (2 ^ b - 1).testBit (c - 97)).length = b := by
  have h4 : lt = 0 ∨ lt = 1 ∨ lt = 2 ∨ lt = 3 := by omega
  have h5 : b = 0 ∨ b = 1 ∨ b = 2 ∨ b = 3 := by omega
  rcases h4 with rfl | rfl | rfl | rfl <;> rcases h5 with rfl | rfl | rfl | rfl <;> first | omega | rfl
theorem one0 (m c : Nat) : onS [(false, m)] 0 c = if m.testBit (c - 97) then some 0 else none := by
  have ht : tk (false, m) (c - 97) = m.testBit (c - 97) := rfl
  unfold onS gs nx
  simp only [List.drop_zero, List.findIdx_cons, ht]
  cases m.testBit (c - 97) <;> simp [mb]
theorem one_fold (m : Nat) : ∀ w : List Nat, w.foldlM (onS [(false, m)]) 0 = none ∨ w.foldlM (onS [(false, m)]) 0 = some 0
  | [] => .inr rfl
  | c :: w => by
    rw [List.foldlM_cons, one0]
    cases m.testBit (c - 97)
    · exact .inl rfl
    · exact one_fold m w
theorem one_step (m c : Nat) (w : List Nat) : onB [(false, m)] (w ++ [c]) = (onB [(false, m)] w && m.testBit (c - 97)) := by
  unfold onB
  rw [fold_app]
  rcases one_fold m w with e | e
  · rw [e]; rfl
  · rw [e]
    show (onS _ 0 c).isSome = _
    rw [one0]
    cases m.testBit (c - 97) <;> rfl
theorem sum_zero {α : Type} : ∀ l : List α, (l.map fun _ => 0).sum = 0
  | [] => rfl
  | x :: l => by rw [List.map_cons, List.sum_cons, sum_zero l]
theorem sum_cnt {α : Type} (p : α → Bool) : ∀ l : List α, (l.map fun w => if p w then 1 else 0).sum = (l.filter p).length
  | [] => rfl
  | w :: l => by
    rw [List.map_cons, List.sum_cons, sum_cnt p l, List.filter_cons]
    cases p w <;> simp; omega
theorem one_count {lt b : Nat} (h3 : lt ≤ 3) (hb : b ≤ lt) : ∀ n, ((lvl lt n).filter (onA [[(false, 2 ^ b - 1)]])).length = b ^ n
  | 0 => rfl
  | n + 1 => by
    have ih := one_count h3 hb n
    have hA : ∀ w, onA [[(false, 2 ^ b - 1)]] w = onB [(false, 2 ^ b - 1)] w := fun w => by simp [onA]
    rw [← sum_count] at ih ⊢
    show (((lvl lt n).flatMap fun w => (lets lt).map fun c => w ++ [c]).map fun w => if onA [[(false, 2 ^ b - 1)]] w then 1 else 0).sum = _
    rw [sum_flat, Nat.pow_succ, ← ih]
    have : ∀ w, (((lets lt).map fun c => w ++ [c]).map fun w => if onA [[(false, 2 ^ b - 1)]] w then 1 else 0).sum = (if onA [[(false, 2 ^ b - 1)]] w then 1 else 0) * b := fun w => by
      rw [List.map_map]
      have hc := bits_cnt h3 hb
      cases ho : onA [[(false, 2 ^ b - 1)]] w with
      | false =>
        rw [if_neg Bool.false_ne_true, Nat.zero_mul]
        have : (lets lt).map ((fun w => if onA [[(false, 2 ^ b - 1)]] w then 1 else 0) ∘ fun c => w ++ [c]) = (lets lt).map fun _ => 0 := by
          refine List.map_congr_left fun c _ => ?_
          show (if onA [[(false, 2 ^ b - 1)]] (w ++ [c]) then 1 else 0) = 0
          rw [hA, one_step, ← hA, ho]; rfl
        rw [this]; exact sum_zero _
      | true =>
        rw [if_pos rfl, Nat.one_mul]
        have : (lets lt).map ((fun w => if onA [[(false, 2 ^ b - 1)]] w then 1 else 0) ∘ fun c => w ++ [c]) = (lets lt).map fun c => if (2 ^ b - 1).testBit (c - 97) then 1 else 0 := by
          refine List.map_congr_left fun c _ => ?_
          show (if onA [[(false, 2 ^ b - 1)]] (w ++ [c]) then 1 else 0) = _
          rw [hA, one_step, ← hA, ho]; rfl
        rw [this]; exact (sum_cnt (fun c => (2 ^ b - 1).testBit (c - 97)) (lets lt)).trans hc
    rw [show ((lvl lt n).map fun x => (((lets lt).map fun c => x ++ [c]).map fun w => if onA [[(false, 2 ^ b - 1)]] w then 1 else 0).sum) = (lvl lt n).map fun w => (if onA [[(false, 2 ^ b - 1)]] w then 1 else 0) * b from List.map_congr_left fun w _ => this w]
    generalize lvl lt n = L
    induction L with
    | nil => simp
    | cons w L ih2 => rw [List.map_cons, List.sum_cons, List.map_cons, List.sum_cons, ih2, Nat.add_mul]
theorem power_spec (b n : Nat) (hb : b ≤ 1000) (hn : n ≤ 1000) : MLpower [ni b, ni n] = .ok (ni (b ^ n)) := by
  obtain ⟨c', main, x, rfl⟩ := forL_rg 3 (sSet 2 (eOp2 (opMul) (eV 2) (eV 0))) (n : Int) (fun j c => ∃ x, c = [oD (ni b), oD (ni n), oD (ni (b ^ j)), x]) [oD (ni b), oD (ni n), oD (ni 1), none] (by
    rintro j c hj ⟨x, rfl⟩
    refine ⟨[oD (ni b), oD (ni n), oD (ni (b ^ (j + 1))), oD (ni j)], (Nx.set (d := ni (b ^ (j + 1))) ?_).to rfl, _, rfl⟩
    show (eOp2 _ _ _) [oD (ni b), oD (ni n), oD (ni (b ^ j)), oD (ni j)] = _
    simp -implicitDefEqProofs only [eOp2_def, eV_def, List.getElem?_cons_zero, List.getElem?_cons_succ, ok_bind]
    rw [opMul_int, if_pos (.inr ⟨by omega, by omega⟩), Nat.pow_succ]
    rw [lift_some]
    show VS.R.ok (D.int _) = VS.R.ok (D.int _)
    rw [Int.natCast_mul]) ⟨none, rfl⟩
  rw [Int.toNat_natCast] at main
  unfold MLpower BLpower
  refine ret_of ?_
  show Ret _ [oD (ni b), oD (ni n), none, none] _
  refine .seq ((Nx.set (d := ni 1) rfl).to rfl) (.seq (.for (ds := rangeD 0 n) ?_ main) (.ret rfl))
  show (eItR _ _) [oD (ni b), oD (ni n), oD (ni 1), none] = _
  simp -implicitDefEqProofs only [eItR_def, eV_def, eC_def, List.getElem?_cons_zero, List.getElem?_cons_succ, ok_bind, lift_some, asI_zero, asI_small (i := (n : Int)) (by omega) (by omega)]
end GW

namespace GW
open PySem PySem.Spec PyProof.Rows L2 VS
def mL (lt : Nat) : Nat := if lt = 1 then 7 else if lt = 2 then 6 else 4
theorem lwords_spec {lt : Nat} (h1 : 1 ≤ lt) (h2 : lt ≤ 3) : MLwords [ni lt, ni (mL lt)] = .ok (.lst ((upto lt (mL lt)).map .str)) := by
  have : lt = 1 ∨ lt = 2 ∨ lt = 3 := by omega
  rcases this with rfl | rfl | rfl <;> rfl
theorem upto_succ (lt L : Nat) : upto lt (L + 1) = upto lt L ++ lvl lt (L + 1) := by
  unfold upto
  rw [List.range_succ, List.flatMap_append]; simp
theorem upto_len {lt : Nat} (h3 : lt ≤ 3) (m : Nat) : ∀ L, m ≤ L → (upto lt L).filter (fun w => w.length == m) = lvl lt m
  | 0, h => by
    have : m = 0 := by omega
    subst this; rfl
  | L + 1, h => by
    rw [upto_succ, List.filter_append]
    by_cases e : m = L + 1
    · subst e
      rw [List.filter_eq_nil_iff.mpr fun w hw => ?_, List.filter_eq_self.mpr fun w hw => ?_, List.nil_append]
      · rw [beq_iff_eq]; exact ((lvl_mem h3 _ w).mp hw).2
      · rw [beq_iff_eq]; have := ((upto_mem h3).mp hw).2; omega
    · rw [upto_len h3 m L (by omega), List.filter_eq_nil_iff.mpr fun w hw => ?_, List.append_nil]
      rw [beq_iff_eq]; have := ((lvl_mem h3 _ w).mp hw).2; omega
theorem upto_200 {lt : Nat} (h1 : 1 ≤ lt) (h3 : lt ≤ 3) : (upto lt (mL lt)).length ≤ 200 := by
  have : lt = 1 ∨ lt = 2 ∨ lt = 3 := by omega
  rcases this with rfl | rfl | rfl <;> decide
theorem inS_strs (w : List Nat) (hw : ∀ c ∈ w, c < 1000) (l : List (List Nat)) (hl : ∀ w ∈ l, ∀ c ∈ w, c < 1000) : opNotInS (.str w) (.lst (l.map .str)) = some (.bl (!l.contains w)) := by
  have e : ((l.map D.str).any fun z => D.eqv z (.str w)) = l.contains w := by
    rw [List.any_map]
    clear hl
    induction l with
    | nil => rfl
    | cons a l ih =>
      rw [List.any_cons, ih, List.contains_cons]
      simp only [Function.comp_def, eqv_str]
      congr 1
      rw [Bool.eq_iff_iff, beq_iff_eq, beq_iff_eq]
      exact eq_comm
  have hp : ∀ x : List Nat, (∀ c ∈ x, c < 1000) → x.all (· < 0x110000) = true := fun x h => List.all_eq_true.mpr fun c hc => decide_eq_true (by have := h c hc; omega)
  have hs : D.plns 63 (l.map D.str) = true := by
    rw [plns_all, List.all_map]
    exact List.all_eq_true.mpr fun x hx => by
      show D.pln 63 (.str x) = true
      rw [pln_str]; exact hp x (hl x hx)
  unfold opNotInS
  rw [inS, if_pos (by rw [pln_str, hp w hw, pln_lst, hs]; rfl), ← e]
  rfl
theorem full_in (m : Nat) (l : List Stp) : opInS (.tup [.str [97, 110, 121], .int (m : Int)]) (lad l) = some (.bl (decide (((false, m) : Stp) ∈ l))) := by
  have e : ((l.map stD).any fun z => D.eqv z (.tup [.str [97, 110, 121], .int (m : Int)])) = decide (((false, m) : Stp) ∈ l) := by
    rw [List.any_map]
    induction l with
    | nil => rfl
    | cons a l ih =>
      rw [List.any_cons, ih]
      obtain ⟨b, v⟩ := a
      have h1 : ((fun z => D.eqv z (.tup [.str [97, 110, 121], .int (m : Int)])) ∘ stD) (b, v) = (!b && v == m) := by
        show D.eqv (.tup [kw b, .int v]) (.tup [.str [97, 110, 121], .int (m : Int)]) = _
        rw [D.eqv, D.eqvs, D.eqvs, D.eqvs, eqv_int, kw, eqv_str]
        cases b
        · simp only [Bool.false_eq_true, if_false, beq_self_eq_true, Bool.true_and, Bool.not_false, Bool.and_true]
          rw [Bool.eq_iff_iff, beq_iff_eq, beq_iff_eq]; omega
        · rfl
      rw [h1, Bool.eq_iff_iff, Bool.or_eq_true, decide_eq_true_iff, decide_eq_true_iff, List.mem_cons, Bool.and_eq_true, beq_iff_eq, Prod.mk.injEq]
      constructor
      · rintro (⟨a, b⟩ | h)
        · exact .inl ⟨by simpa using a, b.symm⟩
        · exact .inr h
      · rintro (⟨a, b⟩ | h)
        · exact .inl ⟨by rw [← a]; rfl, b.symm⟩
        · exact .inr h
  have hs : D.plns 63 (l.map stD) = true := by
    rw [plns_all, List.all_map]
    exact List.all_eq_true.mpr fun x hx => by
      show D.pln 63 (.tup [kw x.1, .int x.2]) = true
      rw [pln_tup, D.plns, D.plns, D.plns, kw, pln_str, pln_int]
      cases x.1 <;> rfl
  unfold opInS lad
  rw [inS, if_pos (by rw [pln_tup, pln_tup, hs, D.plns, D.plns, D.plns, pln_str, pln_int]; rfl), e]
  rfl
section
variable {lt : Nat} {LS : List (List Stp)}
theorem Wd3 (h3 : lt ≤ 3) {w : List Nat} (hw : Wd' lt w) : Wd' 3 w := fun c hc => by have := hw c hc; omega
/-- how many ladders a word is on -/
theorem onN_of {c : VS.Env} {i : Nat} {w : List Nat} (hL : Lok LS) (h3 : lt ≤ 3) (hc : c[3]? = some (oD (LD LS))) (hi : c[i]? = some (oD (.str w))) (hik : i ≠ 14) (h14 : 14 < c.length) (hw : Wd' lt w) (hl : w.length ≤ 1000) :
    (eB (eOp2 (opRel fun i j => decide (j < i)) (eFn (fLen) (eCons (eLc (eIt true (eV 3)) (eTru (eCall MLon (eCons (eV 14) (eCons (eV i) eNil)))) (eV 14) 14) eNil)) (eC (.int 0)))) c = .ok (onA LS w) := by
  have es : (eIt true (eV 3)) c = .ok (LS.map lad) := by
    rw [eIt_def, eV_of hc, ok_bind, asA_lst, if_pos (okElT _)]; rfl
  have cm := compL_filterm (eTru (eCall MLon (eCons (eV 14) (eCons (eV i) eNil)))) (eV 14) 14 c lad (fun l => onB l w) lad LS (by
    intro l hl'
    have e := Lon_spec l w (by have := hL.2 l hl'; omega) (Wd3 h3 hw) (by omega)
    have v14 := eV_of (c := c.set 14 (oD (lad l))) (i := 14) (by rw [List.getElem?_set_self h14])
    have vi := eV_of (c := c.set 14 (oD (lad l))) (i := i) (by rw [List.getElem?_set_ne (Ne.symm hik)]; exact hi)
    simp -implicitDefEqProofs only [eTru_def, eCall_def, eCons_def, eNil_def, v14, vi, ok_bind, e, noX_ok, truD_bl, lift_some]) (by
    intro l _ _
    exact eV_of (by rw [List.getElem?_set_self h14]))
  have hf := List.length_filter_le (fun l => onB l w) LS
  have := hL.1
  rw [eB_def, eOp2_def, eFn_def, eCons_def, eLc_def, eLcs_def, es, ok_bind, cm, ok_bind, List.length_map, if_pos (by omega), ok_bind, ok_bind, eNil_def, ok_bind, ok_bind, fLen_lst, lift_some, ok_bind, eC_def, ok_bind, opRel_int, lift_some, ok_bind, asB_bl, lift_some, List.length_map]
  refine congrArg VS.R.ok ?_
  unfold onA
  rw [Bool.eq_iff_iff, decide_eq_true_iff, List.any_eq_true]
  constructor
  · intro h
    have : 0 < (LS.filter fun l => onB l w).length := by omega
    obtain ⟨l, hl⟩ := List.exists_mem_of_length_pos this
    exact ⟨l, (List.mem_filter.mp hl).1, (List.mem_filter.mp hl).2⟩
  · rintro ⟨l, h1, h2⟩
    have := List.length_pos_of_mem ((List.mem_filter (p := fun l => onB l w)).mpr ⟨h1, h2⟩)
    omega
theorem filt_words {c : VS.Env} {i k : Nat} {t : VS.Env → VS.R Bool} {p : List Nat → Bool} {l : List (List Nat)} (hl : l.length ≤ 1000) (hi : c[i]? = some (oD (.lst (l.map .str)))) (ht : ∀ w ∈ l, t (c.set k (oD (.str w))) = .ok (p w)) (hk : k < c.length) :
    (eLc (eIt true (eV i)) t (eV k) k) c = .ok (.lst ((l.filter p).map .str)) := by
  have es : (eIt true (eV i)) c = .ok (l.map .str) := by
    rw [eIt_def, eV_of hi, ok_bind, asA_lst, if_pos (okElT _)]; rfl
  have cm := compL_filterm t (eV k) k c D.str p D.str l ht (by
    intro w _ _
    exact eV_of (by rw [List.getElem?_set_self hk]))
  have := List.length_filter_le p l
  rw [eLc_def, eLcs_def, es, ok_bind, cm, ok_bind, List.length_map, if_pos (by omega)]; rfl
theorem same_of {c : VS.Env} {x : D} {g1 g2 : VS.Env → VS.R D} (h1 : g1 c = .ok x) (h2 : g2 c = .ok x) (hs : Sm 63 x) : (eCall MLsame (eCons g1 (eCons g2 eNil))) c = .ok (.bl true) := by
  have hs := Lsame_ok hs
  simp -implicitDefEqProofs only [eCall_def, eCons_def, eNil_def, h1, h2, ok_bind, hs, noX_ok]
theorem not_true {c : VS.Env} {g : VS.Env → VS.R D} (h : g c = .ok (.bl true)) : (tNot' (eTru g)) c = .ok false := by
  rw [tNot_def, eTru_def, h]; rfl
theorem three_of {c : VS.Env} {i j : Nat} {x y z r : D} {g : VS.Env → VS.R D} {M : List D → VS.R D} (hi : c[i]? = some (oD x)) (hg : g c = .ok y) (hj : c[j]? = some (oD z)) (h : M [x, y, z] = .ok r) : (eCall M (eCons (eV i) (eCons g (eCons (eV j) eNil)))) c = .ok r := by
  have v1 := eV_of hi
  have v2 := eV_of hj
  simp -implicitDefEqProofs only [eCall_def, eCons_def, eNil_def, v1, v2, hg, ok_bind, h, noX_ok]
theorem lst_of {c : VS.Env} (h : c[3]? = some (oD (LD LS))) : (eFn (fList true) (eCons (eV 3) eNil)) c = .ok (LD LS) := by
  have v := eV_of h
  simp -implicitDefEqProofs only [eFn_def, eCons_def, eNil_def, v, ok_bind, fList_lst, okEl_t, if_true, lift_some]
end
theorem pkD {p : List Nat} {i : Nat} (h : i < p.length) : opIx true (.lst (p.map ni)) (ni i) = some (ni (p.getD i 0)) := by
  show opIx true (.lst (p.map ni)) (.int (i : Int)) = _
  rw [opIx_lst, atI_ofNat, List.getElem?_map, List.getElem?_eq_getElem h, List.getD_eq_getElem?_getD, List.getElem?_eq_getElem h]; rfl
theorem nat_list {m : Int} : ∀ {l : List Int}, (∀ x ∈ l, 0 ≤ x ∧ x < m) → ∃ p : List Nat, l.map D.int = p.map ni ∧ p.length = l.length
  | [], _ => ⟨[], rfl, rfl⟩
  | x :: l, h => by
    obtain ⟨p, e, hl⟩ := nat_list (l := l) fun y hy => h y (List.mem_cons_of_mem _ hy)
    obtain ⟨k, rfl⟩ := nat_of (h x List.mem_cons_self).1
    exact ⟨k :: p, by rw [List.map_cons, e]; rfl, by simp [hl]⟩
theorem nat_mod (a : Nat) (b : Nat) (h : 0 < b) : opMod (ni a) (.int (b : Int)) = some (ni (a % b)) := by
  rw [opMod_int, if_pos (by omega)]; simp [ni]
theorem nat_div (a : Nat) (b : Nat) (h : 0 < b) (h2 : b < 1000000) : opDiv (ni a) (.int (b : Int)) = some (ni (a / b)) := by
  rw [opDiv_int, if_pos ⟨by omega, by omega⟩]; simp [ni]
theorem ladder_ex (ns : List Int) (k cnt : Nat) {lt : Nat} (h1 : 1 ≤ lt) (h3 : lt ≤ 3) (hc : cnt ≤ 4) : ∃ L l, MLdraws [.lst (ns.map D.int), ni k, ni cnt, .int 720] = .ok L ∧ MLladder [L, ni lt] = .ok (lad l) ∧ l.length ≤ 4 ∧ ∀ s ∈ l, Sk lt s := by
  obtain ⟨ps, e, hl, hx⟩ := Ldraws_spec ns k cnt 720 (by omega) (by omega) (by omega)
  obtain ⟨l, el, ll, ls⟩ := Lladder_spec (lt := lt) ps h1 h3 (fun x hx' => (hx x hx').1) (by omega)
  exact ⟨_, l, e, el, by omega, ls⟩
theorem shl_full {lt : Nat} (h3 : lt ≤ 3) {c : VS.Env} {i : Nat} (hi : c[i]? = some (oD (ni lt))) : (eFn fTup (eCons (eC (.str [97, 110, 121])) (eCons (eOp2 (opSub) (eOp2 (opShl) (eC (.int 1)) (eV i)) (eC (.int 1))) eNil))) c = .ok (stD (false, 2 ^ lt - 1)) := by
  have v := eV_of hi
  have : lt = 0 ∨ lt = 1 ∨ lt = 2 ∨ lt = 3 := by omega
  simp -implicitDefEqProofs only [eFn_def, eCons_def, eNil_def, eOp2_def, eC_def, v, ok_bind]
  rcases this with rfl | rfl | rfl | rfl <;> rfl
end GW

namespace GW
open PySem PySem.Spec PyProof.Rows L2 VS
theorem sm_word {lt : Nat} (h3 : lt ≤ 3) {w : List Nat} (hw : Wd' lt w) : Sm 63 (.str w) :=
  .str w (List.all_eq_true.mpr fun c hc => decide_eq_true (by have := hw c hc; omega))
theorem idx_of {lt : Nat} (h1 : 1 ≤ lt) (h3 : lt ≤ 3) {c : VS.Env} (h : c[2]? = some (oD (ni lt))) (x y z : Nat) : (eOp2 (opIx true) (eFn fLst (eCons (eC (ni x)) (eCons (eC (ni y)) (eCons (eC (ni z)) eNil)))) (eOp2 (opSub) (eV 2) (eC (.int 1)))) c = .ok (ni (if lt = 1 then x else if lt = 2 then y else z)) := by
  have v := eV_of h
  have : lt = 1 ∨ lt = 2 ∨ lt = 3 := by omega
  simp -implicitDefEqProofs only [eFn_def, eCons_def, eNil_def, eOp2_def, eC_def, v, ok_bind]
  rcases this with rfl | rfl | rfl <;> rfl
theorem last_len {lt : Nat} (h1 : 1 ≤ lt) (h3 : lt ≤ 3) : ∃ w, (upto lt (mL lt))[(upto lt (mL lt)).length - 1]? = some w ∧ w.length = mL lt := by
  have : lt = 1 ∨ lt = 2 ∨ lt = 3 := by omega
  rcases this with rfl | rfl | rfl <;> exact ⟨_, rfl, rfl⟩
theorem call3 {c : VS.Env} {x y z r : D} {g1 g2 g3 : VS.Env → VS.R D} {M : List D → VS.R D} (h1 : g1 c = .ok x) (h2 : g2 c = .ok y) (h3 : g3 c = .ok z) (h : M [x, y, z] = .ok r) : (eCall M (eCons g1 (eCons g2 (eCons g3 eNil)))) c = .ok r := by
  simp -implicitDefEqProofs only [eCall_def, eCons_def, eNil_def, h1, h2, h3, ok_bind, h, noX_ok]
theorem call2 {c : VS.Env} {x y r : D} {g1 g2 : VS.Env → VS.R D} {M : List D → VS.R D} (h1 : g1 c = .ok x) (h2 : g2 c = .ok y) (h : M [x, y] = .ok r) : (eCall M (eCons g1 (eCons g2 eNil))) c = .ok r := by
  simp -implicitDefEqProofs only [eCall_def, eCons_def, eNil_def, h1, h2, ok_bind, h, noX_ok]
theorem lst1 {c : VS.Env} {x : D} {g : VS.Env → VS.R D} (h : g c = .ok x) : (eFn fLst (eCons g eNil)) c = .ok (.lst [x]) := by
  rw [eFn_def, eCons_def, h, ok_bind, eNil_def, ok_bind, ok_bind, fLst_def, if_pos (by simp)]; rfl
theorem contains_filt (p : List Nat → Bool) (l : List (List Nat)) {w : List Nat} (hw : w ∈ l) : (!(l.filter p).contains w) = !(p w) := by
  refine congrArg (fun t => !t) ?_
  rw [Bool.eq_iff_iff, List.contains_iff_mem, List.mem_filter]
  exact ⟨fun h => h.2, fun h => ⟨hw, h⟩⟩
theorem law_ok (ns : List Int) : Mlaw [.lst (ns.map D.int)] = .ok (.bl true) := by
  obtain ⟨l0, e0, hl0, hx0⟩ := Ldraws_spec ns 0 6 720 (by omega) (by omega) (by omega)
  obtain ⟨p0, hp0, hpl0⟩ := nat_list hx0
  rw [hp0] at e0
  rw [hl0] at hpl0
  have s : ∀ i, i < 6 → opIx true (.lst (p0.map ni)) (ni i) = some (ni (p0.getD i 0)) := fun i hi => pkD (by omega)
  generalize hlt : 1 + p0.getD 0 0 % 3 = lt
  have h1 : 1 ≤ lt := by omega
  have h3 : lt ≤ 3 := by omega
  have hmL : mL lt ≤ 7 := by unfold mL; split <;> (try split) <;> omega
  obtain ⟨nf, hnf⟩ := Classical.axiomOfChoice fun j => ladder_ex ns (1 + j) (p0.getD (1 + j) 0 % 5) h1 h3 (by omega)
  obtain ⟨nl, hnl⟩ := Classical.axiomOfChoice hnf
  generalize hnj : p0.getD 4 0 % 4 = nj
  have hnj3 : nj ≤ 3 := by omega
  generalize hLS : (List.range nj).map nl = LS
  have hL : Lok LS := by
    refine ⟨by rw [← hLS]; simpa using hnj3, fun l hl => ?_⟩
    rw [← hLS] at hl
    obtain ⟨j, _, rfl⟩ := List.mem_map.mp hl
    exact (hnl j).2.2.1
  have hSk : ∀ l ∈ LS, ∀ s ∈ l, Sk lt s := fun l hl => by
    rw [← hLS] at hl
    obtain ⟨j, _, rfl⟩ := List.mem_map.mp hl
    exact (hnl j).2.2.2
  generalize hm : p0.getD 5 0 % (mL lt + 1) = m
  have hmm : m ≤ mL lt := by have := Nat.mod_lt (p0.getD 5 0) (show 0 < mL lt + 1 by omega); omega
  have hU := upto_200 h1 h3
  have hUok : ∀ w ∈ upto lt (mL lt), Wd' lt w ∧ w.length ≤ mL lt := fun w h => (upto_mem h3).mp h
  have ew := lwords_spec h1 h3
  have ecnt := count_spec hL h1 h3 m (by omega)
  have hdue : (((upto lt (mL lt)).filter (onA LS)).filter fun w => w.length == m).length = ((lvl lt m).filter (onA LS)).length := by
    rw [← upto_len h3 m (mL lt) hmm, List.filter_filter, List.filter_filter]
    refine congrArg List.length (List.filter_congr fun w _ => Bool.and_comm _ _)
  -- one set
  generalize hb : 1 + p0.getD 0 0 / 3 % lt = b
  have hb2 : 1 ≤ b ∧ b ≤ lt := by have := Nat.mod_lt (p0.getD 0 0 / 3) (show 0 < lt by omega); omega
  have eone := count_spec (LS := [[(false, 2 ^ b - 1)]]) (lt := lt) ⟨by simp, fun l hl => by rw [List.mem_singleton.mp hl]; simp⟩ h1 h3 40 (by omega)
  rw [one_count h3 hb2.2 40] at eone
  have epow := power_spec b 40 (by omega) (by omega)
  generalize b ^ 40 = pw at eone epow
  generalize ((lvl lt m).filter (onA LS)).length = due at ecnt hdue
  have hfirst := first_spec hL h1 h3
  have hoffN : ∀ w ∈ upto lt (mL lt), (!((upto lt (mL lt)).filter (onA LS)).contains w) = !(onA LS w) := fun w hw => contains_filt _ _ hw
  have hlast := last_len h1 h3
  have e0 : MLdraws [.lst (ns.map D.int), .int 0, .int 6, .int 720] = .ok (.lst (p0.map ni)) := e0
  generalize hNs : D.lst (ns.map D.int) = Ns at e0 hnl ⊢
  generalize hSh : D.lst (p0.map ni) = Sh at e0 s
  have v1 : (eCall MLdraws (eCons (eV 0) (eCons (eC (.int 0)) (eCons (eC (.int 6)) (eCons (eC (.int 720)) eNil))))) [oD Ns, none, none, none, none, none, none, none, none, none, none, none, none, none, none] = .ok Sh := by
    simp -implicitDefEqProofs only [eCall_def, eCons_def, eNil_def, eV_def, eC_def, List.getElem?_cons_zero, ok_bind, e0, noX_ok]
  have v2 : (eOp2 (opAdd true true) (eC (.int 1)) (eOp2 (opMod) (eOp2 (opIx true) (eV 1) (eC (.int 0))) (eC (.int 3)))) [oD Ns, oD Sh, none, none, none, none, none, none, none, none, none, none, none, none, none] = .ok (ni lt) := by
    simp -implicitDefEqProofs only [eOp2_def, eV_def, eC_def, List.getElem?_cons_zero, List.getElem?_cons_succ, ok_bind]
    rw [show opIx true Sh (.int 0) = _ from s 0 (by omega), lift_some, ok_bind, show opMod (ni (p0.getD 0 0)) (.int 3) = _ from nat_mod _ 3 (by omega), lift_some, ok_bind, show opAdd true true (.int 1) (ni (p0.getD 0 0 % 3)) = _ from add_nat 1 _, hlt, lift_some]
  have v3 : (eLc (eItR (eC (.int 0)) (eOp2 (opMod) (eOp2 (opIx true) (eV 1) (eC (.int 4))) (eC (.int 4)))) tYes' (eCall MLladder (eCons (eCall MLdraws (eCons (eV 0) (eCons (eOp2 (opAdd true true) (eC (.int 1)) (eV 12)) (eCons (eOp2 (opMod) (eOp2 (opIx true) (eV 1) (eOp2 (opAdd true true) (eC (.int 1)) (eV 12))) (eC (.int 5))) (eCons (eC (.int 720)) eNil))))) (eCons (eV 2) eNil))) 12) [oD Ns, oD Sh, oD (ni lt), none, none, none, none, none, none, none, none, none, none, none, none] = .ok (LD LS) := by
    have er : (eItR (eC (.int 0)) (eOp2 (opMod) (eOp2 (opIx true) (eV 1) (eC (.int 4))) (eC (.int 4)))) [oD Ns, oD Sh, oD (ni lt), none, none, none, none, none, none, none, none, none, none, none, none] = .ok ((List.range nj).map ni) := by
      simp -implicitDefEqProofs only [eItR_def, eOp2_def, eV_def, eC_def, List.getElem?_cons_zero, List.getElem?_cons_succ, ok_bind, asI_zero, lift_some]
      rw [show opIx true Sh (.int 4) = _ from s 4 (by omega), lift_some, ok_bind, show opMod (ni (p0.getD 4 0)) (.int 4) = _ from nat_mod _ 4 (by omega), lift_some, ok_bind, hnj, asI_small (i := (nj : Int)) (by omega) (by omega), lift_some, ok_bind, rangeD_nat]
    have cm := compL_mapm (eCall MLladder (eCons (eCall MLdraws (eCons (eV 0) (eCons (eOp2 (opAdd true true) (eC (.int 1)) (eV 12)) (eCons (eOp2 (opMod) (eOp2 (opIx true) (eV 1) (eOp2 (opAdd true true) (eC (.int 1)) (eV 12))) (eC (.int 5))) (eCons (eC (.int 720)) eNil))))) (eCons (eV 2) eNil))) 12 [oD Ns, oD Sh, oD (ni lt), none, none, none, none, none, none, none, none, none, none, none, none] ni (fun j => lad (nl j)) (List.range nj) (fun j hj => by
      have hj := List.mem_range.mp hj
      obtain ⟨d1, d2, _, _⟩ := hnl j
      have d1 : MLdraws [Ns, ni (1 + j), ni (p0.getD (1 + j) 0 % 5), .int 720] = .ok (nf j) := d1
      show (eCall MLladder _) [oD Ns, oD Sh, oD (ni lt), none, none, none, none, none, none, none, none, none, oD (ni j), none, none] = _
      simp -implicitDefEqProofs only [eCall_def, eCons_def, eNil_def, eOp2_def, eV_def, eC_def, List.getElem?_cons_zero, List.getElem?_cons_succ, ok_bind]
      rw [show opAdd true true (.int 1) (ni j) = _ from add_nat 1 j, lift_some, ok_bind, ok_bind, s (1 + j) (by omega), lift_some, ok_bind, show opMod (ni (p0.getD (1 + j) 0)) (.int 5) = _ from nat_mod _ 5 (by omega), lift_some, ok_bind]
      simp -implicitDefEqProofs only [ok_bind, d1, d2, noX_ok])
    rw [eLc_def, eLcs_def, er, ok_bind, cm, ok_bind, List.length_map, List.length_range, if_pos (by omega), ← hLS]
    show VS.R.ok (D.lst _) = .ok (D.lst _)
    rw [List.map_map]; rfl
  have v4 : (eOp2 (opMod) (eOp2 (opIx true) (eV 1) (eC (.int 5))) (eOp2 (opIx true) (eFn fLst (eCons (eC (.int 8)) (eCons (eC (.int 7)) (eCons (eC (.int 5)) eNil)))) (eOp2 (opSub) (eV 2) (eC (.int 1))))) [oD Ns, oD Sh, oD (ni lt), oD (LD LS), none, none, none, none, none, none, none, none, none, none, none] = .ok (ni m) := by
    have hi := idx_of h1 h3 (c := [oD Ns, oD Sh, oD (ni lt), oD (LD LS), none, none, none, none, none, none, none, none, none, none, none]) rfl 8 7 5
    have he : (if lt = 1 then 8 else if lt = 2 then 7 else 5) = mL lt + 1 := by unfold mL; split <;> (try split) <;> rfl
    rw [he] at hi
    rw [eOp2_def, eOp2_def]
    simp -implicitDefEqProofs only [eV_def, eC_def, List.getElem?_cons_zero, List.getElem?_cons_succ, ok_bind]
    rw [show opIx true Sh (.int 5) = _ from s 5 (by omega), lift_some, ok_bind, show (eOp2 (opIx true) (eFn fLst (eCons (eC (.int 8)) (eCons (eC (.int 7)) (eCons (eC (.int 5)) eNil)))) (eOp2 (opSub) (eV 2) (eC (.int 1)))) [oD Ns, oD Sh, oD (ni lt), oD (LD LS), none, none, none, none, none, none, none, none, none, none, none] = _ from hi, ok_bind, show opMod (ni (p0.getD 5 0)) (ni (mL lt + 1)) = _ from nat_mod _ (mL lt + 1) (by omega), hm, lift_some]
  have v5 : (eCall MLwords (eCons (eV 2) (eCons (eOp2 (opIx true) (eFn fLst (eCons (eC (.int 7)) (eCons (eC (.int 6)) (eCons (eC (.int 4)) eNil)))) (eOp2 (opSub) (eV 2) (eC (.int 1)))) eNil))) [oD Ns, oD Sh, oD (ni lt), oD (LD LS), oD (ni m), none, none, none, none, none, none, none, none, none, none] = .ok (.lst ((upto lt (mL lt)).map .str)) := by
    have hi := idx_of h1 h3 (c := [oD Ns, oD Sh, oD (ni lt), oD (LD LS), oD (ni m), none, none, none, none, none, none, none, none, none, none]) rfl 7 6 4
    rw [eCall_def, eCons_def, eCons_def, show (eOp2 (opIx true) (eFn fLst (eCons (eC (.int 7)) (eCons (eC (.int 6)) (eCons (eC (.int 4)) eNil)))) (eOp2 (opSub) (eV 2) (eC (.int 1)))) [oD Ns, oD Sh, oD (ni lt), oD (LD LS), oD (ni m), none, none, none, none, none, none, none, none, none, none] = _ from hi]
    simp -implicitDefEqProofs only [eNil_def, eV_def, List.getElem?_cons_zero, List.getElem?_cons_succ, ok_bind]
    show noX (MLwords [ni lt, ni (mL lt)]) = _
    rw [ew]; rfl
  generalize hUU : upto lt (mL lt) = U at *
  have v6 := filt_words (c := [oD Ns, oD Sh, oD (ni lt), oD (LD LS), oD (ni m), oD (.lst (U.map .str)), none, none, none, none, none, none, none, none, none]) (i := 5) (k := 13) (l := U) (p := onA LS) (t := eB (eOp2 (opRel fun i j => decide (j < i)) (eFn (fLen) (eCons (eLc (eIt true (eV 3)) (eTru (eCall MLon (eCons (eV 14) (eCons (eV 13) eNil)))) (eV 14) 14) eNil)) (eC (.int 0)))) (by omega) rfl (fun w hw => onN_of (c := [oD Ns, oD Sh, oD (ni lt), oD (LD LS), oD (ni m), oD (.lst (U.map .str)), none, none, none, none, none, none, none, oD (.str w), none]) (i := 13) hL h3 rfl rfl (by decide) (Nat.lt_of_sub_pos (by simp)) (hUok w hw).1 (by have := (hUok w hw).2; omega)) (Nat.lt_of_sub_pos (by simp))
  have honl := List.length_filter_le (onA LS) U
  generalize hON : U.filter (onA LS) = On at *
  have hOnU : ∀ w ∈ On, w ∈ U := fun w hw => by rw [← hON] at hw; exact (List.mem_filter.mp hw).1
  have v7 : (eFn (fLen) (eCons (eLc (eIt true (eV 6)) (eB (eOp2 (opEq) (eFn (fLen) (eCons (eV 13) eNil)) (eV 4))) (eV 13) 13) eNil)) [oD Ns, oD Sh, oD (ni lt), oD (LD LS), oD (ni m), oD (.lst (U.map .str)), oD (.lst (On.map .str)), none, none, none, none, none, none, none, none] = .ok (ni due) := by
    have hf := filt_words (c := [oD Ns, oD Sh, oD (ni lt), oD (LD LS), oD (ni m), oD (.lst (U.map .str)), oD (.lst (On.map .str)), none, none, none, none, none, none, none, none]) (i := 6) (k := 13) (l := On) (p := fun w => w.length == m) (t := eB (eOp2 (opEq) (eFn (fLen) (eCons (eV 13) eNil)) (eV 4))) (by omega) rfl (fun w hw => by
      have hl := (hUok w (hOnU w hw)).2
      show (eB _) [oD Ns, oD Sh, oD (ni lt), oD (LD LS), oD (ni m), oD (.lst (U.map .str)), oD (.lst (On.map .str)), none, none, none, none, none, none, oD (.str w), none] = _
      simp -implicitDefEqProofs only [eB_def, eOp2_def, eFn_def, eCons_def, eNil_def, eV_def, List.getElem?_cons_zero, List.getElem?_cons_succ, ok_bind, fLen_str]
      rw [if_pos (by omega), lift_some, ok_bind, opEq_int, lift_some, ok_bind, asB_bl]
      exact congrArg VS.R.ok (by rw [Bool.eq_iff_iff, beq_iff_eq, beq_iff_eq]; omega)) (Nat.lt_of_sub_pos (by simp))
    rw [eFn_def, eCons_def, hf, ok_bind, eNil_def, ok_bind, ok_bind, fLen_lst, List.length_map, hdue, lift_some]
  -- what is told first
  have v9 : ∀ T : D, (eLc (eIt true (eV 5)) (eB (eOp2 (opNotInS) (eV 13) (eV 6))) (eV 13) 13) [oD Ns, oD Sh, oD (ni lt), oD (LD LS), oD (ni m), oD (.lst (U.map .str)), oD (.lst (On.map .str)), oD (ni due), oD T, none, none, none, none, none, none] = .ok (.lst ((U.filter fun w => !(onA LS w)).map .str)) := fun T =>
    filt_words (c := [oD Ns, oD Sh, oD (ni lt), oD (LD LS), oD (ni m), oD (.lst (U.map .str)), oD (.lst (On.map .str)), oD (ni due), oD T, none, none, none, none, none, none]) (i := 5) (k := 13) (l := U) (p := fun w => !(onA LS w)) (t := eB (eOp2 (opNotInS) (eV 13) (eV 6))) (by omega) rfl (fun w hw => by
      have hlt : ∀ x ∈ U, ∀ c ∈ x, c < 1000 := fun x hx c hc => by have := (hUok x hx).1 c hc; omega
      have hn := inS_strs w (hlt w hw) On (fun x hx => hlt x (hOnU x hx))
      rw [hoffN w hw] at hn
      show (eB _) [oD Ns, oD Sh, oD (ni lt), oD (LD LS), oD (ni m), oD (.lst (U.map .str)), oD (.lst (On.map .str)), oD (ni due), oD T, none, none, none, none, oD (.str w), none] = _
      simp -implicitDefEqProofs only [eB_def, eOp2_def, eV_def, List.getElem?_cons_zero, List.getElem?_cons_succ, ok_bind, hn, lift_some, asB_bl]) (Nat.lt_of_sub_pos (by simp))
  have hofl := List.length_filter_le (fun w => !(onA LS w)) U
  have hoff_mem : ∀ v, v ∈ U.filter (fun w => !(onA LS w)) ↔ v ∈ U ∧ onA LS v = false := fun v => by
    rw [List.mem_filter]; simp
  have hsorted : (U.filter fun w => !(onA LS w)).Pairwise fun u v => num lt u < num lt v := by
    rw [← hUU]; exact (upto_sorted h1 h3).filter _
  have hUmem : ∀ v, v ∈ U ↔ Wd' lt v ∧ v.length ≤ mL lt := fun v => by rw [← hUU]; exact upto_mem h3
  generalize hOFF : U.filter (fun w => !(onA LS w)) = Off at *
  -- the end
  have fin : ∀ T x9 x10 x11 : D, x10 = ni b → x11 = .tup [stD (false, 2 ^ b - 1)] → (eCall MLsame (eCons (eCall Mcount_on_ladders (eCons (eV 2) (eCons (eFn fLst (eCons (eV 11) eNil)) (eCons (eC (.int 40)) eNil)))) (eCons (eCall MLpower (eCons (eV 10) (eCons (eC (.int 40)) eNil))) eNil))) [oD Ns, oD Sh, oD (ni lt), oD (LD LS), oD (ni m), oD (.lst (U.map .str)), oD (.lst (On.map .str)), oD (ni due), oD T, oD x9, oD x10, oD x11, none, none, none] = .ok (.bl true) := by
    rintro T x9 x10 x11 rfl rfl
    exact same_of (x := ni pw) (call3 (eV_of rfl) (lst1 (eV_of rfl)) (eC_def _ _) eone) (call2 (eV_of rfl) (eC_def _ _) epow) (.int _)
  have v10 : ∀ T x9 : D, (eOp2 (opAdd true true) (eC (.int 1)) (eOp2 (opMod) (eOp2 (opDiv) (eOp2 (opIx true) (eV 1) (eC (.int 0))) (eC (.int 3))) (eV 2))) [oD Ns, oD Sh, oD (ni lt), oD (LD LS), oD (ni m), oD (.lst (U.map .str)), oD (.lst (On.map .str)), oD (ni due), oD T, oD x9, none, none, none, none, none] = .ok (ni b) := fun T x9 => by
    simp -implicitDefEqProofs only [eOp2_def, eV_def, eC_def, List.getElem?_cons_zero, List.getElem?_cons_succ, ok_bind]
    rw [show opIx true Sh (.int 0) = _ from s 0 (by omega), lift_some, ok_bind, show opDiv (ni (p0.getD 0 0)) (.int 3) = _ from nat_div _ 3 (by omega) (by omega), lift_some, ok_bind, show opMod (ni (p0.getD 0 0 / 3)) (ni lt) = _ from nat_mod _ lt (by omega), lift_some, ok_bind, show opAdd true true (.int 1) (ni (p0.getD 0 0 / 3 % lt)) = _ from add_nat 1 _, hb, lift_some]
  have v11 : ∀ T x9 : D, (eFn fTup (eCons (eFn fTup (eCons (eC (.str [97, 110, 121])) (eCons (eOp2 (opSub) (eOp2 (opShl) (eC (.int 1)) (eV 10)) (eC (.int 1))) eNil))) eNil)) [oD Ns, oD Sh, oD (ni lt), oD (LD LS), oD (ni m), oD (.lst (U.map .str)), oD (.lst (On.map .str)), oD (ni due), oD T, oD x9, oD (ni b), none, none, none, none] = .ok (.tup [stD (false, 2 ^ b - 1)]) := fun T x9 => by
    have := shl_full (lt := b) (by omega) (c := [oD Ns, oD Sh, oD (ni lt), oD (LD LS), oD (ni m), oD (.lst (U.map .str)), oD (.lst (On.map .str)), oD (ni due), oD T, oD x9, oD (ni b), none, none, none, none]) (i := 10) rfl
    rw [eFn_def, eCons_def, this]; rfl
  have tail : ∀ T x9 : D, Ret (sSeq (sSet 10 (eOp2 (opAdd true true) (eC (.int 1)) (eOp2 (opMod) (eOp2 (opDiv) (eOp2 (opIx true) (eV 1) (eC (.int 0))) (eC (.int 3))) (eV 2))))
      (sSeq (sSet 11 (eFn fTup (eCons (eFn fTup (eCons (eC (.str [97, 110, 121])) (eCons (eOp2 (opSub) (eOp2 (opShl) (eC (.int 1)) (eV 10)) (eC (.int 1))) eNil))) eNil)))
      (sRet (eCall MLsame (eCons (eCall Mcount_on_ladders (eCons (eV 2) (eCons (eFn fLst (eCons (eV 11) eNil)) (eCons (eC (.int 40)) eNil)))) (eCons (eCall MLpower (eCons (eV 10) (eCons (eC (.int 40)) eNil))) eNil)))))) [oD Ns, oD Sh, oD (ni lt), oD (LD LS), oD (ni m), oD (.lst (U.map .str)), oD (.lst (On.map .str)), oD (ni due), oD T, oD x9, none, none, none, none, none] (.bl true) := fun T x9 =>
    .seq ((Nx.set (v10 T x9)).to rfl) (.seq ((Nx.set (v11 T x9)).to rfl) (.ret (fin T x9 _ _ rfl rfl)))
  have hpos : ∀ T : D, (eB (eOp2 (opRel fun i j => decide (j < i)) (eFn (fLen) (eCons (eV 9) eNil)) (eC (.int 0)))) [oD Ns, oD Sh, oD (ni lt), oD (LD LS), oD (ni m), oD (.lst (U.map .str)), oD (.lst (On.map .str)), oD (ni due), oD T, oD (.lst (Off.map .str)), none, none, none, none, none] = .ok (decide (0 < Off.length)) := fun T => by
    simp -implicitDefEqProofs only [eB_def, eOp2_def, eFn_def, eCons_def, eNil_def, eV_def, eC_def, List.getElem?_cons_zero, List.getElem?_cons_succ, ok_bind, fLen_lst, List.length_map, lift_some, opRel_int, asB_bl]
    exact congrArg VS.R.ok (by rw [Bool.eq_iff_iff, decide_eq_true_iff, decide_eq_true_iff]; omega)
  -- told
  obtain ⟨T, eT, hT⟩ : ∃ T, Mfirst_off [ni lt, LD LS] = .ok T ∧ ((∃ w, T = .str w ∧ Wd' lt w ∧ onA LS w = false ∧ w.length ≤ 216 ∧ ∀ v, Wd' lt v → onA LS v = false → num lt w ≤ num lt v) ∨ (T = .non ∧ ∀ v, Wd' lt v → onA LS v = true)) := by
    rcases hfirst with ⟨w, e, h⟩ | ⟨e, h⟩
    · exact ⟨_, e, .inl ⟨w, rfl, h⟩⟩
    · exact ⟨_, e, .inr ⟨rfl, h⟩⟩
  have v8 : (eCall Mfirst_off (eCons (eV 2) (eCons (eFn (fList true) (eCons (eV 3) eNil)) eNil))) [oD Ns, oD Sh, oD (ni lt), oD (LD LS), oD (ni m), oD (.lst (U.map .str)), oD (.lst (On.map .str)), oD (ni due), none, none, none, none, none, none, none] = .ok T := by
    have hl := lst_of (LS := LS) (c := [oD Ns, oD Sh, oD (ni lt), oD (LD LS), oD (ni m), oD (.lst (U.map .str)), oD (.lst (On.map .str)), oD (ni due), none, none, none, none, none, none, none]) rfl
    rw [eCall_def, eCons_def, eCons_def, hl]
    simp -implicitDefEqProofs only [eNil_def, eV_def, List.getElem?_cons_zero, List.getElem?_cons_succ, ok_bind, eT, noX_ok]
  unfold Mlaw Blaw
  refine ret_of ?_
  show Ret _ [oD Ns, none, none, none, none, none, none, none, none, none, none, none, none, none, none] _
  refine .seq ((Nx.set v1).to rfl) (.seq ((Nx.set v2).to rfl) (.seq ((Nx.set v3).to rfl) (.seq ((Nx.set v4).to rfl) (.seq ((Nx.set v5).to rfl) (.seq ((Nx.set v6).to rfl) (.seq ((Nx.set v7).to rfl) ?_))))))
  refine .seq (.no (not_true (same_of (three_of rfl (lst_of rfl) rfl ecnt) (eV_of rfl) (.int _))) .nil) (.seq ((Nx.set v8).to rfl) (.seq ((Nx.set (v9 T)).to rfl) ?_))
  refine .seq (c' := [oD Ns, oD Sh, oD (ni lt), oD (LD LS), oD (ni m), oD (.lst (U.map .str)), oD (.lst (On.map .str)), oD (ni due), oD T, oD (.lst (Off.map .str)), none, none, none, none, none]) ?_ (tail T _)
  have hp := hpos T
  by_cases h0 : 0 < Off.length
  · rw [decide_eq_true h0] at hp
    obtain ⟨h, hh⟩ : ∃ h, Off[0]? = some h := ⟨Off[0], List.getElem?_eq_getElem h0⟩
    have hmem := List.mem_of_getElem? hh
    obtain ⟨hU1, hof⟩ := (hoff_mem h).mp hmem
    obtain ⟨hw1, hl1⟩ := (hUmem h).mp hU1
    have hTh : T = .str h := by
      rcases hT with ⟨w, rfl, ww, wo, _, wm⟩ | ⟨_, hall⟩
      · have n1 := wm h hw1 hof
        have hwU : w ∈ Off := (hoff_mem w).mpr ⟨(hUmem w).mpr ⟨ww, Nat.le_trans (num_len h1 ww hw1 n1) hl1⟩, wo⟩
        have n2 : num lt h ≤ num lt w := by
          obtain ⟨i, hi, ei⟩ := List.getElem_of_mem hwU
          by_cases e : i = 0
          · subst e
            rw [List.getElem?_eq_getElem hi, ei] at hh
            cases hh; exact Nat.le_refl _
          · have := List.pairwise_iff_getElem.mp hsorted 0 i h0 hi (by omega)
            rw [List.getElem?_eq_getElem h0] at hh
            rw [ei, Option.some.inj hh] at this
            omega
        rw [num_inj h1 _ w h rfl ww hw1 (by omega)]
      · rw [hall h hw1] at hof; cases hof
    refine .yes hp (.no (not_true (same_of (x := .str h) ?_ ?_ (sm_word h3 hw1))) .nil)
    · rw [hTh]; exact eV_of rfl
    · show (eOp2 _ _ _) [oD Ns, oD Sh, oD (ni lt), oD (LD LS), oD (ni m), oD (.lst (U.map .str)), oD (.lst (On.map .str)), oD (ni due), oD T, oD (.lst (Off.map .str)), none, none, none, none, none] = _
      have hi : opIx true (.lst (Off.map .str)) (.int 0) = some (.str h) := by
        show opIx true (.lst (Off.map .str)) (.int ((0 : Nat) : Int)) = _
        rw [opIx_lst, atI_ofNat, List.getElem?_map, hh]; rfl
      simp -implicitDefEqProofs only [eOp2_def, eV_def, eC_def, List.getElem?_cons_zero, List.getElem?_cons_succ, ok_bind, hi, lift_some]
  · rw [decide_eq_false h0] at hp
    have hnone : Off = [] := List.eq_nil_of_length_eq_zero (by omega)
    refine .no hp ?_
    rcases hT with ⟨w, rfl, ww, wo, wl, wm⟩ | ⟨rfl, hall⟩
    · have hlong : mL lt < w.length := by
        rcases Nat.lt_or_ge (mL lt) w.length with z | z
        · exact z
        · have : w ∈ Off := (hoff_mem w).mpr ⟨(hUmem w).mpr ⟨ww, z⟩, wo⟩
          rw [hnone] at this; cases this
      refine .yes rfl (.seq (.no ?_ .nil) (.no ?_ .nil))
      · show (tOr' _ _) [oD Ns, oD Sh, oD (ni lt), oD (LD LS), oD (ni m), oD (.lst (U.map .str)), oD (.lst (On.map .str)), oD (ni due), oD (.str w), oD (.lst (Off.map .str)), none, none, none, none, none] = _
        obtain ⟨z, hz, hzl⟩ := hlast
        have hUp : 0 < U.length := by
          have := (List.getElem?_eq_some_iff.mp hz).1
          omega
        have hsub : opSub (.int (U.length : Int)) (.int 1) = some (ni (U.length - 1)) := by
          rw [opSub_int]
          exact congrArg (fun x => some (D.int x)) (by omega)
        have hi : opIx true (.lst (U.map .str)) (ni (U.length - 1)) = some (.str z) := by
          show opIx true (.lst (U.map .str)) (.int ((U.length - 1 : Nat) : Int)) = _
          rw [opIx_lst, atI_ofNat, List.getElem?_map, hz]; rfl
        have his : isI .str (.str w) = some true := rfl
        have f1 : fLen [.str w] = some (ni w.length) := by rw [fLen_str, if_pos (by omega)]
        have f2 : fLen [.str z] = some (ni (mL lt)) := by rw [fLen_str, if_pos (by omega), hzl]
        simp -implicitDefEqProofs only [tOr_def, tNot_def, eTru_def, eIs_def, eB_def, eOp2_def, eFn_def, eCons_def, eNil_def, eV_def, eC_def, List.getElem?_cons_zero, List.getElem?_cons_succ, ok_bind, his, Option.map_some, lift_some, truD_bl, Bool.not_true, Bool.false_eq_true, if_false, fLen_lst, List.length_map, hsub, hi, f1, f2, opRel_int, asB_bl]
        exact congrArg VS.R.ok (decide_eq_false (by omega))
      · have := onN_of (LS := LS) (c := [oD Ns, oD Sh, oD (ni lt), oD (LD LS), oD (ni m), oD (.lst (U.map .str)), oD (.lst (On.map .str)), oD (ni due), oD (.str w), oD (.lst (Off.map .str)), none, none, none, none, none]) (i := 8) hL h3 rfl rfl (by decide) (Nat.lt_of_sub_pos (by simp)) ww (by omega)
        rw [wo] at this
        exact this
    · refine .no rfl (.no ?_ .nil)
      have hex : ∃ l ∈ LS, ((false, 2 ^ lt - 1) : Stp) ∈ l := by
        by_cases hc : ∃ l ∈ LS, ((false, 2 ^ lt - 1) : Stp) ∈ l
        · exact hc
        · obtain ⟨v, hv, ho⟩ := off_ex h1 h3 hSk (fun l hl hin => hc ⟨l, hl, hin⟩) _ [] (fun c hc => nomatch hc) (Nat.le_refl _)
          rw [hall v hv] at ho; cases ho
      show (eB _) [oD Ns, oD Sh, oD (ni lt), oD (LD LS), oD (ni m), oD (.lst (U.map .str)), oD (.lst (On.map .str)), oD (ni due), oD .non, oD (.lst (Off.map .str)), none, none, none, none, none] = _
      have es : (eIt true (eV 3)) [oD Ns, oD Sh, oD (ni lt), oD (LD LS), oD (ni m), oD (.lst (U.map .str)), oD (.lst (On.map .str)), oD (ni due), oD .non, oD (.lst (Off.map .str)), none, none, none, none, none] = .ok (LS.map lad) := by
        show lift (asA true (.lst _)) = _
        rw [asA_lst, if_pos (okElT _)]; rfl
      have cm := compL_filterm (eB (eOp2 (opInS) (eFn fTup (eCons (eC (.str [97, 110, 121])) (eCons (eOp2 (opSub) (eOp2 (opShl) (eC (.int 1)) (eV 2)) (eC (.int 1))) eNil))) (eV 14))) (eV 14) 14 [oD Ns, oD Sh, oD (ni lt), oD (LD LS), oD (ni m), oD (.lst (U.map .str)), oD (.lst (On.map .str)), oD (ni due), oD .non, oD (.lst (Off.map .str)), none, none, none, none, none] lad (fun l => decide (((false, 2 ^ lt - 1) : Stp) ∈ l)) lad LS (by
        intro l _
        have hf := full_in (2 ^ lt - 1) l
        have hsf := shl_full h3 (c := [oD Ns, oD Sh, oD (ni lt), oD (LD LS), oD (ni m), oD (.lst (U.map .str)), oD (.lst (On.map .str)), oD (ni due), oD .non, oD (.lst (Off.map .str)), none, none, none, none, oD (lad l)]) (i := 2) rfl
        show (eB _) [oD Ns, oD Sh, oD (ni lt), oD (LD LS), oD (ni m), oD (.lst (U.map .str)), oD (.lst (On.map .str)), oD (ni due), oD .non, oD (.lst (Off.map .str)), none, none, none, none, oD (lad l)] = _
        rw [eB_def, eOp2_def, hsf]
        simp -implicitDefEqProofs only [eV_def, List.getElem?_cons_zero, List.getElem?_cons_succ, ok_bind]
        rw [show opInS (stD (false, 2 ^ lt - 1)) (lad l) = _ from hf, lift_some, ok_bind, asB_bl, lift_some]) (by intro l _ _; rfl)
      have hfl := List.length_filter_le (fun l => decide (((false, 2 ^ lt - 1) : Stp) ∈ l)) LS
      have hL1 := hL.1
      rw [eB_def, eOp2_def, eFn_def, eCons_def, eLc_def, eLcs_def, es, ok_bind, cm, ok_bind, List.length_map, if_pos (by omega), ok_bind, ok_bind, eNil_def, ok_bind, ok_bind, fLen_lst, lift_some, ok_bind, eC_def, ok_bind, opEq_int, lift_some, ok_bind, asB_bl, lift_some, List.length_map]
      refine congrArg VS.R.ok ?_
      obtain ⟨l, hl, hin⟩ := hex
      have := List.length_pos_of_mem ((List.mem_filter (p := fun l => decide (((false, 2 ^ lt - 1) : Stp) ∈ l))).mpr ⟨hl, decide_eq_true hin⟩)
      rw [beq_eq_false_iff_ne]; omega
end GW

set_option maxHeartbeats 8000000
/-! the walk of law_k47_words_on_ladders_counted, printed by vsgen.py -/
namespace GW
open PySem PySem.Spec PyProof.Rows L2 VS
def topS (i : Nat) : Stmt := PySem.Challenge.pw_viewedwords_k47_words_on_ladders_counted.main.body.getD i (.Pass ⟨0, 0, 0, 0⟩)
theorem u1 {A : Around} {k : Nat} (hr : Room k A) : A.units + 1 < cLine := by have := hr.un; omega
theorem u65 {A : Around} {k : Nat} (hr : Room k A) : A.units + 65 < cLine := by have := hr.un; omega
/-! ### _law_number -/
abbrev sLnumber : Stmt := topS 13
abbrev nLnumber : List Str := ["script", "k", "number"]
theorem scLnumber : FnScope nLnumber ["script", "k"] (defScope sLnumber) := ⟨rfl, rfl, rfl, by decide +kernel, rfl, by decide +kernel, by decide +kernel⟩
theorem ndLnumber : (nLnumber : List Str).Nodup := scLnumber.nd
/-! ### _law_draws -/
abbrev sLdraws : Stmt := topS 14
abbrev nLdraws : List Str := ["script", "k", "count", "many", "number", "found", "at", "state", "other"]
theorem scLdraws : FnScope nLdraws ["script", "k", "count", "many"] (defScope sLdraws) := ⟨rfl, rfl, rfl, by decide +kernel, rfl, by decide +kernel, by decide +kernel⟩
theorem ndLdraws : (nLdraws : List Str).Nodup := scLdraws.nd
/-! ### _law_words -/
abbrev sLwords : Stmt := topS 15
abbrev nLwords : List Str := ["letters", "length", "found", "level", "k", "longer", "word", "letter"]
theorem scLwords : FnScope nLwords ["letters", "length"] (defScope sLwords) := ⟨rfl, rfl, rfl, by decide +kernel, rfl, by decide +kernel, by decide +kernel⟩
theorem ndLwords : (nLwords : List Str).Nodup := scLwords.nd
/-! ### begun_places -/
abbrev sbegun_places : Stmt := topS 4
abbrev nbegun_places : List Str := ["ladders", "ladder"]
theorem scbegun_places : FnScope nbegun_places ["ladders"] (defScope sbegun_places) := ⟨rfl, rfl, rfl, by decide +kernel, rfl, by decide +kernel, by decide +kernel⟩
theorem ndbegun_places : (nbegun_places : List Str).Nodup := scbegun_places.nd
/-! ### is_off -/
abbrev sis_off : Stmt := topS 7
abbrev nis_off : List Str := ["places", "place"]
theorem scis_off : FnScope nis_off ["places"] (defScope sis_off) := ⟨rfl, rfl, rfl, by decide +kernel, rfl, by decide +kernel, by decide +kernel⟩
theorem ndis_off : (nis_off : List Str).Nodup := scis_off.nd
/-! ### takes -/
abbrev stakes : Stmt := topS 2
abbrev ntakes : List Str := ["step", "index"]
theorem sctakes : FnScope ntakes ["step", "index"] (defScope stakes) := ⟨rfl, rfl, rfl, by decide +kernel, rfl, by decide +kernel, by decide +kernel⟩
theorem ndtakes : (ntakes : List Str).Nodup := sctakes.nd
/-! ### climbed_place -/
abbrev sclimbed_place : Stmt := topS 5
abbrev nclimbed_place : List Str := ["ladder", "place", "index", "at"]
theorem scclimbed_place : FnScope nclimbed_place ["ladder", "place", "index"] (defScope sclimbed_place) := ⟨rfl, rfl, rfl, by decide +kernel, rfl, by decide +kernel, by decide +kernel⟩
theorem ndclimbed_place : (nclimbed_place : List Str).Nodup := scclimbed_place.nd
/-! ### climbed_places -/
abbrev sclimbed_places : Stmt := topS 6
abbrev nclimbed_places : List Str := ["ladders", "places", "index", "k"]
theorem scclimbed_places : FnScope nclimbed_places ["ladders", "places", "index"] (defScope sclimbed_places) := ⟨rfl, rfl, rfl, by decide +kernel, rfl, by decide +kernel, by decide +kernel⟩
theorem ndclimbed_places : (nclimbed_places : List Str).Nodup := scclimbed_places.nd
/-! ### first_off -/
abbrev sfirst_off : Stmt := topS 10
abbrev nfirst_off : List Str := ["letters", "ladders", "words", "waiting", "at", "places", "index", "following"]
theorem scfirst_off : FnScope nfirst_off ["letters", "ladders"] (defScope sfirst_off) := ⟨rfl, rfl, rfl, by decide +kernel, rfl, by decide +kernel, by decide +kernel⟩
theorem ndfirst_off : (nfirst_off : List Str).Nodup := scfirst_off.nd
/-! ### _law_same -/
abbrev sLsame : Stmt := topS 12
abbrev nLsame : List Str := ["told", "due", "k"]
theorem scLsame : FnScope nLsame ["told", "due"] (defScope sLsame) := ⟨rfl, rfl, rfl, by decide +kernel, rfl, by decide +kernel, by decide +kernel⟩
theorem ndLsame : (nLsame : List Str).Nodup := scLsame.nd
/-! ### _law_ladder -/
abbrev sLladder : Stmt := topS 18
abbrev nLladder : List Str := ["picks", "letters", "steps", "pick"]
theorem scLladder : FnScope nLladder ["picks", "letters"] (defScope sLladder) := ⟨rfl, rfl, rfl, by decide +kernel, rfl, by decide +kernel, by decide +kernel⟩
theorem ndLladder : (nLladder : List Str).Nodup := scLladder.nd
/-! ### counted_places -/
abbrev scounted_places : Stmt := topS 8
abbrev ncounted_places : List Str := ["letters", "ladders", "length", "counts", "step", "longer", "places", "index", "following"]
theorem sccounted_places : FnScope ncounted_places ["letters", "ladders", "length"] (defScope scounted_places) := ⟨rfl, rfl, rfl, by decide +kernel, rfl, by decide +kernel, by decide +kernel⟩
theorem ndcounted_places : (ncounted_places : List Str).Nodup := sccounted_places.nd
/-! ### count_on_ladders -/
abbrev scount_on_ladders : Stmt := topS 9
abbrev ncount_on_ladders : List Str := ["letters", "ladders", "length", "counts", "places"]
theorem sccount_on_ladders : FnScope ncount_on_ladders ["letters", "ladders", "length"] (defScope scount_on_ladders) := ⟨rfl, rfl, rfl, by decide +kernel, rfl, by decide +kernel, by decide +kernel⟩
theorem ndcount_on_ladders : (ncount_on_ladders : List Str).Nodup := sccount_on_ladders.nd
/-! ### _law_power -/
abbrev sLpower : Stmt := topS 19
abbrev nLpower : List Str := ["base", "exponent", "product", "k"]
theorem scLpower : FnScope nLpower ["base", "exponent"] (defScope sLpower) := ⟨rfl, rfl, rfl, by decide +kernel, rfl, by decide +kernel, by decide +kernel⟩
theorem ndLpower : (nLpower : List Str).Nodup := scLpower.nd
/-! ### _law_takes -/
abbrev sLtakes : Stmt := topS 16
abbrev nLtakes : List Str := ["step", "i"]
theorem scLtakes : FnScope nLtakes ["step", "i"] (defScope sLtakes) := ⟨rfl, rfl, rfl, by decide +kernel, rfl, by decide +kernel, by decide +kernel⟩
theorem ndLtakes : (nLtakes : List Str).Nodup := scLtakes.nd
/-! ### _law_on -/
abbrev sLon : Stmt := topS 17
abbrev nLon : List Str := ["ladder", "word", "ends", "letter", "found", "at", "j", "behind"]
theorem scLon : FnScope nLon ["ladder", "word"] (defScope sLon) := ⟨rfl, rfl, rfl, by decide +kernel, rfl, by decide +kernel, by decide +kernel⟩
theorem ndLon : (nLon : List Str).Nodup := scLon.nd
/-! ### law -/
abbrev slaw : Stmt := topS 20
abbrev nlaw : List Str := ["script", "shape", "letters", "drawn", "length", "words", "on", "due", "told", "off", "some", "one", "j", "word", "ladder"]
theorem sclaw : FnScope nlaw ["script"] (defScope slaw) := ⟨rfl, rfl, rfl, by decide +kernel, rfl, by decide +kernel, by decide +kernel⟩
theorem ndlaw : (nlaw : List Str).Nodup := sclaw.nd
/-! ### the text -/
structure Txt (K : PySem.W.Frag) (mg : Str → Option Value) : Prop where
  d_Lnumber : Def K mg "_law_number" sLnumber
  d_Ldraws : Def K mg "_law_draws" sLdraws
  d_Lwords : Def K mg "_law_words" sLwords
  d_begun_places : Def K mg "begun_places" sbegun_places
  d_is_off : Def K mg "is_off" sis_off
  d_takes : Def K mg "takes" stakes
  d_climbed_place : Def K mg "climbed_place" sclimbed_place
  d_climbed_places : Def K mg "climbed_places" sclimbed_places
  d_first_off : Def K mg "first_off" sfirst_off
  d_Lsame : Def K mg "_law_same" sLsame
  d_Lladder : Def K mg "_law_ladder" sLladder
  d_counted_places : Def K mg "counted_places" scounted_places
  d_count_on_ladders : Def K mg "count_on_ladders" scount_on_ladders
  d_Lpower : Def K mg "_law_power" sLpower
  d_Ltakes : Def K mg "_law_takes" sLtakes
  d_Lon : Def K mg "_law_on" sLon
  d_law : Def K mg "law" slaw
  z_abs : mg "abs" = none
  z_bool : mg "bool" = none
  z_int : mg "int" = none
  z_isinstance : mg "isinstance" = none
  z_len : mg "len" = none
  z_list : mg "list" = none
  z_range : mg "range" = none
  z_str : mg "str" = none
  z_sum : mg "sum" = none
  z_tuple : mg "tuple" = none
  k_LETTERS : ∃ t, mg "LETTERS" = some (.str "abc" t)
variable {P : Program} {w : World} {K : PySem.W.Frag} {mg : Str → Option Value} {base : Heap}
theorem Txt.c_LETTERS {X : Cx} {W : VS.WX} {pos : Pos} (T : Txt X.K X.mg) (hg : Gl X "LETTERS") : PX X W true (.Name "LETTERS" pos) (eC (.str [97, 98, 99])) := by
  obtain ⟨t, h⟩ := T.k_LETTERS
  exact px_glob (v := .str (S [97, 98, 99])) (fun _ => .str _) h ⟨t, congrArg (fun z => Value.str z t) (by decide +kernel : ("abc" : Str) = S [97, 98, 99])⟩ hg
theorem okLnumber (T : Txt K mg)  : Cal P w K mg base 1 "_law_number" ["script", "k"] MLnumber :=
  cal_of T.d_Lnumber scLnumber (fun _ _ _ _ _ _ us hl => match us, hl with | [_, _], _ => rfl) fun f cdv A outer s H E hr =>
    (pxs_cons (pxs_set 2 (px_op op_addD ok_add (px_op (op_mul.or op_mulS) ok_mul (px_fn (cr_sum rfl) ok_sum T.z_sum (pxa_cons (px_v 0) pxa_nil)) px_int) (px_op (op_mul.or op_mulS) ok_mul px_int (px_op op_addD ok_add (px_v 1) px_int))) ndLnumber)
    (pxs_cons (pxs_if (pxt_cmp op_lt (ok_rel (f := fun i j => decide (i < j))) (px_v 1) (px_fn call_lenA ok_len T.z_len (pxa_cons (px_v 0) pxa_nil)) (nomark _))
    (pxs_one (pxs_set 2 (px_ix (px_v 0) (px_v 1)) ndLnumber))
    pxs_nil)
    (pxs_one (pxs_ret (px_fn call_abs ok_abs T.z_abs (pxa_cons (px_v 2) pxa_nil))))))
theorem okLdraws (T : Txt K mg) (CLnumber : Cal P w K mg base 1 "_law_number" ["script", "k"] MLnumber) : Cal P w K mg base 2 "_law_draws" ["script", "k", "count", "many"] MLdraws :=
  cal_of T.d_Ldraws scLdraws (fun _ _ _ _ _ _ us hl => match us, hl with | [_, _, _, _], _ => rfl) fun f cdv A outer s H E hr =>
    (pxs_cons (pxs_set 4 (px_callC CLnumber hr (by decide) (pxa_cons (px_v 0) (pxa_cons (px_v 1) pxa_nil)) (fun _ _ => (len_cons fun _ => (len_cons fun _ => len_nil)))) ndLdraws)
    (pxs_cons (pxs_setO 5 (pf_lst pxa_nil) ndLdraws)
    (pxs_cons (pxs_if (pxt_cmp op_ge (ok_rel (f := fun i j => decide (j ≤ i))) (px_v 4) (px_op op_pow ok_pow px_int px_int) (nomark _))
    (pxs_cons (pxs_set 4 (px_op op_sub ok_sub (px_v 4) (px_op op_pow ok_pow px_int px_int)) ndLdraws)
    (pxs_cons (pxs_for 6 PassesOwn.never rfl (src_r1 (b' := true) T.z_range (px_v 2))
    (pxs_cons (pxs_app 5 (px_op op_mod ok_mod (px_v 4) (px_v 3)))
    (pxs_one (pxs_set 4 (px_op op_fdiv ok_div (px_v 4) (px_v 3)) ndLdraws))) ndLdraws)
    (pxs_one (pxs_fz 5 (pxs_ret (px_v 5))))))
    pxs_nil)
    (pxs_cons (pxs_set 7 (px_op op_addD ok_add (px_op op_mod ok_mod (px_v 4) px_int) px_int) ndLdraws)
    (pxs_cons (pxs_for 6 PassesOwn.never rfl (src_r1 (b' := true) T.z_range (px_v 2))
    (pxs_cons (pxs_set 7 (px_op op_mod ok_mod (px_op op_addD ok_add (px_op op_addD ok_add (px_op (op_mul.or op_mulS) ok_mul (px_v 7) px_int) (px_op (op_mul.or op_mulS) ok_mul px_int (px_v 6))) px_int) px_int) ndLdraws)
    (pxs_cons (pxs_set 8 (px_op op_mod ok_mod (px_op op_addD ok_add (px_op op_addD ok_add (px_op (op_mul.or op_mulS) ok_mul (px_v 7) (px_v 7)) (px_op (op_mul.or op_mulS) ok_mul px_int (px_v 6))) px_int) px_int) ndLdraws)
    (pxs_one (pxs_app 5 (px_op op_mod ok_mod (px_op op_fdiv ok_div (px_v 8) px_int) (px_v 3)))))) ndLdraws)
    (pxs_one (pxs_fz 5 (pxs_ret (px_v 5)))))))))
theorem okLwords (T : Txt K mg)  : Cal P w K mg base 1 "_law_words" ["letters", "length"] MLwords :=
  cal_of T.d_Lwords scLwords (fun _ _ _ _ _ _ us hl => match us, hl with | [_, _], _ => rfl) fun f cdv A outer s H E hr =>
    (pxs_cons (pxs_set 2 (px_lst (pxa_cons (px_str []) pxa_nil)) ndLwords)
    (pxs_cons (pxs_set 3 (px_lst (pxa_cons (px_str []) pxa_nil)) ndLwords)
    (pxs_cons (pxs_for 4 PassesOwn.never rfl (src_r1 (b' := true) T.z_range (px_v 1))
    (pxs_cons (pxs_setO 5 (pf_lst pxa_nil) ndLwords)
    (pxs_cons (pxs_for 6 PassesOwn.never rfl (src_any (px_v 3))
    (pxs_one (pxs_for 7 PassesOwn.never rfl (src_any (px_sl (px_str [97, 98, 99]) pxo_no (pxo_some (px_v 0))))
    (pxs_one (pxs_app 5 (px_op op_addD ok_add (px_v 6) (px_v 7)))) ndLwords)) ndLwords)
    (pxs_cons (pxs_set 2 (px_op op_addD ok_add (px_v 2) (px_l 5)) ndLwords)
    (pxs_one (pxs_fz 5 (pxs_set 3 (px_v 5) ndLwords)))))) ndLwords)
    (pxs_one (pxs_ret (px_v 2))))))
theorem okbegun_places (T : Txt K mg)  : Cal P w K mg base 1 "begun_places" ["ladders"] Mbegun_places :=
  cal_of T.d_begun_places scbegun_places (fun _ _ _ _ _ _ us hl => match us, hl with | [_], _ => rfl) fun f cdv A outer s H E hr =>
    (pxs_one (pxs_ret (px_ty call_tuple_of ok_tuple T.z_tuple (pxa_cons (px_lc 1 rfl ndbegun_places (src_any (px_v 0)) (blkOk_by (own := [("ladder", 1)]) (N := nbegun_places) (by kernel_rfl)) (fun _ _ _ _ _ => pg_name (i := 1) ndbegun_places rfl (by first | exact Or.inl rfl | exact Or.inr rfl)) (fun _ _ _ _ _ => pxts_nil) (fun _ _ _ _ _ => px_int)) pxa_nil))))
theorem okis_off (T : Txt K mg)  : Cal P w K mg base 1 "is_off" ["places"] Mis_off :=
  cal_of T.d_is_off scis_off (fun _ _ _ _ _ _ us hl => match us, hl with | [_], _ => rfl) fun f cdv A outer s H E hr =>
    (pxs_one (pxs_ret (px_cmp (op_eqD hr.units) ok_eq (px_fn call_lenA ok_len T.z_len (pxa_cons (px_lc 1 rfl ndis_off (src_any (px_v 0)) (blkOk_by (own := [("place", 1)]) (N := nis_off) (by kernel_rfl)) (fun _ _ _ _ _ => pg_name (i := 1) ndis_off rfl (by first | exact Or.inl rfl | exact Or.inr rfl)) (fun _ _ _ _ _ => (pxts_one (pxt_cmp op_notN ok_isnt (px_v 1) px_non (nomark _)))) (fun _ _ _ _ _ => (px_v 1))) pxa_nil)) px_int (nomark _))))
theorem oktakes (T : Txt K mg)  : Cal P w K mg base 1 "takes" ["step", "index"] Mtakes :=
  cal_of T.d_takes sctakes (fun _ _ _ _ _ _ us hl => match us, hl with | [_, _], _ => rfl) fun f cdv A outer s H E hr =>
    (pxs_cons (pxs_if (pxt_cmp (op_eqD hr.units) ok_eq (px_ix (px_v 0) px_int) (px_str [109, 97, 121, 98, 101]) (nomark _))
    (pxs_one (pxs_ret (px_cmp (op_eqD hr.units) ok_eq (px_ix (px_v 0) px_int) (px_v 1) (nomark _))))
    pxs_nil)
    (pxs_one (pxs_ret (px_cmp (op_eqD hr.units) ok_eq (px_op op_and (ok_bit (f := Builtin.bitAnd)) (px_op op_shr ok_shr (px_ix (px_v 0) px_int) (px_v 1)) px_int) px_int (nomark _)))))
theorem okclimbed_place (T : Txt K mg) (Ctakes : Cal P w K mg base 1 "takes" ["step", "index"] Mtakes) : Cal P w K mg base 2 "climbed_place" ["ladder", "place", "index"] Mclimbed_place :=
  cal_of T.d_climbed_place scclimbed_place (fun _ _ _ _ _ _ us hl => match us, hl with | [_, _, _], _ => rfl) fun f cdv A outer s H E hr =>
    (pxs_cons (pxs_if (pxt_cmp op_isN ok_is (px_v 1) px_non (nomark _))
    (pxs_one (pxs_ret px_non))
    pxs_nil)
    (pxs_cons (pxs_for 3 PassesOwn.never rfl (src_r2 (b' := true) T.z_range (px_v 1) (px_fn call_lenA ok_len T.z_len (pxa_cons (px_v 0) pxa_nil)))
    (pxs_one (pxs_if (pxt_truth (px_callC Ctakes hr (by decide) (pxa_cons (px_ix (px_v 0) (px_v 3)) (pxa_cons (px_v 2) pxa_nil)) (fun _ _ => (len_cons fun _ => (len_cons fun _ => len_nil)))))
    (pxs_one (pxs_ret (px_op op_addD ok_add (px_v 3) (px_ty call_int1 ok_int T.z_int (pxa_cons (px_cmp (op_eqD hr.units) ok_eq (px_ix (px_ix (px_v 0) (px_v 3)) px_int) (px_str [109, 97, 121, 98, 101]) (nomark _)) pxa_nil)))))
    pxs_nil)) ndclimbed_place)
    (pxs_one (pxs_ret px_non))))
theorem okclimbed_places (T : Txt K mg) (Cclimbed_place : Cal P w K mg base 2 "climbed_place" ["ladder", "place", "index"] Mclimbed_place) : Cal P w K mg base 3 "climbed_places" ["ladders", "places", "index"] Mclimbed_places :=
  cal_of T.d_climbed_places scclimbed_places (fun _ _ _ _ _ _ us hl => match us, hl with | [_, _, _], _ => rfl) fun f cdv A outer s H E hr =>
    (pxs_one (pxs_ret (px_ty call_tuple_of ok_tuple T.z_tuple (pxa_cons (px_lc 3 rfl ndclimbed_places (src_r1 (b' := true) T.z_range (px_fn call_lenA ok_len T.z_len (pxa_cons (px_v 0) pxa_nil))) (blkOk_by (own := [("k", 3)]) (N := nclimbed_places) (by kernel_rfl)) (fun _ _ _ _ _ => pg_name (i := 3) ndclimbed_places rfl (by first | exact Or.inl rfl | exact Or.inr rfl)) (fun _ _ _ _ _ => pxts_nil) (fun _ _ _ _ _ => (px_callC Cclimbed_place hr (by decide) (pxa_cons (px_ix (px_v 0) (px_v 3)) (pxa_cons (px_ix (px_v 1) (px_v 3)) (pxa_cons (px_v 2) pxa_nil))) (fun _ _ => (len_cons fun _ => (len_cons fun _ => (len_cons fun _ => len_nil))))))) pxa_nil))))
theorem okfirst_off (T : Txt K mg) (Cbegun_places : Cal P w K mg base 1 "begun_places" ["ladders"] Mbegun_places) (Cis_off : Cal P w K mg base 1 "is_off" ["places"] Mis_off) (Cclimbed_places : Cal P w K mg base 3 "climbed_places" ["ladders", "places", "index"] Mclimbed_places) : Cal P w K mg base 4 "first_off" ["letters", "ladders"] Mfirst_off :=
  cal_of T.d_first_off scfirst_off (fun _ _ _ _ _ _ us hl => match us, hl with | [_, _], _ => rfl) fun f cdv A outer s H E hr =>
    (pxs_cons (pxs_setO 2 (pf_n1 (u65 hr) (px_callC Cbegun_places hr (by decide) (pxa_cons (px_v 1) pxa_nil) (fun _ _ => (len_cons fun _ => len_nil))) (px_str [])) ndfirst_off)
    (pxs_cons (pxs_setO 3 (pf_lst (pxa_cons (px_callC Cbegun_places hr (by decide) (pxa_cons (px_v 1) pxa_nil) (fun _ _ => (len_cons fun _ => len_nil))) pxa_nil)) ndfirst_off)
    (pxs_cons (pxs_set 4 px_int ndfirst_off)
    (pxs_cons (pxs_while wN PassesOwn.never (pxt_cmp op_lt (ok_rel (f := fun i j => decide (i < j))) (px_v 4) (px_fn call_lenA ok_len T.z_len (pxa_cons (px_l 3) pxa_nil)) (nomark _))
    (pxs_cons (pxs_set 5 (px_ixo 3 (px_v 4)) ndfirst_off)
    (pxs_cons (pxs_if (pxt_truth (px_callC Cis_off hr (by decide) (pxa_cons (px_v 5) pxa_nil) (fun _ _ => (len_cons fun _ => len_nil))))
    (pxs_one (pxs_ret (px_nix 2 (u65 hr) (px_v 5))))
    pxs_nil)
    (pxs_cons (pxs_for 6 PassesOwn.never rfl (src_r1 (b' := true) T.z_range (px_v 0))
    (pxs_cons (pxs_set 7 (px_callC Cclimbed_places hr (by decide) (pxa_cons (px_v 1) (pxa_cons (px_v 5) (pxa_cons (px_v 6) pxa_nil))) (fun _ _ => (len_cons fun _ => (len_cons fun _ => (len_cons fun _ => len_nil))))) ndfirst_off)
    (pxs_one (pxs_if (pxt_nnotin 2 (u65 hr) (px_v 7))
    (pxs_cons (pxs_nset 2 (u65 hr) (px_op op_addD ok_add (px_nix 2 (u65 hr) (px_v 5)) (px_ix (T.c_LETTERS (by rfl)) (px_v 6))) (px_v 7))
    (pxs_one (pxs_app 3 (px_v 7))))
    pxs_nil))) ndfirst_off)
    (pxs_one (pxs_set 4 (px_op op_addD ok_add (px_v 4) px_int) ndfirst_off))))))
    (pxs_one (pxs_ret px_non))))))
theorem okLsameN (T : Txt K mg)  : ∀ n, Cal P w K mg base (0 + n) "_law_same" ["told", "due"] (MLsameN n)
  | 0 => cal_stuck T.d_Lsame (fun _ _ _ _ _ _ us hl => match us, hl with | [_, _], _ => rfl)
  | n + 1 => by
    have CLsame := okLsameN T  n
    exact cal_of T.d_Lsame scLsame (fun _ _ _ _ _ _ us hl => match us, hl with | [_, _], _ => rfl) fun f cdv A outer s H E hr =>
    (pxs_cons (pxs_if (PXW.pt (pxw_or (pxt_truth (px_is .bool (px_v 1) T.z_isinstance T.z_bool)) (pxw_or1 (pxt_truth (px_is .bool (px_v 0) T.z_isinstance T.z_bool)))))
    (pxs_one (pxs_ret (px_and (px_is .bool (px_v 1) T.z_isinstance T.z_bool) (px_and (px_is .bool (px_v 0) T.z_isinstance T.z_bool) (px_one (px_cmp (op_eqD hr.units) ok_eq (px_v 0) (px_v 1) (nomark _)))))))
    pxs_nil)
    (pxs_cons (pxs_if (PXW.pt (pxw_or (pxt_cmp op_isN ok_is (px_v 1) px_non (nomark _)) (pxw_or1 (pxt_truth (px_is .int (px_v 1) T.z_isinstance T.z_int)))))
    (pxs_one (pxs_ret (px_and (px_cmp (op_eqD hr.units) ok_eq (px_v 0) (px_v 1) (nomark _)) (px_one (px_or (px_cmp op_isN ok_is (px_v 1) px_non (nomark _)) (px_one (px_is .int (px_v 0) T.z_isinstance T.z_int)))))))
    pxs_nil)
    (pxs_cons (pxs_if (pxt_truth (px_is .str (px_v 1) T.z_isinstance T.z_str))
    (pxs_one (pxs_ret (px_and (px_is .str (px_v 0) T.z_isinstance T.z_str) (px_one (px_cmp (op_eqD hr.units) ok_eq (px_v 0) (px_v 1) (nomark _))))))
    pxs_nil)
    (pxs_cons (pxs_if (PXW.pt (pxw_or (pxt_cmp (op_neD hr.units) ok_ne (px_is .list (px_v 1) T.z_isinstance T.z_list) (px_is .list (px_v 0) T.z_isinstance T.z_list) (nomark _)) (pxw_or1 (pxt_cmp (op_neD hr.units) ok_ne (px_is .tuple (px_v 1) T.z_isinstance T.z_tuple) (px_is .tuple (px_v 0) T.z_isinstance T.z_tuple) (nomark _)))))
    (pxs_one (pxs_ret px_bl))
    pxs_nil)
    (pxs_cons (pxs_if (pxt_cmp (op_neD hr.units) ok_ne (px_fn call_lenA ok_len T.z_len (pxa_cons (px_v 0) pxa_nil)) (px_fn call_lenA ok_len T.z_len (pxa_cons (px_v 1) pxa_nil)) (nomark _))
    (pxs_one (pxs_ret px_bl))
    pxs_nil)
    (pxs_cons (pxs_for 2 PassesOwn.never rfl (src_r1 (b' := true) T.z_range (px_fn call_lenA ok_len T.z_len (pxa_cons (px_v 1) pxa_nil)))
    (pxs_one (pxs_if (pxt_not (pxt_truth (px_callC CLsame hr (Nat.le_refl _) (pxa_cons (px_ix (px_v 0) (px_v 2)) (pxa_cons (px_ix (px_v 1) (px_v 2)) pxa_nil)) (fun _ _ => (len_cons fun _ => (len_cons fun _ => len_nil))))))
    (pxs_one (pxs_ret px_bl))
    pxs_nil)) ndLsame)
    (pxs_one (pxs_ret px_bl))))))))
theorem okLsame (T : Txt K mg)  : Cal P w K mg base 64 "_law_same" ["told", "due"] MLsame := okLsameN T  64
theorem okLladder (T : Txt K mg)  : Cal P w K mg base 1 "_law_ladder" ["picks", "letters"] MLladder :=
  cal_of T.d_Lladder scLladder (fun _ _ _ _ _ _ us hl => match us, hl with | [_, _], _ => rfl) fun f cdv A outer s H E hr =>
    (pxs_cons (pxs_setO 2 (pf_lst pxa_nil) ndLladder)
    (pxs_cons (pxs_for 3 PassesOwn.never rfl (src_any (px_v 0))
    (pxs_one (pxs_app 2 (px_ix (px_lst (pxa_cons (px_tup (pxa_cons (px_str [109, 97, 121, 98, 101]) (pxa_cons (px_op op_mod ok_mod (px_op op_fdiv ok_div (px_v 3) px_int) (px_v 1)) pxa_nil))) (pxa_cons (px_tup (pxa_cons (px_str [97, 110, 121]) (pxa_cons (px_op op_addD ok_add px_int (px_op op_mod ok_mod (px_op op_fdiv ok_div (px_v 3) px_int) (px_op op_sub ok_sub (px_op op_shl ok_shl px_int (px_v 1)) px_int))) pxa_nil))) pxa_nil))) (px_op op_mod ok_mod (px_v 3) px_int)))) ndLladder)
    (pxs_one (pxs_ret (px_ty call_tuple_of ok_tuple T.z_tuple (pxa_cons (px_l 2) pxa_nil))))))
theorem okcounted_places (T : Txt K mg) (Cbegun_places : Cal P w K mg base 1 "begun_places" ["ladders"] Mbegun_places) (Cclimbed_places : Cal P w K mg base 3 "climbed_places" ["ladders", "places", "index"] Mclimbed_places) : Cal P w K mg base 4 "counted_places" ["letters", "ladders", "length"] Mcounted_places :=
  cal_of T.d_counted_places sccounted_places (fun _ _ _ _ _ _ us hl => match us, hl with | [_, _, _], _ => rfl) fun f cdv A outer s H E hr =>
    (pxs_cons (pxs_setO 3 (pf_n1 (u65 hr) (px_callC Cbegun_places hr (by decide) (pxa_cons (px_v 1) pxa_nil) (fun _ _ => (len_cons fun _ => len_nil))) px_int) ndcounted_places)
    (pxs_cons (pxs_for 4 PassesOwn.never rfl (src_r1 (b' := true) T.z_range (px_v 2))
    (pxs_cons (pxs_setO 5 pf_nnew ndcounted_places)
    (pxs_cons (pxs_fzN 3 (pxs_for 6 PassesOwn.never rfl (src_keysN (b := true) (px_v 3))
    (pxs_one (pxs_for 7 PassesOwn.never rfl (src_r1 (b' := true) T.z_range (px_v 0))
    (pxs_cons (pxs_set 8 (px_callC Cclimbed_places hr (by decide) (pxa_cons (px_v 1) (pxa_cons (px_v 6) (pxa_cons (px_v 7) pxa_nil))) (fun _ _ => (len_cons fun _ => (len_cons fun _ => (len_cons fun _ => len_nil))))) ndcounted_places)
    (pxs_one (pxs_nset 5 (u65 hr) (px_op op_addD ok_add (px_ngt 5 (u65 hr) (px_v 8) px_int ⟨rfl, rfl, rfl, rfl⟩) (px_nix 3 (u65 hr) (px_v 6))) (px_v 8)))) ndcounted_places)) ndcounted_places))
    (pxs_one (pxs_fzN 5 (pxs_set 3 (px_v 5) ndcounted_places))))) ndcounted_places)
    (pxs_one (pxs_fzN 3 (pxs_ret (px_v 3))))))
theorem okcount_on_ladders (T : Txt K mg) (Ccounted_places : Cal P w K mg base 4 "counted_places" ["letters", "ladders", "length"] Mcounted_places) (Cis_off : Cal P w K mg base 1 "is_off" ["places"] Mis_off) : Cal P w K mg base 5 "count_on_ladders" ["letters", "ladders", "length"] Mcount_on_ladders :=
  cal_of T.d_count_on_ladders sccount_on_ladders (fun _ _ _ _ _ _ us hl => match us, hl with | [_, _, _], _ => rfl) fun f cdv A outer s H E hr =>
    (pxs_cons (pxs_set 3 (px_callC Ccounted_places hr (by decide) (pxa_cons (px_v 0) (pxa_cons (px_v 1) (pxa_cons (px_v 2) pxa_nil))) (fun _ _ => (len_cons fun _ => (len_cons fun _ => (len_cons fun _ => len_nil))))) ndcount_on_ladders)
    (pxs_one (pxs_ret (px_fn (cr_sum rfl) ok_sum T.z_sum (pxa_cons (px_lc 4 rfl ndcount_on_ladders (src_keysN (b := true) (px_v 3)) (blkOk_by (own := [("places", 4)]) (N := ncount_on_ladders) (by kernel_rfl)) (fun _ _ _ _ _ => pg_name (i := 4) ndcount_on_ladders rfl (by first | exact Or.inl rfl | exact Or.inr rfl)) (fun _ _ _ _ _ => (pxts_one (pxt_not (pxt_truth (px_callC Cis_off hr (by decide) (pxa_cons (px_v 4) pxa_nil) (fun _ _ => (len_cons fun _ => len_nil))))))) (fun _ _ _ _ _ => (px_nix 3 (u65 hr) (px_v 4)))) pxa_nil)))))
theorem okLpower (T : Txt K mg)  : Cal P w K mg base 1 "_law_power" ["base", "exponent"] MLpower :=
  cal_of T.d_Lpower scLpower (fun _ _ _ _ _ _ us hl => match us, hl with | [_, _], _ => rfl) fun f cdv A outer s H E hr =>
    (pxs_cons (pxs_set 2 px_int ndLpower)
    (pxs_cons (pxs_for 3 PassesOwn.never rfl (src_r1 (b' := true) T.z_range (px_v 1))
    (pxs_one (pxs_set 2 (px_op (op_mul.or op_mulS) ok_mul (px_v 2) (px_v 0)) ndLpower)) ndLpower)
    (pxs_one (pxs_ret (px_v 2)))))
theorem okLtakes (T : Txt K mg)  : Cal P w K mg base 1 "_law_takes" ["step", "i"] MLtakes :=
  cal_of T.d_Ltakes scLtakes (fun _ _ _ _ _ _ us hl => match us, hl with | [_, _], _ => rfl) fun f cdv A outer s H E hr =>
    (pxs_cons (pxs_if (pxt_cmp (op_eqD hr.units) ok_eq (px_ix (px_v 0) px_int) (px_str [109, 97, 121, 98, 101]) (nomark _))
    (pxs_one (pxs_ret (px_cmp (op_eqD hr.units) ok_eq (px_ix (px_v 0) px_int) (px_v 1) (nomark _))))
    pxs_nil)
    (pxs_one (pxs_ret (px_cmp (op_eqD hr.units) ok_eq (px_op op_and (ok_bit (f := Builtin.bitAnd)) (px_op op_shr ok_shr (px_ix (px_v 0) px_int) (px_v 1)) px_int) px_int (nomark _)))))
theorem okLon (T : Txt K mg) (CLtakes : Cal P w K mg base 1 "_law_takes" ["step", "i"] MLtakes) : Cal P w K mg base 2 "_law_on" ["ladder", "word"] MLon :=
  cal_of T.d_Lon scLon (fun _ _ _ _ _ _ us hl => match us, hl with | [_, _], _ => rfl) fun f cdv A outer s H E hr =>
    (pxs_cons (pxs_set 2 (px_lst (pxa_cons px_int pxa_nil)) ndLon)
    (pxs_cons (pxs_for 3 PassesOwn.never rfl (src_any (px_v 1))
    (pxs_cons (pxs_setO 4 (pf_lst pxa_nil) ndLon)
    (pxs_cons (pxs_for 5 PassesOwn.never rfl (src_any (px_v 2))
    (pxs_one (pxs_for 6 PassesOwn.never rfl (src_r2 (b' := true) T.z_range (px_v 5) (px_fn call_lenA ok_len T.z_len (pxa_cons (px_v 0) pxa_nil)))
    (pxs_one (pxs_if (pxt_truth (px_callC CLtakes hr (by decide) (pxa_cons (px_ix (px_v 0) (px_v 6)) (pxa_cons (px_ms PySem.F.slot_str_index PySem.F.type_str_index mt_sindex ok_sindex (px_str [97, 98, 99]) (pxa_cons (px_v 3) pxa_nil)) pxa_nil)) (fun _ _ => (len_cons fun _ => (len_cons fun _ => len_nil)))))
    (pxs_cons (pxs_set 7 (px_op op_addD ok_add (px_v 6) (px_ty call_int1 ok_int T.z_int (pxa_cons (px_cmp (op_eqD hr.units) ok_eq (px_ix (px_ix (px_v 0) (px_v 6)) px_int) (px_str [109, 97, 121, 98, 101]) (nomark _)) pxa_nil))) ndLon)
    (pxs_one (pxs_if (pxt_cmp (op_notInX (u65 hr)) ok_notInS (px_v 7) (px_l 4) (by rfl))
    (pxs_one (pxs_app 4 (px_v 7)))
    pxs_nil)))
    pxs_nil)) ndLon)) ndLon)
    (pxs_one (pxs_fz 4 (pxs_set 2 (px_v 4) ndLon))))) ndLon)
    (pxs_one (pxs_ret (px_cmp op_gt (ok_rel (f := fun i j => decide (j < i))) (px_fn call_lenA ok_len T.z_len (pxa_cons (px_v 2) pxa_nil)) px_int (nomark _))))))
theorem oklaw {f : Addr} {fd : FuncData} (F : Fun K "law" "law" slaw f fd) (T : Txt K mg) (CLdraws : Cal P w K mg base 2 "_law_draws" ["script", "k", "count", "many"] MLdraws) (CLladder : Cal P w K mg base 1 "_law_ladder" ["picks", "letters"] MLladder) (CLwords : Cal P w K mg base 1 "_law_words" ["letters", "length"] MLwords) (CLon : Cal P w K mg base 2 "_law_on" ["ladder", "word"] MLon) (CLsame : Cal P w K mg base 64 "_law_same" ["told", "due"] MLsame) (Ccount_on_ladders : Cal P w K mg base 5 "count_on_ladders" ["letters", "ladders", "length"] Mcount_on_ladders) (Cfirst_off : Cal P w K mg base 4 "first_off" ["letters", "ladders"] Mfirst_off) (CLpower : Cal P w K mg base 1 "_law_power" ["base", "exponent"] MLpower) : FnM P w K mg base 65 f fd ["script"] Mlaw :=
  fnm_of F sclaw fun cdv A outer s H E hr =>
    (pxs_cons (pxs_set 1 (px_callC CLdraws hr (by decide) (pxa_cons (px_v 0) (pxa_cons px_int (pxa_cons px_int (pxa_cons px_int pxa_nil)))) (fun _ _ => (len_cons fun _ => (len_cons fun _ => (len_cons fun _ => (len_cons fun _ => len_nil)))))) ndlaw)
    (pxs_cons (pxs_set 2 (px_op op_addD ok_add px_int (px_op op_mod ok_mod (px_ix (px_v 1) px_int) px_int)) ndlaw)
    (pxs_cons (pxs_set 3 (px_lc 12 rfl ndlaw (src_r1 (b' := true) T.z_range (px_op op_mod ok_mod (px_ix (px_v 1) px_int) px_int)) (blkOk_by (own := [("j", 12)]) (N := nlaw) (by kernel_rfl)) (fun _ _ _ _ _ => pg_name (i := 12) ndlaw rfl (by first | exact Or.inl rfl | exact Or.inr rfl)) (fun _ _ _ _ _ => pxts_nil) (fun _ _ _ _ _ => (px_callC CLladder hr (by decide) (pxa_cons (px_callC CLdraws hr (by decide) (pxa_cons (px_v 0) (pxa_cons (px_op op_addD ok_add px_int (px_v 12)) (pxa_cons (px_op op_mod ok_mod (px_ix (px_v 1) (px_op op_addD ok_add px_int (px_v 12))) px_int) (pxa_cons px_int pxa_nil)))) (fun _ _ => (len_cons fun _ => (len_cons fun _ => (len_cons fun _ => (len_cons fun _ => len_nil)))))) (pxa_cons (px_v 2) pxa_nil)) (fun _ _ => (len_cons fun _ => (len_cons fun _ => len_nil)))))) ndlaw)
    (pxs_cons (pxs_set 4 (px_op op_mod ok_mod (px_ix (px_v 1) px_int) (px_ix (px_lst (pxa_cons px_int (pxa_cons px_int (pxa_cons px_int pxa_nil)))) (px_op op_sub ok_sub (px_v 2) px_int))) ndlaw)
    (pxs_cons (pxs_set 5 (px_callC CLwords hr (by decide) (pxa_cons (px_v 2) (pxa_cons (px_ix (px_lst (pxa_cons px_int (pxa_cons px_int (pxa_cons px_int pxa_nil)))) (px_op op_sub ok_sub (px_v 2) px_int)) pxa_nil)) (fun _ _ => (len_cons fun _ => (len_cons fun _ => len_nil)))) ndlaw)
    (pxs_cons (pxs_set 6 (px_lc 13 rfl ndlaw (src_any (px_v 5)) (blkOk_by (own := [("word", 13)]) (N := nlaw) (by kernel_rfl)) (fun _ _ _ _ _ => pg_name (i := 13) ndlaw rfl (by first | exact Or.inl rfl | exact Or.inr rfl)) (fun _ _ _ _ _ => (pxts_one (pxt_cmp op_gt (ok_rel (f := fun i j => decide (j < i))) (px_fn call_lenA ok_len T.z_len (pxa_cons (px_lc 14 rfl ndlaw (src_any (px_v 3)) (blkOk_by (own := [("ladder", 14)]) (N := nlaw) (by kernel_rfl)) (fun _ _ _ _ _ => pg_name (i := 14) ndlaw rfl (by first | exact Or.inl rfl | exact Or.inr rfl)) (fun _ _ _ _ _ => (pxts_one (pxt_truth (px_callC CLon hr (by decide) (pxa_cons (px_v 14) (pxa_cons (px_v 13) pxa_nil)) (fun _ _ => (len_cons fun _ => (len_cons fun _ => len_nil))))))) (fun _ _ _ _ _ => (px_v 14))) pxa_nil)) px_int (nomark _)))) (fun _ _ _ _ _ => (px_v 13))) ndlaw)
    (pxs_cons (pxs_set 7 (px_fn call_lenA ok_len T.z_len (pxa_cons (px_lc 13 rfl ndlaw (src_any (px_v 6)) (blkOk_by (own := [("word", 13)]) (N := nlaw) (by kernel_rfl)) (fun _ _ _ _ _ => pg_name (i := 13) ndlaw rfl (by first | exact Or.inl rfl | exact Or.inr rfl)) (fun _ _ _ _ _ => (pxts_one (pxt_cmp (op_eqD hr.units) ok_eq (px_fn call_lenA ok_len T.z_len (pxa_cons (px_v 13) pxa_nil)) (px_v 4) (nomark _)))) (fun _ _ _ _ _ => (px_v 13))) pxa_nil)) ndlaw)
    (pxs_cons (pxs_if (pxt_not (pxt_truth (px_callC CLsame hr (by decide) (pxa_cons (px_callC Ccount_on_ladders hr (by decide) (pxa_cons (px_v 2) (pxa_cons (px_ty (call_listA rfl) ok_list T.z_list (pxa_cons (px_v 3) pxa_nil)) (pxa_cons (px_v 4) pxa_nil))) (fun _ _ => (len_cons fun _ => (len_cons fun _ => (len_cons fun _ => len_nil))))) (pxa_cons (px_v 7) pxa_nil)) (fun _ _ => (len_cons fun _ => (len_cons fun _ => len_nil))))))
    (pxs_one (pxs_ret px_bl))
    pxs_nil)
    (pxs_cons (pxs_set 8 (px_callC Cfirst_off hr (by decide) (pxa_cons (px_v 2) (pxa_cons (px_ty (call_listA rfl) ok_list T.z_list (pxa_cons (px_v 3) pxa_nil)) pxa_nil)) (fun _ _ => (len_cons fun _ => (len_cons fun _ => len_nil)))) ndlaw)
    (pxs_cons (pxs_setLc 9 13 rfl ndlaw (sw_true rfl rfl rfl (by decide +kernel)) (src_any (px_v 5)) (blkOk_by (own := [("word", 13)]) (N := nlaw) (by kernel_rfl)) (fun _ _ _ _ _ => pg_name (i := 13) ndlaw rfl (by first | exact Or.inl rfl | exact Or.inr rfl)) (fun _ _ _ _ _ => (pxts_one (pxt_cmp (op_notInX (u65 hr)) ok_notInS (px_v 13) (px_v 6) (by rfl)))) (fun _ _ _ _ _ => (px_v 13)))
    (pxs_cons (pxs_if (pxt_cmp op_gt (ok_rel (f := fun i j => decide (j < i))) (px_fn call_lenA ok_len T.z_len (pxa_cons (px_v 9) pxa_nil)) px_int (nomark _))
    (pxs_one (pxs_if (pxt_not (pxt_truth (px_callC CLsame hr (by decide) (pxa_cons (px_v 8) (pxa_cons (px_ix (px_v 9) px_int) pxa_nil)) (fun _ _ => (len_cons fun _ => (len_cons fun _ => len_nil))))))
    (pxs_one (pxs_ret px_bl))
    pxs_nil))
    (pxs_one (pxs_if (pxt_cmp op_notN ok_isnt (px_v 8) px_non (nomark _))
    (pxs_cons (pxs_if (PXW.pt (pxw_or (pxt_not (pxt_truth (px_is .str (px_v 8) T.z_isinstance T.z_str))) (pxw_or1 (pxt_cmp op_le (ok_rel (f := fun i j => decide (i ≤ j))) (px_fn call_lenA ok_len T.z_len (pxa_cons (px_v 8) pxa_nil)) (px_fn call_lenA ok_len T.z_len (pxa_cons (px_ix (px_v 5) (px_op op_sub ok_sub (px_fn call_lenA ok_len T.z_len (pxa_cons (px_v 5) pxa_nil)) px_int)) pxa_nil)) (nomark _)))))
    (pxs_one (pxs_ret px_bl))
    pxs_nil)
    (pxs_one (pxs_if (pxt_cmp op_gt (ok_rel (f := fun i j => decide (j < i))) (px_fn call_lenA ok_len T.z_len (pxa_cons (px_lc 14 rfl ndlaw (src_any (px_v 3)) (blkOk_by (own := [("ladder", 14)]) (N := nlaw) (by kernel_rfl)) (fun _ _ _ _ _ => pg_name (i := 14) ndlaw rfl (by first | exact Or.inl rfl | exact Or.inr rfl)) (fun _ _ _ _ _ => (pxts_one (pxt_truth (px_callC CLon hr (by decide) (pxa_cons (px_v 14) (pxa_cons (px_v 8) pxa_nil)) (fun _ _ => (len_cons fun _ => (len_cons fun _ => len_nil))))))) (fun _ _ _ _ _ => (px_v 14))) pxa_nil)) px_int (nomark _))
    (pxs_one (pxs_ret px_bl))
    pxs_nil)))
    (pxs_one (pxs_if (pxt_cmp (op_eqD hr.units) ok_eq (px_fn call_lenA ok_len T.z_len (pxa_cons (px_lc 14 rfl ndlaw (src_any (px_v 3)) (blkOk_by (own := [("ladder", 14)]) (N := nlaw) (by kernel_rfl)) (fun _ _ _ _ _ => pg_name (i := 14) ndlaw rfl (by first | exact Or.inl rfl | exact Or.inr rfl)) (fun _ _ _ _ _ => (pxts_one (pxt_cmp (op_inX (u65 hr)) ok_inS (px_tup (pxa_cons (px_str [97, 110, 121]) (pxa_cons (px_op op_sub ok_sub (px_op op_shl ok_shl px_int (px_v 2)) px_int) pxa_nil))) (px_v 14) (by rfl)))) (fun _ _ _ _ _ => (px_v 14))) pxa_nil)) px_int (nomark _))
    (pxs_one (pxs_ret px_bl))
    pxs_nil)))))
    (pxs_cons (pxs_set 10 (px_op op_addD ok_add px_int (px_op op_mod ok_mod (px_op op_fdiv ok_div (px_ix (px_v 1) px_int) px_int) (px_v 2))) ndlaw)
    (pxs_cons (pxs_set 11 (px_tup (pxa_cons (px_tup (pxa_cons (px_str [97, 110, 121]) (pxa_cons (px_op op_sub ok_sub (px_op op_shl ok_shl px_int (px_v 10)) px_int) pxa_nil))) pxa_nil)) ndlaw)
    (pxs_one (pxs_ret (px_callC CLsame hr (by decide) (pxa_cons (px_callC Ccount_on_ladders hr (by decide) (pxa_cons (px_v 2) (pxa_cons (px_lst (pxa_cons (px_v 11) pxa_nil)) (pxa_cons px_int pxa_nil))) (fun _ _ => (len_cons fun _ => (len_cons fun _ => (len_cons fun _ => len_nil))))) (pxa_cons (px_callC CLpower hr (by decide) (pxa_cons (px_v 10) (pxa_cons px_int pxa_nil)) (fun _ _ => (len_cons fun _ => (len_cons fun _ => len_nil)))) pxa_nil)) (fun _ _ => (len_cons fun _ => (len_cons fun _ => len_nil)))))))))))))))))))
theorem all {f : Addr} {fd : FuncData} (F : Fun K "law" "law" slaw f fd) (T : Txt K mg) : FnM P w K mg base 65 f fd ["script"] Mlaw := by
  have CLnumber := okLnumber (P := P) (w := w) (base := base) T 
  have CLdraws := okLdraws (P := P) (w := w) (base := base) T CLnumber
  have CLwords := okLwords (P := P) (w := w) (base := base) T 
  have Cbegun_places := okbegun_places (P := P) (w := w) (base := base) T 
  have Cis_off := okis_off (P := P) (w := w) (base := base) T 
  have Ctakes := oktakes (P := P) (w := w) (base := base) T 
  have Cclimbed_place := okclimbed_place (P := P) (w := w) (base := base) T Ctakes
  have Cclimbed_places := okclimbed_places (P := P) (w := w) (base := base) T Cclimbed_place
  have Cfirst_off := okfirst_off (P := P) (w := w) (base := base) T Cbegun_places Cis_off Cclimbed_places
  have CLsame := okLsame (P := P) (w := w) (base := base) T 
  have CLladder := okLladder (P := P) (w := w) (base := base) T 
  have Ccounted_places := okcounted_places (P := P) (w := w) (base := base) T Cbegun_places Cclimbed_places
  have Ccount_on_ladders := okcount_on_ladders (P := P) (w := w) (base := base) T Ccounted_places Cis_off
  have CLpower := okLpower (P := P) (w := w) (base := base) T 
  have CLtakes := okLtakes (P := P) (w := w) (base := base) T 
  have CLon := okLon (P := P) (w := w) (base := base) T CLtakes
  exact oklaw F T CLdraws CLladder CLwords CLon CLsame Ccount_on_ladders Cfirst_off CLpower
/-- the law, of the script alone -/
def spLaw (K : PySem.W.Frag) : Sp := fun vs H Q _ => ∃ (a : Addr) (ns : List Int), vs = [.ref a] ∧ SqL K H a (ns.map V.int) ∧ ns.length ≤ 63 ∧ Only H ∧ ∀ H', Q (.bl true) H'
theorem all_mk (hm : ∀ ns : List Int, ns.length ≤ 63 → Mlaw [.lst (ns.map D.int)] = .ok (.bl true)) {P : Program} {w : World} {K : PySem.W.Frag} {h : Heap} {mg : Str → Option Value} {fa : Addr} (X : K.In h) (G : h.Ns mainGlobals mg) (hfa : mg "law" = some (.ref fa))
    {f0 : Addr} {od0 an0 : Option Addr} {sl0 : Array (Option Value)} {oc0 kV0 dc0 pm0 cd0 ct0 : Value} {f1 : Addr} {od1 an1 : Option Addr} {sl1 : Array (Option Value)} {oc1 kV1 dc1 pm1 cd1 ct1 : Value} {f2 : Addr} {od2 an2 : Option Addr} {sl2 : Array (Option Value)} {oc2 kV2 dc2 pm2 cd2 ct2 : Value} {f3 : Addr} {od3 an3 : Option Addr} {sl3 : Array (Option Value)} {oc3 kV3 dc3 pm3 cd3 ct3 : Value} {f4 : Addr} {od4 an4 : Option Addr} {sl4 : Array (Option Value)} {oc4 kV4 dc4 pm4 cd4 ct4 : Value} {f5 : Addr} {od5 an5 : Option Addr} {sl5 : Array (Option Value)} {oc5 kV5 dc5 pm5 cd5 ct5 : Value} {f6 : Addr} {od6 an6 : Option Addr} {sl6 : Array (Option Value)} {oc6 kV6 dc6 pm6 cd6 ct6 : Value} {f7 : Addr} {od7 an7 : Option Addr} {sl7 : Array (Option Value)} {oc7 kV7 dc7 pm7 cd7 ct7 : Value} {f8 : Addr} {od8 an8 : Option Addr} {sl8 : Array (Option Value)} {oc8 kV8 dc8 pm8 cd8 ct8 : Value} {f9 : Addr} {od9 an9 : Option Addr} {sl9 : Array (Option Value)} {oc9 kV9 dc9 pm9 cd9 ct9 : Value} {f10 : Addr} {od10 an10 : Option Addr} {sl10 : Array (Option Value)} {oc10 kV10 dc10 pm10 cd10 ct10 : Value} {f11 : Addr} {od11 an11 : Option Addr} {sl11 : Array (Option Value)} {oc11 kV11 dc11 pm11 cd11 ct11 : Value} {f12 : Addr} {od12 an12 : Option Addr} {sl12 : Array (Option Value)} {oc12 kV12 dc12 pm12 cd12 ct12 : Value} {f13 : Addr} {od13 an13 : Option Addr} {sl13 : Array (Option Value)} {oc13 kV13 dc13 pm13 cd13 ct13 : Value} {f14 : Addr} {od14 an14 : Option Addr} {sl14 : Array (Option Value)} {oc14 kV14 dc14 pm14 cd14 ct14 : Value} {f15 : Addr} {od15 an15 : Option Addr} {sl15 : Array (Option Value)} {oc15 kV15 dc15 pm15 cd15 ct15 : Value} {f16 : Addr} {od16 an16 : Option Addr} {sl16 : Array (Option Value)} {oc16 kV16 dc16 pm16 cd16 ct16 : Value} {t0 : Tok}
    (a0 : PySem.W.nsIn K mainGlobals "_law_number" = some (some (.ref f0))) (l0 : K.lookup f0 = some ⟨oc0, od0, .func (PySem.W.fnOf "_law_number" "_law_number" (defArgs sLnumber) (defBody sLnumber) (defScope sLnumber) .none kV0 dc0 pm0 an0 cd0 ct0), sl0⟩) (c0 : PySem.W.codeIn K cd0 "_law_number" = true) (k0 : PySem.W.keepIn K (.ref f0) = true)
    (a1 : PySem.W.nsIn K mainGlobals "_law_draws" = some (some (.ref f1))) (l1 : K.lookup f1 = some ⟨oc1, od1, .func (PySem.W.fnOf "_law_draws" "_law_draws" (defArgs sLdraws) (defBody sLdraws) (defScope sLdraws) .none kV1 dc1 pm1 an1 cd1 ct1), sl1⟩) (c1 : PySem.W.codeIn K cd1 "_law_draws" = true) (k1 : PySem.W.keepIn K (.ref f1) = true)
    (a2 : PySem.W.nsIn K mainGlobals "_law_words" = some (some (.ref f2))) (l2 : K.lookup f2 = some ⟨oc2, od2, .func (PySem.W.fnOf "_law_words" "_law_words" (defArgs sLwords) (defBody sLwords) (defScope sLwords) .none kV2 dc2 pm2 an2 cd2 ct2), sl2⟩) (c2 : PySem.W.codeIn K cd2 "_law_words" = true) (k2 : PySem.W.keepIn K (.ref f2) = true)
    (a3 : PySem.W.nsIn K mainGlobals "begun_places" = some (some (.ref f3))) (l3 : K.lookup f3 = some ⟨oc3, od3, .func (PySem.W.fnOf "begun_places" "begun_places" (defArgs sbegun_places) (defBody sbegun_places) (defScope sbegun_places) .none kV3 dc3 pm3 an3 cd3 ct3), sl3⟩) (c3 : PySem.W.codeIn K cd3 "begun_places" = true) (k3 : PySem.W.keepIn K (.ref f3) = true)
    (a4 : PySem.W.nsIn K mainGlobals "is_off" = some (some (.ref f4))) (l4 : K.lookup f4 = some ⟨oc4, od4, .func (PySem.W.fnOf "is_off" "is_off" (defArgs sis_off) (defBody sis_off) (defScope sis_off) .none kV4 dc4 pm4 an4 cd4 ct4), sl4⟩) (c4 : PySem.W.codeIn K cd4 "is_off" = true) (k4 : PySem.W.keepIn K (.ref f4) = true)
    (a5 : PySem.W.nsIn K mainGlobals "takes" = some (some (.ref f5))) (l5 : K.lookup f5 = some ⟨oc5, od5, .func (PySem.W.fnOf "takes" "takes" (defArgs stakes) (defBody stakes) (defScope stakes) .none kV5 dc5 pm5 an5 cd5 ct5), sl5⟩) (c5 : PySem.W.codeIn K cd5 "takes" = true) (k5 : PySem.W.keepIn K (.ref f5) = true)
    (a6 : PySem.W.nsIn K mainGlobals "climbed_place" = some (some (.ref f6))) (l6 : K.lookup f6 = some ⟨oc6, od6, .func (PySem.W.fnOf "climbed_place" "climbed_place" (defArgs sclimbed_place) (defBody sclimbed_place) (defScope sclimbed_place) .none kV6 dc6 pm6 an6 cd6 ct6), sl6⟩) (c6 : PySem.W.codeIn K cd6 "climbed_place" = true) (k6 : PySem.W.keepIn K (.ref f6) = true)
    (a7 : PySem.W.nsIn K mainGlobals "climbed_places" = some (some (.ref f7))) (l7 : K.lookup f7 = some ⟨oc7, od7, .func (PySem.W.fnOf "climbed_places" "climbed_places" (defArgs sclimbed_places) (defBody sclimbed_places) (defScope sclimbed_places) .none kV7 dc7 pm7 an7 cd7 ct7), sl7⟩) (c7 : PySem.W.codeIn K cd7 "climbed_places" = true) (k7 : PySem.W.keepIn K (.ref f7) = true)
    (a8 : PySem.W.nsIn K mainGlobals "first_off" = some (some (.ref f8))) (l8 : K.lookup f8 = some ⟨oc8, od8, .func (PySem.W.fnOf "first_off" "first_off" (defArgs sfirst_off) (defBody sfirst_off) (defScope sfirst_off) .none kV8 dc8 pm8 an8 cd8 ct8), sl8⟩) (c8 : PySem.W.codeIn K cd8 "first_off" = true) (k8 : PySem.W.keepIn K (.ref f8) = true)
    (a9 : PySem.W.nsIn K mainGlobals "_law_same" = some (some (.ref f9))) (l9 : K.lookup f9 = some ⟨oc9, od9, .func (PySem.W.fnOf "_law_same" "_law_same" (defArgs sLsame) (defBody sLsame) (defScope sLsame) .none kV9 dc9 pm9 an9 cd9 ct9), sl9⟩) (c9 : PySem.W.codeIn K cd9 "_law_same" = true) (k9 : PySem.W.keepIn K (.ref f9) = true)
    (a10 : PySem.W.nsIn K mainGlobals "_law_ladder" = some (some (.ref f10))) (l10 : K.lookup f10 = some ⟨oc10, od10, .func (PySem.W.fnOf "_law_ladder" "_law_ladder" (defArgs sLladder) (defBody sLladder) (defScope sLladder) .none kV10 dc10 pm10 an10 cd10 ct10), sl10⟩) (c10 : PySem.W.codeIn K cd10 "_law_ladder" = true) (k10 : PySem.W.keepIn K (.ref f10) = true)
    (a11 : PySem.W.nsIn K mainGlobals "counted_places" = some (some (.ref f11))) (l11 : K.lookup f11 = some ⟨oc11, od11, .func (PySem.W.fnOf "counted_places" "counted_places" (defArgs scounted_places) (defBody scounted_places) (defScope scounted_places) .none kV11 dc11 pm11 an11 cd11 ct11), sl11⟩) (c11 : PySem.W.codeIn K cd11 "counted_places" = true) (k11 : PySem.W.keepIn K (.ref f11) = true)
    (a12 : PySem.W.nsIn K mainGlobals "count_on_ladders" = some (some (.ref f12))) (l12 : K.lookup f12 = some ⟨oc12, od12, .func (PySem.W.fnOf "count_on_ladders" "count_on_ladders" (defArgs scount_on_ladders) (defBody scount_on_ladders) (defScope scount_on_ladders) .none kV12 dc12 pm12 an12 cd12 ct12), sl12⟩) (c12 : PySem.W.codeIn K cd12 "count_on_ladders" = true) (k12 : PySem.W.keepIn K (.ref f12) = true)
    (a13 : PySem.W.nsIn K mainGlobals "_law_power" = some (some (.ref f13))) (l13 : K.lookup f13 = some ⟨oc13, od13, .func (PySem.W.fnOf "_law_power" "_law_power" (defArgs sLpower) (defBody sLpower) (defScope sLpower) .none kV13 dc13 pm13 an13 cd13 ct13), sl13⟩) (c13 : PySem.W.codeIn K cd13 "_law_power" = true) (k13 : PySem.W.keepIn K (.ref f13) = true)
    (a14 : PySem.W.nsIn K mainGlobals "_law_takes" = some (some (.ref f14))) (l14 : K.lookup f14 = some ⟨oc14, od14, .func (PySem.W.fnOf "_law_takes" "_law_takes" (defArgs sLtakes) (defBody sLtakes) (defScope sLtakes) .none kV14 dc14 pm14 an14 cd14 ct14), sl14⟩) (c14 : PySem.W.codeIn K cd14 "_law_takes" = true) (k14 : PySem.W.keepIn K (.ref f14) = true)
    (a15 : PySem.W.nsIn K mainGlobals "_law_on" = some (some (.ref f15))) (l15 : K.lookup f15 = some ⟨oc15, od15, .func (PySem.W.fnOf "_law_on" "_law_on" (defArgs sLon) (defBody sLon) (defScope sLon) .none kV15 dc15 pm15 an15 cd15 ct15), sl15⟩) (c15 : PySem.W.codeIn K cd15 "_law_on" = true) (k15 : PySem.W.keepIn K (.ref f15) = true)
    (a16 : PySem.W.nsIn K mainGlobals "law" = some (some (.ref f16))) (l16 : K.lookup f16 = some ⟨oc16, od16, .func (PySem.W.fnOf "law" "law" (defArgs slaw) (defBody slaw) (defScope slaw) .none kV16 dc16 pm16 an16 cd16 ct16), sl16⟩) (c16 : PySem.W.codeIn K cd16 "law" = true) (k16 : PySem.W.keepIn K (.ref f16) = true)
    (z0 : PySem.W.nsIn K mainGlobals "abs" = some none) (z1 : PySem.W.nsIn K mainGlobals "bool" = some none) (z2 : PySem.W.nsIn K mainGlobals "int" = some none) (z3 : PySem.W.nsIn K mainGlobals "isinstance" = some none) (z4 : PySem.W.nsIn K mainGlobals "len" = some none) (z5 : PySem.W.nsIn K mainGlobals "list" = some none) (z6 : PySem.W.nsIn K mainGlobals "range" = some none) (z7 : PySem.W.nsIn K mainGlobals "str" = some none) (z8 : PySem.W.nsIn K mainGlobals "sum" = some none) (z9 : PySem.W.nsIn K mainGlobals "tuple" = some none)
    (q0 : PySem.W.nsIn K mainGlobals "LETTERS" = some (some (.str "abc" t0))) :
    ∃ fd : FuncData, (∀ (s : Shared) (v : Value), BindsTo s fd ⟨[v], []⟩ [("script", v)]) ∧ ∀ base : Heap, K.In base → base.Ns mainGlobals mg → FnOk P w K mg base CX0 65 fa fd ["script"] (spLaw K) := by
  have e := hfa.symm.trans (PySem.W.mg_of X G a16)
  cases e
  have F := fun_mk (st := slaw) l16 c16 k16
  have T : Txt K mg := ⟨⟨⟨_, _, fun_mk (st := sLnumber) l0 c0 k0, PySem.W.mg_of X G a0⟩⟩, ⟨⟨_, _, fun_mk (st := sLdraws) l1 c1 k1, PySem.W.mg_of X G a1⟩⟩, ⟨⟨_, _, fun_mk (st := sLwords) l2 c2 k2, PySem.W.mg_of X G a2⟩⟩, ⟨⟨_, _, fun_mk (st := sbegun_places) l3 c3 k3, PySem.W.mg_of X G a3⟩⟩, ⟨⟨_, _, fun_mk (st := sis_off) l4 c4 k4, PySem.W.mg_of X G a4⟩⟩, ⟨⟨_, _, fun_mk (st := stakes) l5 c5 k5, PySem.W.mg_of X G a5⟩⟩, ⟨⟨_, _, fun_mk (st := sclimbed_place) l6 c6 k6, PySem.W.mg_of X G a6⟩⟩, ⟨⟨_, _, fun_mk (st := sclimbed_places) l7 c7 k7, PySem.W.mg_of X G a7⟩⟩, ⟨⟨_, _, fun_mk (st := sfirst_off) l8 c8 k8, PySem.W.mg_of X G a8⟩⟩, ⟨⟨_, _, fun_mk (st := sLsame) l9 c9 k9, PySem.W.mg_of X G a9⟩⟩, ⟨⟨_, _, fun_mk (st := sLladder) l10 c10 k10, PySem.W.mg_of X G a10⟩⟩, ⟨⟨_, _, fun_mk (st := scounted_places) l11 c11 k11, PySem.W.mg_of X G a11⟩⟩, ⟨⟨_, _, fun_mk (st := scount_on_ladders) l12 c12 k12, PySem.W.mg_of X G a12⟩⟩, ⟨⟨_, _, fun_mk (st := sLpower) l13 c13 k13, PySem.W.mg_of X G a13⟩⟩, ⟨⟨_, _, fun_mk (st := sLtakes) l14 c14 k14, PySem.W.mg_of X G a14⟩⟩, ⟨⟨_, _, fun_mk (st := sLon) l15 c15 k15, PySem.W.mg_of X G a15⟩⟩, ⟨⟨_, _, fun_mk (st := slaw) l16 c16 k16, PySem.W.mg_of X G a16⟩⟩, PySem.W.mg_none_of X G z0, PySem.W.mg_none_of X G z1, PySem.W.mg_none_of X G z2, PySem.W.mg_none_of X G z3, PySem.W.mg_none_of X G z4, PySem.W.mg_none_of X G z5, PySem.W.mg_none_of X G z6, PySem.W.mg_none_of X G z7, PySem.W.mg_none_of X G z8, PySem.W.mg_none_of X G z9, ⟨_, PySem.W.mg_of X G q0⟩⟩
  refine ⟨_, fun s v => .of_eq rfl, fun base _ _ => FnOk.imp (all F T) fun vs H Q E hsp => ?_⟩
  obtain ⟨a, ns, rfl, hS, hl, hO, q⟩ := hsp
  refine ⟨H, [.lst (ns.map D.int)], rfl, Same.refl _, fun _ _ e _ => e, .cons (.lst hS (RpL.ofInt ns)) .nil, ?_⟩
  rw [hm ns hl]
  intro v G' H' _ _ _ _ _ r
  cases r.blH
  exact q H'
end GW

open PySem PySem.W PyProof.Rows
set_option maxHeartbeats 0 in
theorem PySem.Challenge.cw_viewedwords_k47_words_on_ladders_counted_holds : PySem.Challenge.rw_viewedwords_k47_words_on_ladders_counted.Holds := by
  w_on; o_law; k_head; (case hw => w_witness2)
  k_fill
  refine L2.walk_of (l := PySem.Challenge.rw_viewedwords_k47_words_on_ladders_counted) (n := 63) (k := 65) (x := "script") (CX := fun _ => L2.CX0) (sp := fun w => GW.spLaw _) rfl (by decide) rfl ⟨rfl, by decide, by decide⟩ (fun w h Y => PySem.W.kIn_of Y) ?F (fun _ _ a ns hl hO hS => ⟨a, ns, rfl, hS, hl, hO, fun _ => rfl⟩) (fun _ _ _ _ _ h => h)
  case F =>
    intro w mg fa h KX G hmg
    refine' GW.all_mk (fun ns _ => GW.law_ok ns) KX G hmg ?a0 ?l0 ?c0 ?k0 ?a1 ?l1 ?c1 ?k1 ?a2 ?l2 ?c2 ?k2 ?a3 ?l3 ?c3 ?k3 ?a4 ?l4 ?c4 ?k4 ?a5 ?l5 ?c5 ?k5 ?a6 ?l6 ?c6 ?k6 ?a7 ?l7 ?c7 ?k7 ?a8 ?l8 ?c8 ?k8 ?a9 ?l9 ?c9 ?k9 ?a10 ?l10 ?c10 ?k10 ?a11 ?l11 ?c11 ?k11 ?a12 ?l12 ?c12 ?k12 ?a13 ?l13 ?c13 ?k13 ?a14 ?l14 ?c14 ?k14 ?a15 ?l15 ?c15 ?k15 ?a16 ?l16 ?c16 ?k16 ?z0 ?z1 ?z2 ?z3 ?z4 ?z5 ?z6 ?z7 ?z8 ?z9 ?q0
    (case a0 => k_is); (case l0 => k_is); (case c0 => k_is); (case k0 => k_is); (case a1 => k_is); (case l1 => k_is); (case c1 => k_is); (case k1 => k_is); (case a2 => k_is); (case l2 => k_is); (case c2 => k_is); (case k2 => k_is); (case a3 => k_is); (case l3 => k_is); (case c3 => k_is); (case k3 => k_is); (case a4 => k_is); (case l4 => k_is); (case c4 => k_is); (case k4 => k_is); (case a5 => k_is); (case l5 => k_is); (case c5 => k_is); (case k5 => k_is); (case a6 => k_is); (case l6 => k_is); (case c6 => k_is); (case k6 => k_is); (case a7 => k_is); (case l7 => k_is); (case c7 => k_is); (case k7 => k_is); (case a8 => k_is); (case l8 => k_is); (case c8 => k_is); (case k8 => k_is); (case a9 => k_is); (case l9 => k_is); (case c9 => k_is); (case k9 => k_is); (case a10 => k_is); (case l10 => k_is); (case c10 => k_is); (case k10 => k_is); (case a11 => k_is); (case l11 => k_is); (case c11 => k_is); (case k11 => k_is); (case a12 => k_is); (case l12 => k_is); (case c12 => k_is); (case k12 => k_is); (case a13 => k_is); (case l13 => k_is); (case c13 => k_is); (case k13 => k_is); (case a14 => k_is); (case l14 => k_is); (case c14 => k_is); (case k14 => k_is); (case a15 => k_is); (case l15 => k_is); (case c15 => k_is); (case k15 => k_is); (case a16 => k_is); (case l16 => k_is); (case c16 => k_is); (case k16 => k_is); (case z0 => k_is); (case z1 => k_is); (case z2 => k_is); (case z3 => k_is); (case z4 => k_is); (case z5 => k_is); (case z6 => k_is); (case z7 => k_is); (case z8 => k_is); (case z9 => k_is); (case q0 => k_is)

