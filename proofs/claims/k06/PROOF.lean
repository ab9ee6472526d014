import PyProof.Rows.All
import Wide.All
import OpenK.AllK
import Wide.FinOn
import HandS.ForMost
import HandS.Deep
import HandS.TupAny
import HandS.IsInst
import HandS.Replace
import HandS.Sort
import HandS.SortInts
import HandS.Conv
import HandS.More
import HandS.List
import HandS.Small
import HandS.Iter
import HandS.DictComp
import HandS.Style
import KE.SortKeyHeap
import HandS.SortKw
import HandS.Words
import KE.DataMinKey
import KE.DataCmp
import KE.KDictKeyed
import KE.KDictDisplayH
import HandS.TupLen
import KE.KDictWalk
import KE.KExcSuper
import KE.KSuper
import KE.RegKSuper
import HandS.ExcInit
import HandS.ExcField
import HandS.ExcOwn
import HandS.WordsExc
import PySem.Challenge.RW_viewedwords_k06_words_read_backwards
set_option Elab.async false
set_option linter.all false
set_option maxRecDepth 100000
set_option maxHeartbeats 4000000
/-! VS: values of Python as deep data, over the abstract heap of the hand layer. -/
namespace VS
open PySem PySem.Spec PyProof.Rows L2

/-! ### data -/
/-- a text by its codes -/
def S (l : List Nat) : Str := ⟨l.toArray⟩
inductive D where
  | non | bl (b : Bool) | int (i : Int) | str (l : List Nat)
  | tup (ds : List D) | lst (ds : List D)
  | dic (ks vs : List D) | dlk (ks vs : List D) | ndk (ks vs : List D) | nlk (ks vs : List D) | rng (lo hi : Int) | obj (C : Str) (fs : List Str) (vs : List D)
  deriving Inhabited
/-- a value, an error, or no word -/
inductive R (α : Type) where
  | ok (a : α) | ex (e : D) | stuck
def R.bind {α β : Type} (x : R α) (f : α → R β) : R β :=
  match x with
  | .ok a => f a
  | .ex e => .ex e
  | .stuck => .stuck
instance : Monad R where
  pure := .ok
  bind := R.bind
@[simp] theorem ok_bind {α β : Type} (a : α) (f : α → R β) : (R.ok a >>= f) = f a := rfl
@[simp] theorem ex_bind {α β : Type} (e : D) (f : α → R β) : ((R.ex e : R α) >>= f) = .ex e := rfl
@[simp] theorem stuck_bind {α β : Type} (f : α → R β) : ((R.stuck : R α) >>= f) = .stuck := rfl
@[simp] theorem pure_ok {α : Type} (a : α) : (pure a : R α) = .ok a := rfl

structure Wd where
  K : PySem.W.Frag
  mg : Str → Option Value
  w : World

mutual
/-- a key of a dict whose keys are tuples: what it is up to == -/
def D.nq : D → Option NestedKey
  | .non => some .none
  | .bl b => some (.num (if b then 1 else 0))
  | .int i => some (.num i)
  | .str l => some (.text (S l))
  | .tup ds => (D.nqs ds).map .tup
  | _ => none
def D.nqs : List D → Option (List NestedKey)
  | [] => some []
  | d :: ds => (D.nq d).bind fun k => (D.nqs ds).map (k :: ·)
end
/-- .. a tuple, not too deep -/
def D.nk : D → Option NestedKey
  | .tup ds => (D.nq (.tup ds)).bind fun k => if k.depth ≤ 8 then some k else none
  | _ => none
/-- a dict with these entries: key, where it stands, value -/
def dN (w : World) (a : Addr) (xs : List (NestedKey × Addr × Value)) : HO := .ext fun h => (a == sysModules) = false ∧ ∃ o es ep, h.get? a = some o ∧ o.ExactDict ∧ o.data = .dict es ep ∧ es.toList = xs.map fun x => ⟨x.1.hash w, .ref x.2.1, x.2.2⟩
/-- a range lo .. hi - 1 -/
def rngO (a : Addr) (lo hi : Int) : HO := .ext fun h => ∃ t u v, IsRange h a lo hi 1 t u v
/-- an exception that was caught, as it stands -/
def exq (a : Addr) (oe : Obj) : HO := .ext fun h => h.get? a = some oe
def hdO (fvs : List (Str × V)) : Prop := ∀ p ∈ fvs.head?, p.1 ≠ ("!" : Str)
/-- an object, or an exception that was caught (marked by a first field "!"), with its fields -/
def ObL (G : Hp) (a C dx : Addr) (fvs : List (Str × V)) : Prop := (G a = some (.ins C dx fvs) ∧ hdO fvs) ∨ ∃ oe xs, fvs = (("!" : Str), V.non) :: xs ∧ G a = some (exq a oe) ∧ oe.cls = .ref C ∧ oe.dict = some dx ∧ (∃ vs, oe.data = .fields vs) ∧ G dx = some (.xd xs)
/-- a key of a plain dict -/
def D.key : D → Option Key
  | .int i => some (.inl i)
  | .str l => some (.inr (S l))
  | _ => none

mutual
inductive Rp (E : Wd) (G : Hp) : V → D → Prop
  | non : Rp E G .non .non
  | bl (b : Bool) : Rp E G (.bl b) (.bl b)
  | int (i : Int) : Rp E G (.int i) (.int i)
  | str (l : List Nat) : Rp E G (.str (S l)) (.str l)
  | tup {a : Addr} {vs : List V} {ds : List D} : SqT E.K G a vs → RpL E G vs ds → Rp E G (.ref a) (.tup ds)
  | lst {a : Addr} {vs : List V} {ds : List D} : SqL E.K G a vs → RpL E G vs ds → Rp E G (.ref a) (.lst ds)
  | dic {a : Addr} {kvs : List (Key × V)} {ks ds : List D} : Rd G a (.dK kvs) → ks.map D.key = kvs.map (fun p => some p.1) → RpL E G (kvs.map (·.2)) ds → Rp E G (.ref a) (.dic ks ds)
  | dlk {a : Addr} {o : Obj} {kvs : List (Key × V)} {ks ds : List D} : G a = some (.frz o (.dK kvs)) → ks.map D.key = kvs.map (fun p => some p.1) → RpL E G (kvs.map (·.2)) ds → Rp E G (.ref a) (.dlk ks ds)
  | ndk {a : Addr} {xs : List (NestedKey × Addr × Value)} {vs : List V} {ks ds : List D} : Rd G a (dN E.w a xs) → ks.map D.nk = xs.map (fun x => some x.1) → (xs.map (·.1)).Nodup → Vals vs (xs.map fun x => x.2.2) → RpL E G (xs.map fun x => V.ref x.2.1) ks → RpL E G vs ds → Rp E G (.ref a) (.ndk ks ds)
  | nlk {a : Addr} {o : Obj} {xs : List (NestedKey × Addr × Value)} {vs : List V} {ks ds : List D} : G a = some (.frz o (dN E.w a xs)) → ks.map D.nk = xs.map (fun x => some x.1) → (xs.map (·.1)).Nodup → Vals vs (xs.map fun x => x.2.2) → RpL E G (xs.map fun x => V.ref x.2.1) ks → RpL E G vs ds → Rp E G (.ref a) (.nlk ks ds)
  | rng {a : Addr} {lo hi : Int} : G a = some (rngO a lo hi) → -(2 ^ 62) ≤ lo → lo < 2 ^ 62 → -(2 ^ 62) ≤ hi → hi < 2 ^ 62 → Rp E G (.ref a) (.rng lo hi)
  | obj {a C dx : Addr} {nm : Str} {fvs : List (Str × V)} {fs : List Str} {ds : List D} : ObL G a C dx fvs → E.mg nm = some (.ref C) → fs = fvs.map (·.1) → RpL E G (fvs.map (·.2)) ds → Rp E G (.ref a) (.obj nm fs ds)
inductive RpL (E : Wd) (G : Hp) : List V → List D → Prop
  | nil : RpL E G [] []
  | cons {v : V} {vs : List V} {d : D} {ds : List D} : Rp E G v d → RpL E G vs ds → RpL E G (v :: vs) (d :: ds)
end

section
variable {E : Wd} {G G' H H' : Hp}
theorem Same.rd (s : Same G G') {a : Addr} {u : HO} (h : Rd G a u) : Rd G' a u := by
  rcases h with h | ⟨o, h⟩
  · exact .inl (s a _ h)
  · exact .inr ⟨o, s a _ h⟩
theorem Same.sqL {K : PySem.W.Frag} (s : Same G G') {a : Addr} {xs : List V} (h : SqL K G a xs) : SqL K G' a xs := s.seq h
theorem Same.sqT {K : PySem.W.Frag} (s : Same G G') {a : Addr} {xs : List V} (h : SqT K G a xs) : SqT K G' a xs := by
  rcases h with h | h
  · exact .inl (Same.rd s h)
  · exact .inr h
theorem ObL.mono (s : Same G G') {a C dx : Addr} {fvs : List (Str × V)} (h : ObL G a C dx fvs) : ObL G' a C dx fvs := by
  rcases h with ⟨h, k⟩ | ⟨oe, xs, e, h1, h2, h3, h4, h5⟩
  · exact .inl ⟨s _ _ h, k⟩
  · exact .inr ⟨oe, xs, e, s _ _ h1, h2, h3, h4, s _ _ h5⟩
mutual
theorem Rp.mono (s : Same G G') : ∀ {v : V} {d : D}, Rp E G v d → Rp E G' v d
  | _, _, .non => .non
  | _, _, .bl b => .bl b
  | _, _, .int i => .int i
  | _, _, .str l => .str l
  | _, _, .tup h r => .tup (Same.sqT s h) (RpL.mono s r)
  | _, _, .lst h r => .lst (Same.sqL s h) (RpL.mono s r)
  | _, _, .dic h e r => .dic (Same.rd s h) e (RpL.mono s r)
  | _, _, .dlk h e r => .dlk (s _ _ h) e (RpL.mono s r)
  | _, _, .ndk h e n y k r => .ndk (Same.rd s h) e n y (RpL.mono s k) (RpL.mono s r)
  | _, _, .nlk h e n y k r => .nlk (s _ _ h) e n y (RpL.mono s k) (RpL.mono s r)
  | _, _, .rng h h1 h2 h3 h4 => .rng (s _ _ h) h1 h2 h3 h4
  | _, _, .obj h e f r => .obj (h.mono s) e f (RpL.mono s r)
theorem RpL.mono (s : Same G G') : ∀ {vs : List V} {ds : List D}, RpL E G vs ds → RpL E G' vs ds
  | _, _, .nil => .nil
  | _, _, .cons h r => .cons (Rp.mono s h) (RpL.mono s r)
end
theorem RpL.length {vs : List V} {ds : List D} (h : RpL E G vs ds) : vs.length = ds.length := by
  induction ds generalizing vs with
  | nil => cases h; rfl
  | cons d ds ih => cases h with | cons h r => simp [ih r]
theorem RpL.get {vs : List V} {ds : List D} (h : RpL E G vs ds) {i : Nat} {d : D} (e : ds[i]? = some d) : ∃ v, vs[i]? = some v ∧ Rp E G v d := by
  induction ds generalizing vs i with
  | nil => simp at e
  | cons d' ds ih =>
    cases h with
    | cons h r =>
      cases i with
      | zero => simp at e; subst e; exact ⟨_, rfl, h⟩
      | succ i => simp at e; obtain ⟨v, e1, e2⟩ := ih r e; exact ⟨v, by simpa using e1, e2⟩
theorem RpL.getV {vs : List V} {ds : List D} (h : RpL E G vs ds) {i : Nat} {v : V} (e : vs[i]? = some v) : ∃ d, ds[i]? = some d ∧ Rp E G v d := by
  induction ds generalizing vs i with
  | nil => cases h; simp at e
  | cons d' ds ih =>
    cases h with
    | cons h r =>
      cases i with
      | zero => simp at e; subst e; exact ⟨_, rfl, h⟩
      | succ i => simp at e; obtain ⟨v, e1, e2⟩ := ih r e; exact ⟨v, by simpa using e1, e2⟩
theorem RpL.append {vs ws : List V} {ds es : List D} (h : RpL E G vs ds) (k : RpL E G ws es) : RpL E G (vs ++ ws) (ds ++ es) := by
  induction ds generalizing vs with
  | nil => cases h; exact k
  | cons d ds ih => cases h with | cons h r => exact .cons h (ih r)
theorem RpL.take {vs : List V} {ds : List D} (h : RpL E G vs ds) (n : Nat) : RpL E G (vs.take n) (ds.take n) := by
  induction n generalizing vs ds with
  | zero => simp; exact .nil
  | succ n ih => cases h with
    | nil => simp; exact .nil
    | cons h r => simp; exact .cons h (ih r)
theorem RpL.drop {vs : List V} {ds : List D} (h : RpL E G vs ds) (n : Nat) : RpL E G (vs.drop n) (ds.drop n) := by
  induction n generalizing vs ds with
  | zero => simpa using h
  | succ n ih => cases h with
    | nil => simp; exact .nil
    | cons h r => simpa using ih r
theorem RpL.reverse {vs : List V} {ds : List D} (h : RpL E G vs ds) : RpL E G vs.reverse ds.reverse := by
  induction ds generalizing vs with
  | nil => cases h; exact .nil
  | cons d ds ih => cases h with | cons h r => rw [List.reverse_cons, List.reverse_cons]; exact (ih r).append (.cons h .nil)
theorem RpL.set {vs : List V} {ds : List D} (h : RpL E G vs ds) {v : V} {d : D} (r : Rp E G v d) (i : Nat) : RpL E G (vs.set i v) (ds.set i d) := by
  induction ds generalizing vs i with
  | nil => cases h; exact .nil
  | cons d' ds ih =>
    cases h with
    | cons h1 r1 => cases i with
      | zero => exact .cons r r1
      | succ i => exact .cons h1 (ih r1 i)
theorem RpL.int {vs : List V} {ns : List Int} (h : RpL E G vs (ns.map D.int)) : vs = ns.map V.int := by
  induction ns generalizing vs with
  | nil => cases h; rfl
  | cons n ns ih => cases h with | cons h r => cases h; simp [ih r]
theorem RpL.ofInt (ns : List Int) : RpL E G (ns.map V.int) (ns.map D.int) := by
  induction ns with
  | nil => exact .nil
  | cons n ns ih => exact .cons (.int n) ih

/-! ### owned trees -/
end
inductive O where
  | v (d : D) | lst (os : List O) | dic (ks : List D) (os : List O) | ndc (ks : List D) (os : List O) | obj (C : Str) (fs : List Str) (os : List O)
  deriving Inhabited
mutual
def O.toD : O → D
  | .v d => d
  | .lst os => .lst (O.toDs os)
  | .dic ks os => .dic ks (O.toDs os)
  | .ndc ks os => .ndk ks (O.toDs os)
  | .obj C fs os => .obj C fs (O.toDs os)
def O.toDs : List O → List D
  | [] => []
  | o :: os => O.toD o :: O.toDs os
end
@[simp] theorem O.toDs_map (os : List O) : O.toDs os = os.map O.toD := by
  induction os with
  | nil => rfl
  | cons o os ih => simp [O.toDs, ih]
mutual
inductive Own (E : Wd) (G H : Hp) : V → O → List Addr → Prop
  | v {v : V} {d : D} : Rp E G v d → Own E G H v (.v d) []
  | lst {a : Addr} {vs : List V} {os : List O} {fp : List Addr} : H a = some (.lst vs) → OwnL E G H vs os fp → Own E G H (.ref a) (.lst os) (a :: fp)
  | dic {a : Addr} {kvs : List (Key × V)} {ks : List D} {os : List O} {fp : List Addr} : H a = some (.dK kvs) → ks.map D.key = kvs.map (fun p => some p.1) → OwnL E G H (kvs.map (·.2)) os fp → Own E G H (.ref a) (.dic ks os) (a :: fp)
  | ndc {a : Addr} {xs : List (NestedKey × Addr × Value)} {vs : List V} {ks : List D} {os : List O} {fp : List Addr} : H a = some (dN E.w a xs) → ks.map D.nk = xs.map (fun x => some x.1) → (xs.map (·.1)).Nodup → Vals vs (xs.map fun x => x.2.2) → RpL E G (xs.map fun x => V.ref x.2.1) ks → OwnL E G H vs os fp → Own E G H (.ref a) (.ndc ks os) (a :: fp)
  | obj {a C dx : Addr} {nm : Str} {fvs : List (Str × V)} {fs : List Str} {os : List O} {fp : List Addr} : H a = some (.ins C dx fvs) → (E.mg nm = some (.ref C) ∧ hdO fvs) → fs = fvs.map (·.1) → OwnL E G H (fvs.map (·.2)) os fp → Own E G H (.ref a) (.obj nm fs os) (a :: fp)
inductive OwnL (E : Wd) (G H : Hp) : List V → List O → List Addr → Prop
  | nil : OwnL E G H [] [] []
  | cons {v : V} {vs : List V} {o : O} {os : List O} {fp fq : List Addr} : Own E G H v o fp → OwnL E G H vs os fq → OwnL E G H (v :: vs) (o :: os) (fp ++ fq)
end
section
variable {E : Wd} {G G' H H' : Hp}
/-- what is owned stays where its own objects stay -/
theorem Own.keep (s : Same G G') : ∀ {v : V} {o : O} {fp : List Addr}, Own E G H v o fp → (∀ p ∈ fp, ∀ u, H p = some u → H' p = some u) → Own E G' H' v o fp := by
  intro v o fp h
  refine Own.rec (motive_1 := fun v o fp _ => (∀ p ∈ fp, ∀ u, H p = some u → H' p = some u) → Own E G' H' v o fp) (motive_2 := fun vs os fp _ => (∀ p ∈ fp, ∀ u, H p = some u → H' p = some u) → OwnL E G' H' vs os fp) ?_ ?_ ?_ ?_ ?_ ?_ ?_ h
  · intro v d r k; exact .v (r.mono s)
  · intro a vs os fp h r ih k; exact .lst (k a List.mem_cons_self _ h) (ih fun p hp => k p (List.mem_cons_of_mem _ hp))
  · intro a kvs ks os fp h e r ih k; exact .dic (k a List.mem_cons_self _ h) e (ih fun p hp => k p (List.mem_cons_of_mem _ hp))
  · intro a xs vs ks os fp h e n y kk r ih k; exact .ndc (k a List.mem_cons_self _ h) e n y (kk.mono s) (ih fun p hp => k p (List.mem_cons_of_mem _ hp))
  · intro a C dx nm fvs fs os fp h e f r ih k; exact .obj (k a List.mem_cons_self _ h) e f (ih fun p hp => k p (List.mem_cons_of_mem _ hp))
  · intro k; exact .nil
  · intro v vs o os fp fq h r ih1 ih2 k; exact .cons (ih1 fun p hp => k p (List.mem_append_left _ hp)) (ih2 fun p hp => k p (List.mem_append_right _ hp))
theorem OwnL.keep (s : Same G G') : ∀ {vs : List V} {os : List O} {fp : List Addr}, OwnL E G H vs os fp → (∀ p ∈ fp, ∀ u, H p = some u → H' p = some u) → OwnL E G' H' vs os fp := by
  intro vs os fp h
  induction os generalizing vs fp with
  | nil => cases h; intro _; exact .nil
  | cons o os ih => cases h with | cons h r => intro k; exact .cons (h.keep s fun p hp => k p (List.mem_append_left _ hp)) (ih r fun p hp => k p (List.mem_append_right _ hp))
/-- an owned tree may be read as data -/
theorem Own.rp (s : Same G H) : ∀ {v : V} {o : O} {fp : List Addr}, Own E G H v o fp → (∀ p ∈ fp, ∀ u, H p = some u → H' p = some u) → Same G H' → Rp E H' v o.toD := by
  intro v o fp h
  refine Own.rec (motive_1 := fun v o fp _ => (∀ p ∈ fp, ∀ u, H p = some u → H' p = some u) → Same G H' → Rp E H' v o.toD) (motive_2 := fun vs os fp _ => (∀ p ∈ fp, ∀ u, H p = some u → H' p = some u) → Same G H' → RpL E H' vs (O.toDs os)) ?_ ?_ ?_ ?_ ?_ ?_ ?_ h
  · intro v d r k g; rw [O.toD]; exact r.mono g
  · intro a vs os fp h r ih k g; rw [O.toD]; exact .lst (.inl (.inl (k a List.mem_cons_self _ h))) (ih (fun p hp => k p (List.mem_cons_of_mem _ hp)) g)
  · intro a kvs ks os fp h e r ih k g; rw [O.toD]; exact .dic (.inl (k a List.mem_cons_self _ h)) e (ih (fun p hp => k p (List.mem_cons_of_mem _ hp)) g)
  · intro a xs vs ks os fp h e n y kk r ih k g; rw [O.toD]; exact .ndk (.inl (k a List.mem_cons_self _ h)) e n y (kk.mono g) (ih (fun p hp => k p (List.mem_cons_of_mem _ hp)) g)
  · intro a C dx nm fvs fs os fp h e f r ih k g; rw [O.toD]; exact .obj (Or.inl ⟨k a List.mem_cons_self _ h, e.2⟩) e.1 f (ih (fun p hp => k p (List.mem_cons_of_mem _ hp)) g)
  · intro k g; rw [O.toDs]; exact .nil
  · intro v vs o os fp fq h r ih1 ih2 k g; rw [O.toDs]; exact .cons (ih1 (fun p hp => k p (List.mem_append_left _ hp)) g) (ih2 (fun p hp => k p (List.mem_append_right _ hp)) g)

/-! ### the names' values -/
end
abbrev Env := List (Option O)
inductive Cells (E : Wd) (G H : Hp) : Env → L2.St → List Addr → Prop
  | nil : Cells E G H [] [] []
  | no {c : Env} {σ : L2.St} {x : Option V} {fp : List Addr} : Cells E G H c σ fp → Cells E G H (none :: c) (x :: σ) fp
  | yes {c : Env} {σ : L2.St} {v : V} {o : O} {fp fq : List Addr} : Own E G H v o fp → Cells E G H c σ fq → Cells E G H (some o :: c) (some v :: σ) (fp ++ fq)
/-- the entry: the heap there, what is known there; the slots that stay; what is lent -/
structure Bs where
  H0 : Hp
  G0 : Hp
  pn : List (Nat × V)
  br : Addr → Prop
/-- a tuple, or one that is locked -/
def isT : HO → Bool
  | .tup _ => true
  | .frz _ (.tup _) => true
  | _ => false
structure Fine (B : Bs) (G H : Hp) : Prop where
  base : ∀ a o, B.H0 a = some o → ¬ B.br a → H a = some o
  there : ∀ a, H a = none → B.H0 a = none
  x : ∀ a, B.H0 a ≠ none → B.G0 a = none → G a = none
  le : Same G H
  tup : ∀ a u, H a = some u → isT u = true → G a = some u
structure Abs (E : Wd) (B : Bs) (G H : Hp) (c : Env) (σ : L2.St) (fp : List Addr) : Prop where
  fine : Fine B G H
  cells : Cells E G H c σ fp
  nd : fp.Nodup
  fresh : ∀ p ∈ fp, G p = none ∧ (B.H0 p = none ∨ B.br p)
  pin : ∀ q ∈ B.pn, σ[q.1]? = some (some q.2)
section
variable {E : Wd} {B : Bs} {G G' G'' H H' H'' : Hp} {c : Env} {σ : L2.St} {fp : List Addr}
theorem Cells.keep (s : Same G G') : ∀ {c : Env} {σ : L2.St} {fp : List Addr}, Cells E G H c σ fp → (∀ p ∈ fp, ∀ u, H p = some u → H' p = some u) → Cells E G' H' c σ fp
  | _, _, _, .nil, _ => .nil
  | _, _, _, .no h, k => .no (Cells.keep s h k)
  | _, _, _, .yes h r, k => .yes (h.keep s fun p hp => k p (List.mem_append_left _ hp)) (Cells.keep s r fun p hp => k p (List.mem_append_right _ hp))
theorem Cells.get : ∀ {c : Env} {σ : L2.St} {fp : List Addr} {i : Nat} {o : O}, Cells E G H c σ fp → c[i]? = some (some o) → ∃ v fq, σ[i]? = some (some v) ∧ Own E G H v o fq ∧ ∀ p ∈ fq, p ∈ fp
  | _, _, _, i, o, .nil, e => by simp at e
  | _, _, _, 0, o, .no h, e => by simp at e
  | _, _, _, i + 1, o, .no h, e => by
    obtain ⟨v, fq, e1, e2, e3⟩ := Cells.get (i := i) h (by simpa using e)
    exact ⟨v, fq, by simpa using e1, e2, e3⟩
  | _, _, _, 0, o, .yes h r, e => by simp at e; subst e; exact ⟨_, _, rfl, h, fun p hp => List.mem_append_left _ hp⟩
  | _, _, _, i + 1, o, .yes h r, e => by
    obtain ⟨v, fq, e1, e2, e3⟩ := Cells.get (i := i) r (by simpa using e)
    exact ⟨v, fq, by simpa using e1, e2, fun p hp => List.mem_append_right _ (e3 p hp)⟩
theorem Own.there : ∀ {v : V} {o : O} {fp : List Addr}, Own E G H v o fp → ∀ p ∈ fp, H p ≠ none := by
  intro v o fp h
  refine Own.rec (motive_1 := fun v o fp _ => ∀ p ∈ fp, H p ≠ none) (motive_2 := fun vs os fp _ => ∀ p ∈ fp, H p ≠ none) ?_ ?_ ?_ ?_ ?_ ?_ ?_ h
  · intro v d r p hp; cases hp
  · intro a vs os fp h r ih p hp
    rcases List.mem_cons.mp hp with z | z
    · rw [z, h]; exact fun z => nomatch z
    · exact ih p z
  · intro a kvs ks os fp h e r ih p hp
    rcases List.mem_cons.mp hp with z | z
    · rw [z, h]; exact fun z => nomatch z
    · exact ih p z
  · intro a xs vs ks os fp h e n y kk r ih p hp
    rcases List.mem_cons.mp hp with z | z
    · rw [z, h]; exact fun z => nomatch z
    · exact ih p z
  · intro a C dx nm fvs fs os fp h e f r ih p hp
    rcases List.mem_cons.mp hp with z | z
    · rw [z, h]; exact fun z => nomatch z
    · exact ih p z
  · intro p hp; cases hp
  · intro v vs o os fp fq h r ih1 ih2 p hp
    rcases List.mem_append.mp hp with z | z
    · exact ih1 p z
    · exact ih2 p z
theorem Cells.there : ∀ {c : Env} {σ : L2.St} {fp : List Addr}, Cells E G H c σ fp → ∀ p ∈ fp, H p ≠ none
  | _, _, _, .nil, p, hp => nomatch hp
  | _, _, _, .no h, p, hp => h.there p hp
  | _, _, _, .yes h r, p, hp => (List.mem_append.mp hp).elim (fun z => h.there p z) fun z => r.there p z
theorem Cells.length : ∀ {c : Env} {σ : L2.St} {fp : List Addr}, Cells E G H c σ fp → c.length = σ.length
  | _, _, _, .nil => rfl
  | _, _, _, .no h => by simp [h.length]
  | _, _, _, .yes _ h => by simp [h.length]
/-- a name is stored: what it had is forgotten -/
theorem Cells.set : ∀ {c : Env} {σ : L2.St} {fp : List Addr} {v : V} {o : O} {fq : List Addr} (i : Nat), Cells E G H c σ fp → Own E G H v o fq → fp.Nodup → fq.Nodup → (∀ p ∈ fq, p ∉ fp) → ∃ fr, Cells E G H (c.set i (some o)) (σ.set i (some v)) fr ∧ fr.Nodup ∧ ∀ p ∈ fr, p ∈ fp ∨ p ∈ fq
  | _, _, _, v, o, fq, i, .nil, h, n, m, d => ⟨[], .nil, List.nodup_nil, fun p hp => nomatch hp⟩
  | _, _, _, v, o, fq, 0, .no r, h, n, m, d => ⟨_, .yes h r, List.nodup_append.mpr ⟨m, n, fun a ha b hb e => d a ha (e ▸ hb)⟩, fun p hp => (List.mem_append.mp hp).symm⟩
  | _, _, _, v, o, fq, i + 1, .no r, h, n, m, d => by
    obtain ⟨fr, h1, h2, h3⟩ := Cells.set i r h n m d
    exact ⟨fr, .no h1, h2, h3⟩
  | _, _, _, v, o, fq, 0, .yes (fp := f1) (fq := f2) h' r, h, n, m, d => ⟨_, .yes h r, List.nodup_append.mpr ⟨m, (List.nodup_append.mp n).2.1, fun a ha b hb e => d a ha (List.mem_append_right _ (e ▸ hb))⟩, fun p hp => by
    rcases List.mem_append.mp hp with z | z
    · exact .inr z
    · exact .inl (List.mem_append_right _ z)⟩
  | _, _, _, v, o, fq, i + 1, .yes (fp := f1) (fq := f2) h' r, h, n, m, d => by
    obtain ⟨n1, n2, n3⟩ := List.nodup_append.mp n
    obtain ⟨fr, h1, h2, h3⟩ := Cells.set i r h n2 m fun p hp z => d p hp (List.mem_append_right _ z)
    refine ⟨_, .yes h' h1, List.nodup_append.mpr ⟨n1, h2, fun a ha b hb e => ?_⟩, fun p hp => ?_⟩
    · rcases h3 b hb with z | z
      · exact n3 a ha b z e
      · exact d b z (List.mem_append_left _ (e ▸ ha))
    · rcases List.mem_append.mp hp with z | z
      · exact .inl (List.mem_append_left _ z)
      · rcases h3 p z with z | z
        · exact .inl (List.mem_append_right _ z)
        · exact .inr z
theorem Fine.grow (f : Fine B G H) (s : Same H H') (t : ∀ a u, H' a = some u → isT u = true → G a = some u) : Fine B G H' := ⟨fun a o e n => s a o (f.base a o e n), fun a e => f.there a (s.free e), f.x, f.le.trans s, t⟩
/-- a new object that is known from now on -/
theorem Fine.new {p : Addr} {u : HO} (f : Fine B G H) (hp : H p = none) : Fine B (upd G p u) (upd H p u) := by
  refine ⟨fun a o e n => ?_, fun a e => ?_, fun a h1 h2 => ?_, fun a o e => ?_, fun a o e k => ?_⟩
  · rw [upd_ne (ne_of_none (f.base a o e n) hp)]; exact f.base a o e n
  · by_cases ha : a = p
    · subst ha; exact f.there a hp
    · rw [upd_ne ha] at e; exact f.there a e
  · have ha : a ≠ p := fun z => h1 (by rw [z]; exact f.there p hp)
    rw [upd_ne ha]; exact f.x a h1 h2
  · by_cases ha : a = p
    · subst ha; rw [upd_same] at e ⊢; exact e
    · rw [upd_ne ha] at e ⊢; exact f.le a o e
  · by_cases ha : a = p
    · subst ha; rw [upd_same] at e ⊢; exact e
    · rw [upd_ne ha] at e ⊢; exact f.tup a o e k
theorem same_upd {p : Addr} {u : HO} (hp : H p = none) : Same H (upd H p u) := fun b o e => by
  rw [upd_ne (ne_of_none e hp)]; exact e
theorem Fine.fresh (f : Fine B G H) {p : Addr} (hp : H p = none) : G p = none := f.le.free hp
theorem Abs.grow (A : Abs E B G H c σ fp) (s : Same H H') (t : ∀ a u, H' a = some u → isT u = true → G a = some u) : Abs E B G H' c σ fp :=
  ⟨A.fine.grow s t, A.cells.keep (Same.refl _) fun p _ u e => s p u e, A.nd, A.fresh, A.pin⟩
/-- a new object that is known from now on -/
theorem Abs.new {p : Addr} {u : HO} (A : Abs E B G H c σ fp) (hp : H p = none) : Abs E B (upd G p u) (upd H p u) c σ fp := by
  refine ⟨A.fine.new hp, A.cells.keep (same_upd (A.fine.fresh hp)) (fun q _ w e => same_upd hp q w e), A.nd, fun q hq => ?_, A.pin⟩
  have hne : q ≠ p := fun z => A.cells.there q hq (by rw [z]; exact hp)
  exact ⟨by rw [upd_ne hne]; exact (A.fresh q hq).1, (A.fresh q hq).2⟩
end
end VS

/-! VS: expressions. -/
namespace VS
open PySem PySem.Spec PyProof.Rows L2

abbrev WX := Value → Option Addr → L2.St → Hp → Prop
def vw (b : Bool) (G H : Hp) : Hp := if b then G else H
def XRep (E : Wd) (G : Hp) (cl : Value) (dx : Option Addr) : D → Prop
  | .obj nm fs ds => E.mg nm = some cl ∧ (fs = [] ∨ ∃ d xs, dx = some d ∧ G d = some (.xd xs) ∧ fs = xs.map (·.1) ∧ RpL E G (xs.map (·.2)) ds)
  | _ => False
def Res {α : Type} (E : Wd) (W : WX) (B : Bs) (c : Env) (σ : L2.St) (fp : List Addr) (G H : Hp) (r : R α) (P : α → Prop) : Prop :=
  match r with
  | .ok a => P a
  | .ex e => ∀ cl dx G' H', Same G G' → Same H H' → Abs E B G' H' c σ fp → XRep E G' cl dx e → W cl dx σ H'
  | .stuck => False
def Post (E : Wd) (B : Bs) (c : Env) (σ : L2.St) (fp : List Addr) (G H : Hp) (b : Bool) (Q : VK) (d : D) : Prop :=
  ∀ v G' H', Same G G' → Same H H' → Abs E B G' H' c σ fp → Rp E (vw b G' H') v d → Q v H'
def PostL (E : Wd) (B : Bs) (c : Env) (σ : L2.St) (fp : List Addr) (G H : Hp) (b : Bool) (Q : List V → Hp → Prop) (ds : List D) : Prop :=
  ∀ vs G' H', Same G G' → Same H H' → Abs E B G' H' c σ fp → RpL E (vw b G' H') vs ds → Q vs H'
def PostT (E : Wd) (B : Bs) (c : Env) (σ : L2.St) (fp : List Addr) (G H : Hp) (Q : Bool → Hp → Prop) (t : Bool) : Prop :=
  ∀ G' H', Same G G' → Same H H' → Abs E B G' H' c σ fp → Q t H'
def TX (E : Wd) (W : WX) (b : Bool) (g : Env → R D) : TE := fun σ H Q => ∃ B G c fp, Abs E B G H c σ fp ∧ Res E W B c σ fp G H (g c) (Post E B c σ fp G H b Q)
def TXA (E : Wd) (W : WX) (b : Bool) (g : Env → R (List D)) : TA := fun σ H Q => ∃ B G c fp, Abs E B G H c σ fp ∧ Res E W B c σ fp G H (g c) (PostL E B c σ fp G H b Q)
def TXT (E : Wd) (W : WX) (g : Env → R Bool) : TT := fun σ H Q => ∃ B G c fp, Abs E B G H c σ fp ∧ Res E W B c σ fp G H (g c) (PostT E B c σ fp G H Q)
abbrev Cx.wd (X : Cx) : Wd := ⟨X.K, X.mg, X.w⟩
/-- an expression that is worth g; b: it may be kept -/
def PX (X : Cx) (W : WX) (b : Bool) (e : Expr) (g : Env → R D) : Prop := PE X e (TX ⟨X.K, X.mg, X.w⟩ W b g)
def PXA (X : Cx) (W : WX) (b : Bool) (es : List Expr) (g : Env → R (List D)) : Prop := PA X es (TXA ⟨X.K, X.mg, X.w⟩ W b g)
def PXT (X : Cx) (W : WX) (e : Expr) (g : Env → R Bool) : Prop := PT X e (TXT ⟨X.K, X.mg, X.w⟩ W g)

section
variable {E : Wd} {W : WX} {B : Bs} {c : Env} {σ : L2.St} {fp : List Addr} {G G' G'' H H' H'' : Hp} {b : Bool} {v : V} {d : D}
theorem vw_rp (s : Same G H) (h : Rp E (vw b G H) v d) : Rp E H v d := by
  cases b with
  | true => exact h.mono s
  | false => exact h
theorem vw_mono (s : Same G G') (t : Same H H') (h : Rp E (vw b G H) v d) : Rp E (vw b G' H') v d := by
  cases b with
  | true => exact h.mono s
  | false => exact h.mono t
theorem vw_rpL {vs : List V} {ds : List D} (s : Same G H) (h : RpL E (vw b G H) vs ds) : RpL E H vs ds := by
  cases b with
  | true => exact h.mono s
  | false => exact h
theorem vw_monoL {vs : List V} {ds : List D} (s : Same G G') (t : Same H H') (h : RpL E (vw b G H) vs ds) : RpL E (vw b G' H') vs ds := by
  cases b with
  | true => exact h.mono s
  | false => exact h.mono t
theorem vw_of (h : Rp E G v d) (s : Same G H) : Rp E (vw b G H) v d := by
  cases b with
  | true => exact h
  | false => exact h.mono s
theorem vw_ofL {vs : List V} {ds : List D} (h : RpL E G vs ds) (s : Same G H) : RpL E (vw b G H) vs ds := by
  cases b with
  | true => exact h
  | false => exact h.mono s
theorem Res.grow {α : Type} {r : R α} {P P' : α → Prop} (h : Res E W B c σ fp G H r P) (s : Same G G') (t : Same H H') (hp : ∀ a, r = .ok a → P a → P' a) : Res E W B c σ fp G' H' r P' := by
  cases r with
  | ok a => exact hp a rfl h
  | ex e => exact fun cl dx G2 H2 s2 t2 A x => h cl dx G2 H2 (s.trans s2) (t.trans t2) A x
  | stuck => exact h
theorem Post.grow {Q : VK} (h : Post E B c σ fp G H b Q d) (s : Same G G') (t : Same H H') : Post E B c σ fp G' H' b Q d := fun v G2 H2 s2 t2 A r => h v G2 H2 (s.trans s2) (t.trans t2) A r
theorem PostL.grow {Q : List V → Hp → Prop} {ds : List D} (h : PostL E B c σ fp G H b Q ds) (s : Same G G') (t : Same H H') : PostL E B c σ fp G' H' b Q ds := fun v G2 H2 s2 t2 A r => h v G2 H2 (s.trans s2) (t.trans t2) A r
theorem PostT.grow {Q : Bool → Hp → Prop} {x : Bool} (h : PostT E B c σ fp G H Q x) (s : Same G G') (t : Same H H') : PostT E B c σ fp G' H' Q x := fun G2 H2 s2 t2 A => h G2 H2 (s.trans s2) (t.trans t2) A
/-- the value at once, nothing changed -/
theorem Post.here {Q : VK} (h : Post E B c σ fp G H b Q d) (A : Abs E B G H c σ fp) (r : Rp E (vw b G H) v d) : Q v H := h v G H (Same.refl _) (Same.refl _) A r
/-- a new object, known from now on -/
theorem Post.new {Q : VK} (h : Post E B c σ fp G H b Q d) (A : Abs E B G H c σ fp) {p : Addr} {u : HO} (hp : H p = none) (r : Same G (upd G p u) → Rp E (upd G p u) (.ref p) d) : Q (.ref p) (upd H p u) := by
  have s := same_upd (u := u) (A.fine.fresh hp)
  have A' := A.new (u := u) hp
  exact h (.ref p) _ _ s (same_upd hp) A' (vw_of (r s) A'.fine.le)

/-- one part, then the rest -/
theorem tx_seq {α : Type} {ga : Env → R D} {f : D → R α} {P : α → Prop} {Q' : VK} (A : Abs E B G H c σ fp) (h : Res E W B c σ fp G H (ga c >>= f) P)
    (k : ∀ d, ga c = .ok d → ∀ v G1 H1, Same G G1 → Same H H1 → Abs E B G1 H1 c σ fp → Rp E (vw b G1 H1) v d → Res E W B c σ fp G1 H1 (f d) P → Q' v H1) : TX E W b ga σ H Q' := by
  refine ⟨B, G, c, fp, A, ?_⟩
  cases e : ga c with
  | ok d =>
    rw [e] at h
    exact fun v G1 H1 s t A1 r => k d e v G1 H1 s t A1 r (Res.grow (r := f d) h s t fun _ _ z => z)
  | ex x => rw [e] at h; exact h
  | stuck => rw [e] at h; exact h
theorem txa_seq {α : Type} {ga : Env → R (List D)} {f : List D → R α} {P : α → Prop} {Q' : List V → Hp → Prop} (A : Abs E B G H c σ fp) (h : Res E W B c σ fp G H (ga c >>= f) P)
    (k : ∀ ds, ga c = .ok ds → ∀ vs G1 H1, Same G G1 → Same H H1 → Abs E B G1 H1 c σ fp → RpL E (vw b G1 H1) vs ds → Res E W B c σ fp G1 H1 (f ds) P → Q' vs H1) : TXA E W b ga σ H Q' := by
  refine ⟨B, G, c, fp, A, ?_⟩
  cases e : ga c with
  | ok d =>
    rw [e] at h
    exact fun v G1 H1 s t A1 r => k d e v G1 H1 s t A1 r (Res.grow (r := f d) h s t fun _ _ z => z)
  | ex x => rw [e] at h; exact h
  | stuck => rw [e] at h; exact h
theorem txt_seq {α : Type} {ga : Env → R Bool} {f : Bool → R α} {P : α → Prop} {Q' : Bool → Hp → Prop} (A : Abs E B G H c σ fp) (h : Res E W B c σ fp G H (ga c >>= f) P)
    (k : ∀ t, ga c = .ok t → ∀ G1 H1, Same G G1 → Same H H1 → Abs E B G1 H1 c σ fp → Res E W B c σ fp G1 H1 (f t) P → Q' t H1) : TXT E W ga σ H Q' := by
  refine ⟨B, G, c, fp, A, ?_⟩
  cases e : ga c with
  | ok d =>
    rw [e] at h
    exact fun G1 H1 s t A1 => k d e G1 H1 s t A1 (Res.grow (r := f d) h s t fun _ _ z => z)
  | ex x => rw [e] at h; exact h
  | stuck => rw [e] at h; exact h
end

/-! ### weakening -/
section
variable {X : Cx} {W : WX} {b : Bool} {e : Expr} {g : Env → R D}
theorem pe_mono {t t' : TE} (h : PE X e t) (k : ∀ σ H Q, t' σ H Q → t σ H Q) : PE X e t' := ⟨fun pins s σ H Q I q => h.run pins s σ H Q I (k σ H Q q)⟩
theorem pt_mono {t t' : TT} (h : PT X e t) (k : ∀ σ H Q, t' σ H Q → t σ H Q) : PT X e t' := ⟨fun pins s σ H Q I q => h.run pins s σ H Q I (k σ H Q q)⟩
theorem pa_mono {es : List Expr} {t t' : TA} (h : PA X es t) (k : ∀ σ H Q, t' σ H Q → t σ H Q) : PA X es t' := ⟨fun pos pins s σ H Q I q => h.run pos pins s σ H Q I (k σ H Q q)⟩
theorem PX.loan (h : PX X W true e g) : PX X W false e g := pe_mono h fun σ H Q ⟨B, G, c, fp, A, q⟩ => ⟨B, G, c, fp, A, q.grow (Same.refl _) (Same.refl _) fun d _ k v G1 H1 s t A1 r => k v G1 H1 s t A1 (r.mono A1.fine.le)⟩
end
mutual
/-- no list, no dict, no object within -/
def D.flat : D → Bool
  | .tup ds => D.flats ds
  | .lst _ | .dic _ _ | .dlk _ _ | .ndk _ _ | .nlk _ _ | .rng _ _ | .obj _ _ _ => false
  | _ => true
def D.flats : List D → Bool
  | [] => true
  | d :: ds => D.flat d && D.flats ds
end
@[simp] theorem flat_non : D.flat .non = true := rfl
@[simp] theorem flat_bl (b : Bool) : D.flat (.bl b) = true := rfl
@[simp] theorem flat_int (i : Int) : D.flat (.int i) = true := rfl
@[simp] theorem flat_str (l : List Nat) : D.flat (.str l) = true := rfl
@[simp] theorem flat_tup (ds : List D) : D.flat (.tup ds) = D.flats ds := by rw [D.flat]
@[simp] theorem flat_lst (ds : List D) : D.flat (.lst ds) = false := by rw [D.flat]
@[simp] theorem flats_nil : D.flats [] = true := by rw [D.flats]
@[simp] theorem flats_cons (d : D) (ds : List D) : D.flats (d :: ds) = (D.flat d && D.flats ds) := by rw [D.flats]
theorem flats_all (ds : List D) : D.flats ds = ds.all D.flat := by
  induction ds with
  | nil => simp
  | cons d ds ih => simp [ih]
section
variable {E : Wd} {B : Bs} {c : Env} {σ : L2.St} {fp : List Addr} {G H : Hp}
/-- what has no list, dict or object within is known -/
theorem Rp.down (f : Fine B G H) : ∀ {v : V} {d : D}, Rp E H v d → d.flat = true → Rp E G v d := by
  intro v d h
  refine Rp.rec (motive_1 := fun v d _ => d.flat = true → Rp E G v d) (motive_2 := fun vs ds _ => D.flats ds = true → RpL E G vs ds) ?_ ?_ ?_ ?_ ?_ ?_ ?_ ?_ ?_ ?_ ?_ ?_ ?_ ?_ h
  · intro _; exact .non
  · intro b _; exact .bl b
  · intro i _; exact .int i
  · intro l _; exact .str l
  · intro a vs ds hs r ih k
    rw [flat_tup] at k
    refine .tup ?_ (ih k)
    rcases hs with (hs | ⟨o, hs⟩) | hs
    · exact .inl (.inl (f.tup a _ hs rfl))
    · exact .inl (.inr ⟨o, f.tup a _ hs rfl⟩)
    · exact .inr hs
  · intro a vs ds hs r ih k; simp at k
  · intro a kvs ks ds hs e r ih k; simp [D.flat] at k
  · intro a o kvs ks ds hs e r ih k; simp [D.flat] at k
  · intro a xs vs ks ds hs e n y kk r ih1 ih2 k; simp [D.flat] at k
  · intro a o xs vs ks ds hs e n y kk r ih1 ih2 k; simp [D.flat] at k
  · intro a lo hi hs h1 h2 h3 h4 k; simp [D.flat] at k
  · intro a C dx nm fvs fs ds h1 h2 h3 r ih k; simp [D.flat] at k
  · intro _; exact .nil
  · intro v vs d ds h r i1 i2 k
    simp at k
    exact .cons (i1 k.1) (i2 k.2)
end
section
variable {X : Cx} {W : WX} {b : Bool} {e : Expr} {g : Env → R D}
def eFlat (g : Env → R D) : Env → R D := fun c => g c >>= fun d => if d.flat then .ok d else .stuck
theorem PX.flat (h : PX X W b e g) : PX X W true e (eFlat g) := pe_mono h fun σ H Q ⟨B, G, c, fp, A, q⟩ => by
  refine ⟨B, G, c, fp, A, ?_⟩
  unfold eFlat at q
  cases e : g c with
  | stuck => rw [e] at q; exact q
  | ex x => rw [e] at q; exact q
  | ok d =>
    rw [e] at q
    by_cases hf : d.flat = true
    · have q' : Res _ W B c σ fp G H (if d.flat = true then R.ok d else R.stuck) (Post _ B c σ fp G H true Q) := q
      rw [if_pos hf] at q'
      intro v G1 H1 s t A1 r
      exact q' v G1 H1 s t A1 ((vw_rp A1.fine.le r).down A1.fine hf)
    · have q' : Res _ W B c σ fp G H (if d.flat = true then R.ok d else R.stuck) (Post _ B c σ fp G H true Q) := q
      rw [if_neg hf] at q'
      exact q'.elim
end
end VS

/-! VS: expressions, the rules. -/
namespace VS
open PySem PySem.Spec PyProof.Rows L2

def lift {α : Type} : Option α → R α
  | some a => .ok a
  | none => .stuck
@[simp] theorem lift_some {α : Type} (a : α) : lift (some a) = R.ok a := rfl
@[simp] theorem lift_none {α : Type} : lift (none : Option α) = R.stuck := rfl
theorem Res.lift {α : Type} {E : Wd} {W : WX} {B : Bs} {c : Env} {σ : L2.St} {fp : List Addr} {G H : Hp} {o : Option α} {P : α → Prop} (h : Res E W B c σ fp G H (lift o) P) : ∃ a, o = some a ∧ P a := by
  cases o with
  | some a => exact ⟨a, rfl, h⟩
  | none => exact h.elim

/-! ### names, constants -/
def eV (i : Nat) : Env → R D := fun c => match c[i]? with
  | some (some (.v d)) => .ok d
  | _ => .stuck
def eL (i : Nat) : Env → R D := fun c => match c[i]? with
  | some (some o) => .ok o.toD
  | _ => .stuck
def eC (d : D) : Env → R D := fun _ => .ok d
section
variable {X : Cx} {W : WX} {b b' b1 b2 : Bool} {e a : Expr} {pos : Pos}
theorem px_v (i : Nat) {x : Str} (hN : X.N[i]? = some x := by rfl) (hv : Vis X.env.scope x := by first | exact Or.inl rfl | exact Or.inr (Or.inl rfl) | exact Or.inr (Or.inr rfl)) (hd : (x == ("__debug__" : Str)) = false := by decide)
    (hcd : (x == ("__classdict__" : Str)) = false := by decide) : PX X W true (.Name x pos) (eV i) := pe_mono (pe_var hN hv hd hcd) fun σ H Q ⟨B, G, c, fp, A, q⟩ => by
  unfold eV at q
  split at q
  · rename_i d e
    obtain ⟨v, fq, e1, e2, e3⟩ := A.cells.get e
    cases e2 with
    | v r => exact ⟨v, e1, q.here A r⟩
  · exact q.elim
theorem px_l (i : Nat) {x : Str} (hN : X.N[i]? = some x := by rfl) (hv : Vis X.env.scope x := by first | exact Or.inl rfl | exact Or.inr (Or.inl rfl) | exact Or.inr (Or.inr rfl)) (hd : (x == ("__debug__" : Str)) = false := by decide)
    (hcd : (x == ("__classdict__" : Str)) = false := by decide) : PX X W false (.Name x pos) (eL i) := pe_mono (pe_var hN hv hd hcd) fun σ H Q ⟨B, G, c, fp, A, q⟩ => by
  unfold eL at q
  split at q
  · rename_i o e
    obtain ⟨v, fq, e1, e2, e3⟩ := A.cells.get e
    exact ⟨v, e1, q.here A (e2.rp A.fine.le (fun _ _ _ z => z) A.fine.le)⟩
  · exact q.elim
theorem px_c {t : TE} {v : V} {d : D} (h : PE X e t) (k : ∀ σ H Q, Q v H → t σ H Q) (r : ∀ G, Rp ⟨X.K, X.mg, X.w⟩ G v d) : PX X W true e (eC d) := pe_mono h fun σ H Q ⟨B, G, c, fp, A, q⟩ => k _ _ _ (Post.here q A (r _))
theorem px_int {i : Int} {j : Nat} : PX X W true (.Constant (.int i) j pos) (eC (.int i)) := px_c pe_int (fun _ _ _ q => q) fun _ => .int i
theorem px_bl {t : Bool} {j : Nat} : PX X W true (.Constant (.bool t) j pos) (eC (.bl t)) := px_c pe_bl (fun _ _ _ q => q) fun _ => .bl t
theorem px_non {j : Nat} : PX X W true (.Constant .none j pos) (eC .non) := px_c pe_non (fun _ _ _ q => q) fun _ => .non
theorem px_str {x : Str} {j : Nat} (l : List Nat) (h : x = S l := by decide +kernel) : PX X W true (.Constant (.str x) j pos) (eC (.str l)) := by
  subst h
  exact px_c pe_str (fun _ _ _ q => q) fun _ => .str l
theorem px_glob {x : Str} {v : V} {u : Value} {d : D} (r : ∀ G, Rp ⟨X.K, X.mg, X.w⟩ G v d) (hm : X.mg x = some u) (rv : RelV v u) (hg : Gl X x := by rfl) (hd : (x == ("__debug__" : Str)) = false := by decide) : PX X W true (.Name x pos) (eC d) :=
  px_c (pe_glob hg hm rv hd) (fun _ _ _ q => q) r

/-! ### parts one behind the other -/
def eNil : Env → R (List D) := fun _ => .ok []
def eCons (g : Env → R D) (gs : Env → R (List D)) : Env → R (List D) := fun c => g c >>= fun d => gs c >>= fun ds => .ok (d :: ds)
theorem pxa_nil : PXA X W b [] eNil := pa_mono pa_nil fun σ H Q ⟨B, G, c, fp, A, q⟩ => q [] G H (Same.refl _) (Same.refl _) A .nil
theorem pxa_cons {es : List Expr} {g : Env → R D} {gs : Env → R (List D)} (h : PX X W b e g) (hr : PXA X W b es gs) (hs : starEach (e :: es) X.env = (false, eval e X.env) :: starEach es X.env := by rfl) : PXA X W b (e :: es) (eCons g gs) :=
  pa_mono (pa_cons h hr hs) fun σ H Q ⟨B, G, c, fp, A, q⟩ => tx_seq A q fun d e v G1 H1 s1 t1 A1 r1 q1 => txa_seq A1 q1 fun ds e2 vs G2 H2 s2 t2 A2 r2 q2 =>
    q2 (v :: vs) G2 H2 (s1.trans s2) (t1.trans t2) A2 (.cons (vw_mono s2 t2 r1) r2)
/-- what a call of a built-in is worth, by values -/
def CallOk (E : Wd) (r : List V → Hp → VK → Prop) (b b' : Bool) (f : List D → Option D) : Prop :=
  ∀ {B : Bs} {G H : Hp} {c : Env} {σ : L2.St} {fp : List Addr} {vs : List V} {ds : List D} {d : D} {Q : VK}, Abs E B G H c σ fp → RpL E (vw b G H) vs ds → f ds = some d → Post E B c σ fp G H b' Q d → r vs H Q
def Op2Ok (E : Wd) (r : R2) (b1 b2 b' : Bool) (f : D → D → Option D) : Prop :=
  ∀ {B : Bs} {G H : Hp} {c : Env} {σ : L2.St} {fp : List Addr} {x y : V} {dx dy d : D} {Q : VK}, Abs E B G H c σ fp → Rp E (vw b1 G H) x dx → Rp E (vw b2 G H) y dy → f dx dy = some d → Post E B c σ fp G H b' Q d → r x y H Q
def eFn (f : List D → Option D) (gs : Env → R (List D)) : Env → R D := fun c => gs c >>= fun ds => lift (f ds)
def eOp2 (f : D → D → Option D) (ga gb : Env → R D) : Env → R D := fun c => ga c >>= fun x => gb c >>= fun y => lift (f x y)
theorem tx_op2 {r : R2} {f : D → D → Option D} (hr : Op2Ok ⟨X.K, X.mg, X.w⟩ r b1 b2 b' f) {ga gb : Env → R D} : ∀ σ H Q, TX ⟨X.K, X.mg, X.w⟩ W b' (eOp2 f ga gb) σ H Q → tOp r (TX ⟨X.K, X.mg, X.w⟩ W b1 ga) (TX ⟨X.K, X.mg, X.w⟩ W b2 gb) σ H Q :=
  fun σ H Q ⟨B, G, c, fp, A, q⟩ => tx_seq A q fun d e v G1 H1 s1 t1 A1 r1 q1 => tx_seq A1 q1 fun d2 e2 v2 G2 H2 s2 t2 A2 r2 q2 => by
    obtain ⟨d3, e3, p3⟩ := Res.lift q2
    exact hr A2 (vw_mono s2 t2 r1) r2 e3 (p3.grow (s1.trans s2) (t1.trans t2))
theorem px_op {op : Operator} {r : R2} {f : D → D → Option D} (ho : OpR X (binaryOp op) r) (hr : Op2Ok ⟨X.K, X.mg, X.w⟩ r b1 b2 b' f) {eb : Expr} {ga gb : Env → R D} (ha : PX X W b1 a ga) (hb : PX X W b2 eb gb) : PX X W b' (.BinOp a op eb pos) (eOp2 f ga gb) :=
  pe_mono (pe_op ho ha hb) (tx_op2 hr)
theorem px_cmp {op : CmpOp} {r : R2} {f : D → D → Option D} (ho : OpR X (compareOp op) r) (hr : Op2Ok ⟨X.K, X.mg, X.w⟩ r b1 b2 b' f) {eb : Expr} {ga gb : Env → R D} (ha : PX X W b1 a ga) (hb : PX X W b2 eb gb) (hm : behindInMarks op eb = false) : PX X W b' (.Compare a [op] [eb] pos) (eOp2 f ga gb) :=
  pe_mono (pe_cmpR ho ha hb hm) (tx_op2 hr)
def asB : D → Option Bool
  | .bl t => some t
  | _ => none
def eB (g : Env → R D) : Env → R Bool := fun c => g c >>= fun d => lift (asB d)
theorem asB_rp {E : Wd} {G : Hp} {v : V} {d : D} {t : Bool} (h : Rp E G v d) (e : asB d = some t) : v = .bl t := by
  cases d <;> simp [asB] at e
  subst e
  cases h
  rfl
theorem tx_test {g : Env → R D} : ∀ σ H Q, TXT ⟨X.K, X.mg, X.w⟩ W (eB g) σ H Q → tTest (TX ⟨X.K, X.mg, X.w⟩ W b g) σ H Q :=
  fun σ H Q ⟨B, G, c, fp, A, q⟩ => tx_seq A q fun d e v G1 H1 s1 t1 A1 r1 q1 => by
    obtain ⟨t, e3, p3⟩ := Res.lift q1
    exact ⟨t, asB_rp r1 e3, p3 G1 H1 s1 t1 A1⟩
theorem pxt_cmp {op : CmpOp} {r : R2} {f : D → D → Option D} (ho : OpR X (compareOp op) r) (hr : Op2Ok ⟨X.K, X.mg, X.w⟩ r b1 b2 true f) {eb : Expr} {ga gb : Env → R D} (ha : PX X W b1 a ga) (hb : PX X W b2 eb gb) (hm : behindInMarks op eb = false) : PXT X W (.Compare a [op] [eb] pos) (eB (eOp2 f ga gb)) :=
  pt_mono (pt_cmpR ho ha hb hm) fun σ H Q q => by
    obtain ⟨x, y, z⟩ := (⟨tx_test (b := true) σ H Q q, trivial, trivial⟩ : _ ∧ True ∧ True)
    have x' : TX ⟨X.K, X.mg, X.w⟩ W true (eOp2 f ga gb) σ H (fun x H' => ∃ k, x = .bl k ∧ Q k H') := x
    exact tx_op2 hr σ H _ x'
theorem pxt_val {g : Env → R D} (h : PX X W b e g) (he : ∀ whole, isTrue e X.env whole = (do let v ← whole; standAt e.pos; holding [v] (truthy v)) := by intro _; rfl) : PXT X W e (eB g) :=
  pt_mono (pt_val h he) fun σ H Q q => tx_test σ H Q q
/-- truth of other values -/
def truD : D → Option Bool
  | .non => some false
  | .bl t => some t
  | .int i => some (i != 0)
  | .str l => if l.length ≤ 16777216 then some (!l.isEmpty) else none
  | .tup ds => some (!ds.isEmpty)
  | .lst ds => some (!ds.isEmpty)
  | _ => none
def eTru (g : Env → R D) : Env → R Bool := fun c => g c >>= fun d => lift (truD d)
theorem RpL.isEmpty {E : Wd} {G : Hp} {vs : List V} {ds : List D} (h : RpL E G vs ds) : vs.isEmpty = ds.isEmpty := by
  cases h <;> rfl
theorem pxt_truth {g : Env → R D} (h : PX X W b e g) (he : ∀ whole, isTrue e X.env whole = (do let v ← whole; standAt e.pos; holding [v] (truthy v)) := by intro _; rfl) : PXT X W e (eTru g) :=
  pt_mono (pt_truth h he) fun σ H Q ⟨B, G, c, fp, A, q⟩ => tx_seq A q fun d e v G1 H1 s1 t1 A1 r1 q1 => by
    obtain ⟨t, e3, p3⟩ := Res.lift q1
    have r2 := vw_rp A1.fine.le r1
    refine ⟨t, ?_, p3 G1 H1 s1 t1 A1⟩
    cases r2 with
    | non => cases e3; rfl
    | bl b => cases e3; rfl
    | int i => cases e3; rfl
    | str l =>
      simp only [truD] at e3
      split at e3
      · rename_i hl
        cases e3
        refine ⟨by show l.toArray.size ≤ _; rw [sizeLine_eq]; simpa using hl, ?_⟩
        show (!l.isEmpty) = ((l.toArray.size : Int) != 0)
        cases l <;> simp
        omega
      · cases e3
    | tup hs r => cases e3; exact .inr (.inl ⟨_, hs, by rw [r.isEmpty]⟩)
    | lst hs r => cases e3; exact .inl ⟨_, hs, by rw [r.isEmpty]⟩
    | dic _ _ _ => cases e3
    | dlk _ _ _ => cases e3
    | ndk _ _ _ _ _ _ => cases e3
    | nlk _ _ _ _ _ _ => cases e3
    | rng _ _ _ _ _ => cases e3
    | obj _ _ _ _ => cases e3

/-! ### and, or, not, if else -/
def tAnd' (g k : Env → R Bool) : Env → R Bool := fun c => g c >>= fun t => if t then k c else .ok false
def tOr' (g k : Env → R Bool) : Env → R Bool := fun c => g c >>= fun t => if t then .ok true else k c
def tNot' (g : Env → R Bool) : Env → R Bool := fun c => g c >>= fun t => .ok (!t)
def PXW (X : Cx) (W : WX) (e : Expr) (g : Env → R Bool) : Prop := PW X e (TXT ⟨X.K, X.mg, X.w⟩ W g)
theorem pw_mono {t t' : TT} (h : PW X e t) (k : ∀ σ H Q, t' σ H Q → t σ H Q) : PW X e t' := ⟨fun wh pins s σ H Q I q => h.run wh pins s σ H Q I (k σ H Q q)⟩
theorem PXW.pt {g : Env → R Bool} (h : PXW X W e g) : PXT X W e g := PW.pt h
variable {g k : Env → R Bool} {rest : List Expr}
theorem pxw_and1 (h : PXT X W a g) : PXW X W (.BoolOp .And [a] pos) g := pw_and1 h
theorem pxw_or1 (h : PXT X W a g) : PXW X W (.BoolOp .Or [a] pos) g := pw_or1 h
theorem pxw_and {eb : Expr} (h : PXT X W a g) (h2 : PXW X W (.BoolOp .And (eb :: rest) pos) k) : PXW X W (.BoolOp .And (a :: eb :: rest) pos) (tAnd' g k) :=
  pw_mono (pw_and h h2) fun σ H Q ⟨B, G, c, fp, A, q⟩ => txt_seq A q fun t e G1 H1 s1 t1 A1 q1 => by
    cases t with
    | true => exact ⟨B, G1, c, fp, A1, Res.grow (r := k c) q1 (Same.refl _) (Same.refl _) fun x _ z => z.grow s1 t1⟩
    | false => exact q1 G1 H1 s1 t1 A1
theorem pxw_or {eb : Expr} (h : PXT X W a g) (h2 : PXW X W (.BoolOp .Or (eb :: rest) pos) k) : PXW X W (.BoolOp .Or (a :: eb :: rest) pos) (tOr' g k) :=
  pw_mono (pw_or h h2) fun σ H Q ⟨B, G, c, fp, A, q⟩ => txt_seq A q fun t e G1 H1 s1 t1 A1 q1 => by
    cases t with
    | false => exact ⟨B, G1, c, fp, A1, Res.grow (r := k c) q1 (Same.refl _) (Same.refl _) fun x _ z => z.grow s1 t1⟩
    | true => exact q1 G1 H1 s1 t1 A1
theorem pxt_not (h : PXT X W a g) : PXT X W (.UnaryOp .Not a pos) (tNot' g) :=
  pt_mono (pt_not h) fun σ H Q ⟨B, G, c, fp, A, q⟩ => txt_seq A q fun t e G1 H1 s1 t1 A1 q1 => q1 G1 H1 s1 t1 A1
/-- as values -/
def eAnd (ga gb : Env → R D) : Env → R D := fun c => ga c >>= fun d => lift (asB d) >>= fun t => if t then gb c else .ok (.bl false)
def eOr (ga gb : Env → R D) : Env → R D := fun c => ga c >>= fun d => lift (asB d) >>= fun t => if t then .ok (.bl true) else gb c
def eNot (ga : Env → R D) : Env → R D := fun c => ga c >>= fun d => lift (asB d) >>= fun t => .ok (.bl !t)
theorem px_one {op : BoolOp} {ga : Env → R D} (h : PX X W b a ga) : PX X W b (.BoolOp op [a] pos) ga := pe_one h
theorem px_and {eb : Expr} {ga gb : Env → R D} (h : PX X W b1 a ga) (h2 : PX X W true (.BoolOp .And (eb :: rest) pos) gb) : PX X W true (.BoolOp .And (a :: eb :: rest) pos) (eAnd ga gb) :=
  pe_mono (pe_and h h2) fun σ H Q ⟨B, G, c, fp, A, q⟩ => tx_seq A q fun d e v G1 H1 s1 t1 A1 r1 q1 => by
    cases hd : asB d with
    | none => rw [hd] at q1; exact q1.elim
    | some t =>
      rw [hd] at q1
      refine ⟨t, asB_rp r1 hd, ?_⟩
      cases t with
      | true => exact ⟨B, G1, c, fp, A1, Res.grow (r := gb c) q1 (Same.refl _) (Same.refl _) fun x _ z => z.grow s1 t1⟩
      | false => exact q1 _ G1 H1 s1 t1 A1 (.bl false)
theorem px_or {eb : Expr} {ga gb : Env → R D} (h : PX X W b1 a ga) (h2 : PX X W true (.BoolOp .Or (eb :: rest) pos) gb) : PX X W true (.BoolOp .Or (a :: eb :: rest) pos) (eOr ga gb) :=
  pe_mono (pe_or h h2) fun σ H Q ⟨B, G, c, fp, A, q⟩ => tx_seq A q fun d e v G1 H1 s1 t1 A1 r1 q1 => by
    cases hd : asB d with
    | none => rw [hd] at q1; exact q1.elim
    | some t =>
      rw [hd] at q1
      refine ⟨t, asB_rp r1 hd, ?_⟩
      cases t with
      | false => exact ⟨B, G1, c, fp, A1, Res.grow (r := gb c) q1 (Same.refl _) (Same.refl _) fun x _ z => z.grow s1 t1⟩
      | true => exact q1 _ G1 H1 s1 t1 A1 (.bl true)
theorem px_not {ga : Env → R D} (h : PX X W b1 a ga) : PX X W true (.UnaryOp .Not a pos) (eNot ga) :=
  pe_mono (pe_not h) fun σ H Q ⟨B, G, c, fp, A, q⟩ => tx_seq A q fun d e v G1 H1 s1 t1 A1 r1 q1 => by
    cases hd : asB d with
    | none => rw [hd] at q1; exact q1.elim
    | some t =>
      rw [hd] at q1
      exact ⟨t, asB_rp r1 hd, q1 _ G1 H1 s1 t1 A1 (.bl _)⟩
def eIf (g : Env → R Bool) (ga gb : Env → R D) : Env → R D := fun c => g c >>= fun t => if t then ga c else gb c
theorem px_if {ec eb : Expr} {ga gb : Env → R D} (hc : PXT X W ec g) (ha : PX X W b a ga) (hb : PX X W b eb gb) : PX X W b (.IfExp ec a eb pos) (eIf g ga gb) :=
  pe_mono (pe_ifExp hc ha hb) fun σ H Q ⟨B, G, c, fp, A, q⟩ => txt_seq A q fun t e G1 H1 s1 t1 A1 q1 => by
    cases t with
    | true => exact ⟨B, G1, c, fp, A1, Res.grow (r := ga c) q1 (Same.refl _) (Same.refl _) fun x _ z => z.grow s1 t1⟩
    | false => exact ⟨B, G1, c, fp, A1, Res.grow (r := gb c) q1 (Same.refl _) (Same.refl _) fun x _ z => z.grow s1 t1⟩

/-! ### calls of built-ins -/
theorem tx_fn {r : List V → Hp → VK → Prop} {f : List D → Option D} (hr : CallOk ⟨X.K, X.mg, X.w⟩ r b b' f) {gs : Env → R (List D)} : ∀ σ H Q, TX ⟨X.K, X.mg, X.w⟩ W b' (eFn f gs) σ H Q → tCB r (TXA ⟨X.K, X.mg, X.w⟩ W b gs) σ H Q :=
  fun σ H Q ⟨B, G, c, fp, A, q⟩ => txa_seq A q fun ds e vs G1 H1 s1 t1 A1 r1 q1 => by
    obtain ⟨d3, e3, p3⟩ := Res.lift q1
    exact hr A1 r1 e3 (p3.grow s1 t1)
theorem px_fn {id : String} {x : Str} {r : List V → Hp → VK → Prop} {f : List D → Option D} {e : Expr} {es : List Expr} {gs : Env → R (List D)} {p : Pos} (hc : CallR X (.builtin id) r) (hr : CallOk ⟨X.K, X.mg, X.w⟩ r b b' f) (hm : X.mg x = none) (ha : PXA X W b (e :: es) gs) (hg : Gl X x := by rfl) (hv : bootBuiltins x = some (.builtin id) := by decide +kernel)
    (hn : x ≠ "__name__" := by decide) (hdb : (x == ("__debug__" : Str)) = false := by decide) (he : starEach (e :: es) X.env = (false, eval e X.env) :: starEach es X.env := by rfl) (hpl : (backTo pos (starEach es X.env)).any (·.1) = false := by rfl) :
    PX X W b' (.Call (.Name x p) (e :: es) [] pos) (eFn f gs) := pe_mono (pe_callB hc hg hm hv ha hn hdb he hpl) (tx_fn hr)
theorem px_ty {T : String} {x : Str} {r : List V → Hp → VK → Prop} {f : List D → Option D} {e : Expr} {es : List Expr} {gs : Env → R (List D)} {p : Pos} (hc : CallR X (.type T) r) (hr : CallOk ⟨X.K, X.mg, X.w⟩ r b b' f) (hm : X.mg x = none) (ha : PXA X W b (e :: es) gs) (hg : Gl X x := by rfl) (hv : bootBuiltins x = some (.type T) := by decide +kernel)
    (hn : x ≠ "__name__" := by decide) (hdb : (x == ("__debug__" : Str)) = false := by decide) (he : starEach (e :: es) X.env = (false, eval e X.env) :: starEach es X.env := by rfl) (hpl : (backTo pos (starEach es X.env)).any (·.1) = false := by rfl) :
    PX X W b' (.Call (.Name x p) (e :: es) [] pos) (eFn f gs) := pe_mono (pe_callTy hc hg hm hv ha hn hdb he hpl) (tx_fn hr)
/-! ### displays -/
def fTup (ds : List D) : Option D := if ds.length ≤ 16777216 then some (.tup ds) else none
def fLst (ds : List D) : Option D := if ds.length ≤ 16777216 then some (.lst ds) else none
theorem sz_ok {n : Nat} (h : n ≤ 16777216) : n ≤ sizeLine := by rw [sizeLine_eq]; exact h
theorem px_tup {es : List Expr} {x1 : _} {gs : Env → R (List D)} (h : PXA X W true es gs) : PX X W true (.Tuple es x1 pos) (eFn fTup gs) :=
  pe_mono (pe_tup h) fun σ H Q ⟨B, G, c, fp, A, q⟩ => txa_seq A q fun ds e vs G1 H1 s1 t1 A1 r1 q1 => by
    obtain ⟨d3, e3, p3⟩ := Res.lift q1
    unfold fTup at e3
    split at e3
    · cases e3
      rename_i hl
      refine ⟨sz_ok (by rw [r1.length]; exact hl), fun p hp => (p3.grow s1 t1).new A1 hp fun s => .tup (.inl (.inl upd_same)) (r1.mono s)⟩
    · cases e3
theorem px_lst {es : List Expr} {gs : Env → R (List D)} (h : PXA X W true es gs) : PX X W true (.List es pos) (eFn fLst gs) :=
  pe_mono (pe_lst h) fun σ H Q ⟨B, G, c, fp, A, q⟩ => txa_seq A q fun ds e vs G1 H1 s1 t1 A1 r1 q1 => by
    obtain ⟨d3, e3, p3⟩ := Res.lift q1
    unfold fLst at e3
    split at e3
    · cases e3
      rename_i hl
      refine ⟨sz_ok (by rw [r1.length]; exact hl), fun p hp => (p3.grow s1 t1).new A1 hp fun s => .lst (.inl (.inl upd_same)) (r1.mono s)⟩
    · cases e3
end
end VS

/-! VS: operators. -/
namespace VS
open PySem PySem.Spec PyProof.Rows L2

/-! ### items that may be kept -/
def okEl (b : Bool) (ds : List D) : Bool := b || D.flats ds
def okE (b : Bool) (d : D) : Bool := b || D.flat d
@[simp] theorem okEl_t (ds : List D) : okEl true ds = true := rfl
@[simp] theorem okE_t (d : D) : okE true d = true := rfl
@[simp] theorem okEl_f (ds : List D) : okEl false ds = D.flats ds := rfl
@[simp] theorem okE_f (d : D) : okE false d = D.flat d := rfl
section
variable {E : Wd} {B : Bs} {c : Env} {σ : L2.St} {fp : List Addr} {G H : Hp} {b : Bool}
theorem Rp.known (f : Fine B G H) {v : V} {d : D} (r : Rp E (vw b G H) v d) (k : okE b d = true) : Rp E G v d := by
  cases b with
  | true => exact r
  | false => exact Rp.down f r k
theorem RpL.down (f : Fine B G H) : ∀ {vs : List V} {ds : List D}, RpL E H vs ds → D.flats ds = true → RpL E G vs ds
  | _, [], r, _ => by cases r; exact .nil
  | _, d :: ds, r, k => by
    cases r with
    | cons h r =>
      simp at k
      exact .cons (Rp.down f h k.1) (RpL.down f r k.2)
theorem RpL.known (f : Fine B G H) {vs : List V} {ds : List D} (r : RpL E (vw b G H) vs ds) (k : okEl b ds = true) : RpL E G vs ds := by
  cases b with
  | true => exact r
  | false => exact RpL.down f r k
end
@[simp] theorem vw_t (G H : Hp) : vw true G H = G := rfl
@[simp] theorem vw_f (G H : Hp) : vw false G H = H := rfl
theorem same_vw {G H : Hp} (b : Bool) (s : Same G H) : Same (vw b G H) H := by
  cases b with
  | true => exact s
  | false => exact Same.refl _
/-- a list as it may be read in the heap -/
theorem Rp.lstH {E : Wd} {G H : Hp} {b : Bool} {v : V} {ds : List D} (r : Rp E (vw b G H) v (.lst ds)) (s : Same G H) : ∃ a vs, v = .ref a ∧ SqL E.K H a vs ∧ RpL E (vw b G H) vs ds := by
  cases r with
  | lst h r => exact ⟨_, _, rfl, Same.sqL (same_vw b s) h, r⟩
theorem Rp.tupH {E : Wd} {G H : Hp} {b : Bool} {v : V} {ds : List D} (r : Rp E (vw b G H) v (.tup ds)) (s : Same G H) : ∃ a vs, v = .ref a ∧ SqT E.K H a vs ∧ RpL E (vw b G H) vs ds := by
  cases r with
  | tup h r => exact ⟨_, _, rfl, Same.sqT (same_vw b s) h, r⟩
theorem Rp.intH {E : Wd} {G : Hp} {v : V} {i : Int} (r : Rp E G v (.int i)) : v = .int i := by cases r; rfl
theorem Rp.strH {E : Wd} {G : Hp} {v : V} {l : List Nat} (r : Rp E G v (.str l)) : v = .str (S l) := by cases r; rfl
theorem Rp.blH {E : Wd} {G : Hp} {v : V} {t : Bool} (r : Rp E G v (.bl t)) : v = .bl t := by cases r; rfl
@[simp] theorem S_len (l : List Nat) : (S l).length = l.length := by show l.toArray.size = _; simp
@[simp] theorem S_list (l : List Nat) : (S l).cps.toList = l := rfl
theorem S_app (a b : List Nat) : S a ++ S b = S (a ++ b) := by
  show (⟨a.toArray ++ b.toArray⟩ : Str) = ⟨(a ++ b).toArray⟩
  simp
theorem S_inj {a b : List Nat} : S a = S b ↔ a = b := ⟨fun h => by
  have e : a.toArray = b.toArray := congrArg Str.cps h
  simpa using e, fun h => by rw [h]⟩

/-! ### + -/
def opAdd (b1 b2 : Bool) : D → D → Option D
  | .int i, .int j => some (.int (i + j))
  | .str a, .str b => if a.length + b.length ≤ 16777216 then some (.str (a ++ b)) else none
  | .lst a, .lst b => if a.length + b.length ≤ 16777216 ∧ okEl b1 a = true ∧ okEl b2 b = true then some (.lst (a ++ b)) else none
  | .tup a, .tup b => if a.length + b.length ≤ 16777216 ∧ okEl b1 a = true ∧ okEl b2 b = true then some (.tup (a ++ b)) else none
  | _, _ => none
def rCatR (K : PySem.W.Frag) : R2 := fun x y H Q => ∃ l b xs zs, x = .ref l ∧ y = .ref b ∧ SqL K H l xs ∧ SqL K H b zs ∧ xs.length + zs.length ≤ sizeLine ∧ ∀ p, H p = none → Q (.ref p) (upd H p (.lst (xs ++ zs)))
section
variable {X : Cx} {W : WX} {b b' b1 b2 : Bool}
theorem lst_of {P : Program} {w : World} {H : Hp} {h : Heap} {a : Addr} {xs : List V} (r : Rd H a (.lst xs)) (x : HOk P w H h) : xs.length ≤ sizeLine ∧ ∃ (its : List Value) (n : Nat), Vals xs its ∧ h.get? a = some { cls := .type "list", data := .seq its.toArray n } := r.ok x
theorem op_catR : OpR X (binaryOp .Add) (rCatR X.K) := by
  intro pins s σ H x y v u Q I rx ry h
  obtain ⟨l, b, xs, zs, rfl, rfl, hH, hB, hz, q⟩ := h
  cases rx
  cases ry
  obtain ⟨its, r1, p1, z1⟩ := I.list hH
  obtain ⟨its2, r2, p2, z2⟩ := I.list hB
  have l1 := r1.length
  have l2 := r2.length
  obtain ⟨⟨cls, dd, data, sl⟩, ho, hc, n, hd⟩ := id p1.isList
  obtain ⟨⟨cls2, dd2, data2, sl2⟩, ho2, hc2, n2, hd2⟩ := id p2.isList
  simp only at hc hd hc2 hd2
  subst hc hd hc2 hd2
  have ea : its.toArray ++ its2.toArray = (its ++ its2).toArray := by simp
  refine concat_meets ⟨_, ho, rfl⟩ ⟨_, ho2, rfl⟩ noFill_list_add seq_list_add PySem.F.slot_list_add PySem.F.entry_list_add (PySem.F.args_list_add_2 _ _) (list_addW l b its.toArray its2.toArray n n2 dd dd2 sl sl2 (by rw [List.size_toArray, List.size_toArray]; omega)) ⟨ho, ho2, ?_⟩
  rw [ea]
  exact ⟨.ref _, _, I.lnew (t' := s.toks) (r1.append r2) (by rw [List.length_append]; omega), rfl, q _ I.fresh⟩
def rAddD (K : PySem.W.Frag) : R2 := fun x y H Q => (rI0 fun i j => V.int (i + j)) x y H Q ∨ (∃ i j, x = .str i ∧ y = .str j ∧ i.length + j.length ≤ sizeLine ∧ Q (.str (i ++ j)) H) ∨ rCatR K x y H Q ∨ rCatA K x y H Q
theorem op_addD : OpR X (binaryOp .Add) (rAddD X.K) := op_add.or (op_add_str.or (op_catR.or op_catA))
theorem ok_add : Op2Ok ⟨X.K, X.mg, X.w⟩ (rAddD X.K) b1 b2 true (opAdd b1 b2) := by
  intro B G H c σ fp x y dx dy d Q A rx ry e p
  unfold opAdd at e
  split at e
  · cases e
    exact .inl ⟨_, _, rx.intH, ry.intH, p.here A (.int _)⟩
  · split at e
    · cases e
      rename_i hl
      refine .inr (.inl ⟨_, _, rx.strH, ry.strH, by rw [S_len, S_len, sizeLine_eq]; exact hl, ?_⟩)
      rw [S_app]
      exact p.here A (.str _)
    · cases e
  · split at e
    · cases e
      rename_i hl
      obtain ⟨hl, k1, k2⟩ := hl
      obtain ⟨a1, vs, rfl, h1, r1⟩ := rx.lstH A.fine.le
      obtain ⟨a2, ws, rfl, h2, r2⟩ := ry.lstH A.fine.le
      have g1 := RpL.known A.fine r1 k1
      have g2 := RpL.known A.fine r2 k2
      refine .inr (.inr (.inl ⟨_, _, _, _, rfl, rfl, h1, h2, by rw [g1.length, g2.length, sizeLine_eq]; exact hl, fun q hq => p.new A hq fun s => .lst (.inl (.inl upd_same)) ((g1.append g2).mono s)⟩))
    · cases e
  · split at e
    · cases e
      rename_i hl
      obtain ⟨hl, k1, k2⟩ := hl
      obtain ⟨a1, vs, rfl, h1, r1⟩ := rx.tupH A.fine.le
      obtain ⟨a2, ws, rfl, h2, r2⟩ := ry.tupH A.fine.le
      have g1 := RpL.known A.fine r1 k1
      have g2 := RpL.known A.fine r2 k2
      have d1 : SqT X.K G a1 vs := by
        rcases h1 with (z | ⟨o, z⟩) | z
        · exact .inl (.inl (A.fine.tup _ _ z rfl))
        · exact .inl (.inr ⟨o, A.fine.tup _ _ z rfl⟩)
        · exact .inr z
      have d2 : SqT X.K G a2 ws := by
        rcases h2 with (z | ⟨o, z⟩) | z
        · exact .inl (.inl (A.fine.tup _ _ z rfl))
        · exact .inl (.inr ⟨o, A.fine.tup _ _ z rfl⟩)
        · exact .inr z
      refine .inr (.inr (.inr ⟨_, _, _, _, rfl, rfl, h1, h2, by rw [g1.length, g2.length, sizeLine_eq]; exact hl, fun z => ?_, fun z1 z2 => ?_, fun _ _ q hq => p.new A hq fun s => .tup (.inl (.inl upd_same)) ((g1.append g2).mono s)⟩))
      · subst z
        cases g1
        exact p.here A (.tup d2 (by simpa using g2))
      · subst z2
        cases g2
        exact p.here A (.tup d1 (by simpa using g1))
    · cases e
  · cases e

/-! ### the others, of ints (and texts) -/
def opSub : D → D → Option D
  | .int i, .int j => some (.int (i - j))
  | _, _ => none
theorem ok_sub : Op2Ok ⟨X.K, X.mg, X.w⟩ (rI0 fun i j => V.int (i - j)) b1 b2 true opSub := by
  intro B G H c σ fp x y dx dy d Q A rx ry e p
  unfold opSub at e
  split at e
  · cases e
    exact ⟨_, _, rx.intH, ry.intH, p.here A (.int _)⟩
  · cases e
def opMul : D → D → Option D
  | .int i, .int j => if (-(2 ^ 64) < i ∧ i < 2 ^ 64) ∨ (-(2 ^ 64) < j ∧ j < 2 ^ 64) then some (.int (i * j)) else none
  | .str l, .int j => if -(2 ^ 63) ≤ j ∧ j < 2 ^ 63 ∧ l.length * j.toNat ≤ 16777216 then some (.str (List.replicate j.toNat l).flatten) else none
  | _, _ => none
def rMulS : R2 := fun x y H Q => ∃ l j, x = .str (S l) ∧ y = .int j ∧ (-(2 ^ 63) ≤ j ∧ j < 2 ^ 63 ∧ l.length * j.toNat ≤ 16777216) ∧ Q (.str (S (List.replicate j.toNat l).flatten)) H
theorem rep_flat (l : List Nat) : ∀ (n : Nat) (acc : List Nat), (List.replicate n l.toArray).foldl (· ++ ·) acc.toArray = (acc ++ (List.replicate n l).flatten).toArray
  | 0, acc => by simp
  | n + 1, acc => by
    rw [List.replicate_succ, List.foldl_cons]
    have e : acc.toArray ++ l.toArray = (acc ++ l).toArray := by simp
    rw [e, rep_flat l n]
    simp [List.replicate_succ]
theorem op_mulS : OpR X (binaryOp .Mult) rMulS := by
  intro pins s σ H x y v u Q I rx ry h
  obtain ⟨l, j, rfl, rfl, ⟨h1, h2, h3⟩, q⟩ := h
  obtain ⟨t, rfl⟩ := rx
  obtain ⟨t', rfl⟩ := ry
  refine PySem.P.mul_str (by simp; omega) (fun n1 n2 => ?_) (fun n1 n2 => ?_) ?_
  · intro z
    have hpos : 0 < j := by omega
    have k : ((S l).length : Int) * j ≤ 16777216 := by
      rw [S_len]
      have e : ((l.length * j.toNat : Nat) : Int) = (l.length : Int) * j := by
        rw [Int.natCast_mul, Int.toNat_of_nonneg (by omega)]
      omega
    have w : ((S l).length : Int) ≤ (2 ^ 63 - 1) / j := by
      refine (Int.le_ediv_iff_mul_le hpos).mpr ?_
      omega
    omega
  · show decide _ = false
    rw [S_len, sizeLine_eq]
    simp
    omega
  · by_cases n1 : j < 1
    · rw [if_pos n1]
      have e : j.toNat = 0 := by omega
      rw [e] at q
      refine ⟨by decide, ⟨.str Str.empty, H, I.tok _, ⟨_, rfl⟩, ?_⟩⟩
      simpa [S, Str.empty] using q
    · rw [if_neg n1]
      split
      · rename_i hz
        refine ⟨.str (S l), H, I, ⟨_, rfl⟩, ?_⟩
        simp at hz
        rcases hz with hz | hz
        · subst hz
          simpa using q
        · subst hz
          simpa using q
      · have e := rep_flat l j.toNat []
        simp only [List.nil_append] at e
        have e2 : (⟨(List.replicate j.toNat (S l).cps).foldl (· ++ ·) #[]⟩ : Str) = S (List.replicate j.toNat l).flatten := by
          show (⟨_⟩ : Str) = ⟨_⟩
          rw [← e]
          rfl
        rw [e2]
        refine ⟨?_, ⟨.str (S (List.replicate j.toNat l).flatten), H, I.tok _, ⟨_, rfl⟩, q⟩⟩
        rw [S_len, sizeLine_eq]
        simp
        rw [Nat.mul_comm]; exact h3
theorem ok_mul : Op2Ok ⟨X.K, X.mg, X.w⟩ (fun x y H Q => (rI CMul fun i j => V.int (i * j)) x y H Q ∨ rMulS x y H Q) b1 b2 true opMul := by
  intro B G H c σ fp x y dx dy d Q A rx ry e p
  unfold opMul at e
  split at e
  · split at e
    · cases e
      rename_i hc
      exact .inl ⟨_, _, rx.intH, ry.intH, hc, p.here A (.int _)⟩
    · cases e
  · split at e
    · cases e
      rename_i hc
      exact .inr ⟨_, _, rx.strH, ry.intH, hc, p.here A (.str _)⟩
    · cases e
  · cases e
def opMod : D → D → Option D
  | .int i, .int j => if 0 < j then some (.int (i % j)) else none
  | _, _ => none
theorem ok_mod : Op2Ok ⟨X.K, X.mg, X.w⟩ (rI (fun _ j => 0 < j) fun i j => V.int (i % j)) b1 b2 true opMod := by
  intro B G H c σ fp x y dx dy d Q A rx ry e p
  unfold opMod at e
  split at e
  · split at e
    · cases e
      rename_i hc
      exact ⟨_, _, rx.intH, ry.intH, hc, p.here A (.int _)⟩
    · cases e
  · cases e
def opDiv : D → D → Option D
  | .int i, .int j => if 0 < j ∧ j < 1073741824 then some (.int (i / j)) else none
  | _, _ => none
theorem ok_div : Op2Ok ⟨X.K, X.mg, X.w⟩ (rI CDiv fun i j => V.int (i / j)) b1 b2 true opDiv := by
  intro B G H c σ fp x y dx dy d Q A rx ry e p
  unfold opDiv at e
  split at e
  · split at e
    · cases e
      rename_i hc
      exact ⟨_, _, rx.intH, ry.intH, hc, p.here A (.int _)⟩
    · cases e
  · cases e
def opPow : D → D → Option D
  | .int i, .int j => if 0 ≤ j ∧ j ≤ 1000000 ∧ i.natAbs < 2 ^ 64 then some (.int (i ^ j.toNat)) else none
  | _, _ => none
theorem ok_pow : Op2Ok ⟨X.K, X.mg, X.w⟩ (rI CPow fun i j => V.int (i ^ j.toNat)) b1 b2 true opPow := by
  intro B G H c σ fp x y dx dy d Q A rx ry e p
  unfold opPow at e
  split at e
  · split at e
    · cases e
      rename_i hc
      exact ⟨_, _, rx.intH, ry.intH, hc, p.here A (.int _)⟩
    · cases e
  · cases e
def opShl : D → D → Option D
  | .int i, .int j => if 0 ≤ j ∧ j ≤ 1000000 ∧ i.natAbs < 2 ^ 64 then some (.int (i * 2 ^ j.toNat)) else none
  | _, _ => none
theorem ok_shl : Op2Ok ⟨X.K, X.mg, X.w⟩ (rI CPow fun i j => V.int (i * 2 ^ j.toNat)) b1 b2 true opShl := by
  intro B G H c σ fp x y dx dy d Q A rx ry e p
  unfold opShl at e
  split at e
  · split at e
    · cases e
      rename_i hc
      exact ⟨_, _, rx.intH, ry.intH, hc, p.here A (.int _)⟩
    · cases e
  · cases e
def opShr : D → D → Option D
  | .int i, .int j => if 0 ≤ j then some (.int (i / 2 ^ j.toNat)) else none
  | _, _ => none
theorem ok_shr : Op2Ok ⟨X.K, X.mg, X.w⟩ (rI (fun _ j => 0 ≤ j) fun i j => V.int (i / 2 ^ j.toNat)) b1 b2 true opShr := by
  intro B G H c σ fp x y dx dy d Q A rx ry e p
  unfold opShr at e
  split at e
  · split at e
    · cases e
      rename_i hc
      exact ⟨_, _, rx.intH, ry.intH, hc, p.here A (.int _)⟩
    · cases e
  · cases e
def opBit (f : Int → Int → Int) : D → D → Option D
  | .int i, .int j => some (.int (f i j))
  | _, _ => none
theorem ok_bit {f : Int → Int → Int} : Op2Ok ⟨X.K, X.mg, X.w⟩ (rI0 fun i j => V.int (f i j)) b1 b2 true (opBit f) := by
  intro B G H c σ fp x y dx dy d Q A rx ry e p
  unfold opBit at e
  split at e
  · cases e
    exact ⟨_, _, rx.intH, ry.intH, p.here A (.int _)⟩
  · cases e
/-- < and its kin, of ints -/
def opRel (f : Int → Int → Bool) : D → D → Option D
  | .int i, .int j => some (.bl (f i j))
  | _, _ => none
theorem ok_rel {f : Int → Int → Bool} : Op2Ok ⟨X.K, X.mg, X.w⟩ (rI0 fun i j => V.bl (f i j)) b1 b2 true (opRel f) := by
  intro B G H c σ fp x y dx dy d Q A rx ry e p
  unfold opRel at e
  split at e
  · cases e
    exact ⟨_, _, rx.intH, ry.intH, p.here A (.bl _)⟩
  · cases e
end
end VS

/-! VS: equality, membership, items, slices. -/
namespace VS
open PySem PySem.Spec PyProof.Rows L2

mutual
def D.py : D → PyData
  | .non => .none
  | .bl b => .bool b
  | .int i => .int i
  | .str l => .str (S l)
  | .tup ds => .tuple (D.pys ds)
  | .lst ds => .list (D.pys ds)
  | .dic _ _ => .none
  | .dlk _ _ => .none
  | .ndk _ _ => .none
  | .nlk _ _ => .none
  | .rng _ _ => .none
  | .obj _ _ _ => .none
def D.pys : List D → List PyData
  | [] => []
  | d :: ds => D.py d :: D.pys ds
end
mutual
/-- data that == may meet: no dict, no object; at most n deep -/
def D.pln : Nat → D → Bool
  | _, .non => true
  | _, .bl _ => true
  | _, .int _ => true
  | _, .str l => l.all (· < 0x110000)
  | 0, .tup _ => false
  | 0, .lst _ => false
  | n + 1, .tup ds => D.plns n ds
  | n + 1, .lst ds => D.plns n ds
  | _, .dic _ _ => false
  | _, .dlk _ _ => false
  | _, .ndk _ _ => false
  | _, .nlk _ _ => false
  | _, .rng _ _ => false
  | _, .obj _ _ _ => false
def D.plns : Nat → List D → Bool
  | _, [] => true
  | n, d :: ds => D.pln n d && D.plns n ds
end
mutual
/-- == -/
def D.eqv : D → D → Bool
  | .non, .non => true
  | .bl a, .bl b => a == b
  | .bl a, .int j => (if a then 1 else 0) == j
  | .int i, .bl b => i == (if b then 1 else 0)
  | .int i, .int j => i == j
  | .str x, .str y => x == y
  | .tup xs, .tup ys => D.eqvs xs ys
  | .lst xs, .lst ys => D.eqvs xs ys
  | _, _ => false
def D.eqvs : List D → List D → Bool
  | [], [] => true
  | x :: xs, y :: ys => D.eqv x y && D.eqvs xs ys
  | _, _ => false
end
mutual
theorem D.lay : ∀ (n : Nat) (d : D), D.pln n d = true → d.py.canLay0 = true ∧ d.py.depth ≤ n
  | n, .non, _ => by simp [D.py, PyData.canLay0, PyData.depth]
  | n, .bl _, _ => by simp [D.py, PyData.canLay0, PyData.depth]
  | n, .int _, _ => by simp [D.py, PyData.canLay0, PyData.depth]
  | n, .str l, h => by
    simp only [D.py, PyData.canLay0, PyData.depth]
    refine ⟨?_, Nat.zero_le _⟩
    rw [D.pln] at h
    show (l.toArray).all _ = true
    rw [← Array.all_toList]
    exact h
  | 0, .tup _, h => by simp [D.pln] at h
  | 0, .lst _, h => by simp [D.pln] at h
  | n + 1, .tup ds, h => by
    rw [D.pln] at h
    obtain ⟨h1, h2⟩ := D.lays n ds h
    simp only [D.py, PyData.canLay0, PyData.depth]
    exact ⟨h1, by omega⟩
  | n + 1, .lst ds, h => by
    rw [D.pln] at h
    obtain ⟨h1, h2⟩ := D.lays n ds h
    simp only [D.py, PyData.canLay0, PyData.depth]
    exact ⟨h1, by omega⟩
  | n, .dic _ _, h => by simp [D.pln] at h
  | n, .dlk _ _, h => by simp [D.pln] at h
  | n, .ndk _ _, h => by simp [D.pln] at h
  | n, .nlk _ _, h => by simp [D.pln] at h
  | n, .rng _ _, h => by simp [D.pln] at h
  | n, .obj _ _ _, h => by simp [D.pln] at h
theorem D.lays : ∀ (n : Nat) (ds : List D), D.plns n ds = true → PyData.canLayAll0 (D.pys ds) = true ∧ PyData.depthAll (D.pys ds) ≤ n
  | n, [], _ => by simp [D.pys, PyData.canLayAll0, PyData.depthAll]
  | n, d :: ds, h => by
    rw [D.plns] at h
    simp at h
    obtain ⟨h1, h2⟩ := D.lay n d h.1
    obtain ⟨h3, h4⟩ := D.lays n ds h.2
    simp only [D.pys, PyData.canLayAll0, PyData.depthAll]
    exact ⟨by simp [h1, h3], by omega⟩
end
theorem D.shaped {n : Nat} {d : D} (hn : n ≤ 64) (h : D.pln n d = true) : SeqAt.shaped d.py = true := by
  obtain ⟨h1, h2⟩ := D.lay n d h
  unfold SeqAt.shaped
  rw [h1]
  simp
  omega
mutual
theorem D.eqv_py : ∀ (n m : Nat) (d e : D), D.pln n d = true → D.pln m e = true → PyData.eqv d.py e.py = D.eqv d e
  | n, m, .tup xs, .tup ys, h, k => by
    cases n with
    | zero => simp [D.pln] at h
    | succ n => cases m with
      | zero => simp [D.pln] at k
      | succ m =>
        rw [D.pln] at h k
        simp only [D.py, PyData.eqv, D.eqv]
        exact D.eqvs_py n m xs ys h k
  | n, m, .lst xs, .lst ys, h, k => by
    cases n with
    | zero => simp [D.pln] at h
    | succ n => cases m with
      | zero => simp [D.pln] at k
      | succ m =>
        rw [D.pln] at h k
        simp only [D.py, PyData.eqv, D.eqv]
        exact D.eqvs_py n m xs ys h k
  | n, m, .non, e, h, k => by cases e <;> simp_all [D.py, PyData.eqv, D.eqv, D.pln]
  | n, m, .bl _, e, h, k => by cases e <;> simp_all [D.py, PyData.eqv, D.eqv, D.pln]
  | n, m, .int _, e, h, k => by cases e <;> simp_all [D.py, PyData.eqv, D.eqv, D.pln]
  | n, m, .str a, .str b, h, k => by
    simp only [D.py, PyData.eqv, D.eqv]
    by_cases e : a = b
    · subst e; simp
    · have e2 : ¬ S a = S b := fun z => e (S_inj.mp z)
      rw [beq_eq_false_iff_ne.mpr e, beq_eq_false_iff_ne.mpr e2]
  | n, m, .str _, .non, h, k => by simp [D.py, PyData.eqv, D.eqv]
  | n, m, .str _, .bl _, h, k => by simp [D.py, PyData.eqv, D.eqv]
  | n, m, .str _, .int _, h, k => by simp [D.py, PyData.eqv, D.eqv]
  | n, m, .str _, .tup _, h, k => by simp [D.py, PyData.eqv, D.eqv]
  | n, m, .str _, .lst _, h, k => by simp [D.py, PyData.eqv, D.eqv]
  | n, m, _, .dic _ _, h, k => by simp [D.pln] at k
  | n, m, _, .dlk _ _, h, k => by simp [D.pln] at k
  | n, m, _, .ndk _ _, h, k => by simp [D.pln] at k
  | n, m, _, .nlk _ _, h, k => by simp [D.pln] at k
  | n, m, _, .rng _ _, h, k => by simp [D.pln] at k
  | n, m, _, .obj _ _ _, h, k => by simp [D.pln] at k
  | n, m, .dic _ _, _, h, k => by simp [D.pln] at h
  | n, m, .dlk _ _, _, h, k => by simp [D.pln] at h
  | n, m, .ndk _ _, _, h, k => by simp [D.pln] at h
  | n, m, .nlk _ _, _, h, k => by simp [D.pln] at h
  | n, m, .rng _ _, _, h, k => by simp [D.pln] at h
  | n, m, .obj _ _ _, _, h, k => by simp [D.pln] at h
  | n, m, .tup _, .non, h, k => by simp [D.py, PyData.eqv, D.eqv]
  | n, m, .tup _, .bl _, h, k => by simp [D.py, PyData.eqv, D.eqv]
  | n, m, .tup _, .int _, h, k => by simp [D.py, PyData.eqv, D.eqv]
  | n, m, .tup _, .str _, h, k => by simp [D.py, PyData.eqv, D.eqv]
  | n, m, .tup _, .lst _, h, k => by simp [D.py, PyData.eqv, D.eqv]
  | n, m, .lst _, .non, h, k => by simp [D.py, PyData.eqv, D.eqv]
  | n, m, .lst _, .bl _, h, k => by simp [D.py, PyData.eqv, D.eqv]
  | n, m, .lst _, .int _, h, k => by simp [D.py, PyData.eqv, D.eqv]
  | n, m, .lst _, .str _, h, k => by simp [D.py, PyData.eqv, D.eqv]
  | n, m, .lst _, .tup _, h, k => by simp [D.py, PyData.eqv, D.eqv]
theorem D.eqvs_py : ∀ (n m : Nat) (xs ys : List D), D.plns n xs = true → D.plns m ys = true → PyData.eqvAll (D.pys xs) (D.pys ys) = D.eqvs xs ys
  | n, m, [], [], _, _ => by simp [D.pys, PyData.eqvAll, D.eqvs]
  | n, m, [], y :: ys, _, _ => by simp [D.pys, PyData.eqvAll, D.eqvs]
  | n, m, x :: xs, [], _, _ => by simp [D.pys, PyData.eqvAll, D.eqvs]
  | n, m, x :: xs, y :: ys, h, k => by
    rw [D.plns] at h k
    simp at h k
    simp only [D.pys, PyData.eqvAll, D.eqvs]
    rw [D.eqv_py n m x y h.1 k.1, D.eqvs_py n m xs ys h.2 k.2]
end
@[simp] theorem D.pys_map (ds : List D) : D.pys ds = ds.map D.py := by
  induction ds with
  | nil => rfl
  | cons d ds ih => rw [D.pys, ih]; rfl
theorem plns_all (n : Nat) (ds : List D) : D.plns n ds = ds.all (D.pln n) := by
  induction ds with
  | nil => rfl
  | cons d ds ih => rw [D.plns, ih]; rfl

section
variable {E : Wd} {G : Hp}
mutual
theorem Rp.dp : ∀ (n : Nat) (d : D) (v : V), Rp E G v d → D.pln n d = true → Dp E.K G v d.py
  | n, .non, _, h, _ => by cases h; exact .non
  | n, .bl b, _, h, _ => by cases h; exact .bl b
  | n, .int i, _, h, _ => by cases h; exact .int i
  | n, .str l, _, h, _ => by cases h; exact .str _
  | 0, .tup ds, _, h, k => by simp [D.pln] at k
  | 0, .lst ds, _, h, k => by simp [D.pln] at k
  | n + 1, .tup ds, _, h, k => by
    cases h with
    | tup h r => rw [D.py]; exact .tup h (RpL.dp n ds _ r (by rw [D.pln] at k; exact k))
  | n + 1, .lst ds, _, h, k => by
    cases h with
    | lst h r => rw [D.py]; exact .lst h (RpL.dp n ds _ r (by rw [D.pln] at k; exact k))
  | n, .dic _ _, _, h, k => by simp [D.pln] at k
  | n, .dlk _ _, _, h, k => by simp [D.pln] at k
  | n, .ndk _ _, _, h, k => by simp [D.pln] at k
  | n, .nlk _ _, _, h, k => by simp [D.pln] at k
  | n, .rng _ _, _, h, k => by simp [D.pln] at k
  | n, .obj _ _ _, _, h, k => by simp [D.pln] at k
theorem RpL.dp : ∀ (n : Nat) (ds : List D) (vs : List V), RpL E G vs ds → D.plns n ds = true → DpAll E.K G vs (D.pys ds)
  | n, [], _, h, _ => by cases h; exact .nil
  | n, d :: ds, _, h, k => by
    cases h with
    | cons h r =>
      rw [D.plns] at k
      simp at k
      rw [D.pys]
      exact .cons (Rp.dp n d _ h k.1) (RpL.dp n ds _ r k.2)
end
end
section
variable {X : Cx} {W : WX} {b b' b1 b2 : Bool}
def opEq : D → D → Option D := fun d e => if D.pln 64 d && D.pln 64 e then some (.bl (D.eqv d e)) else none
def opNe : D → D → Option D := fun d e => if D.pln 64 d && D.pln 64 e then some (.bl (!D.eqv d e)) else none
theorem ok_eq : Op2Ok ⟨X.K, X.mg, X.w⟩ (rEqD X.K) b1 b2 true opEq := by
  intro B G H c σ fp x y dx dy d Q A rx ry e p
  unfold opEq at e
  split at e
  · cases e
    rename_i hc
    simp at hc
    exact ⟨_, _, Rp.dp 64 _ _ (vw_rp A.fine.le rx) hc.1, Rp.dp 64 _ _ (vw_rp A.fine.le ry) hc.2, D.shaped (Nat.le_refl _) hc.1, D.shaped (Nat.le_refl _) hc.2, by rw [D.eqv_py 64 64 _ _ hc.1 hc.2]; exact p.here A (.bl _)⟩
  · cases e
theorem ok_ne : Op2Ok ⟨X.K, X.mg, X.w⟩ (rNeD X.K) b1 b2 true opNe := by
  intro B G H c σ fp x y dx dy d Q A rx ry e p
  unfold opNe at e
  split at e
  · cases e
    rename_i hc
    simp at hc
    exact ⟨_, _, Rp.dp 64 _ _ (vw_rp A.fine.le rx) hc.1, Rp.dp 64 _ _ (vw_rp A.fine.le ry) hc.2, D.shaped (Nat.le_refl _) hc.1, D.shaped (Nat.le_refl _) hc.2, by rw [D.eqv_py 64 64 _ _ hc.1 hc.2]; exact p.here A (.bl _)⟩
  · cases e
/-! ### is None -/
def D.isNon : D → Bool
  | .non => true
  | _ => false
def opIs : D → D → Option D
  | d, .non => some (.bl d.isNon)
  | _, _ => none
def opIsnt : D → D → Option D
  | d, .non => some (.bl (!d.isNon))
  | _, _ => none
theorem rp_non {E : Wd} {G : Hp} {v : V} {d : D} (r : Rp E G v d) : decide (v = .non) = d.isNon := by cases r <;> simp [D.isNon]
theorem ok_is : Op2Ok ⟨X.K, X.mg, X.w⟩ (fun x y H Q => y = .non ∧ Q (.bl (decide (x = .non))) H) b1 b2 true opIs := by
  intro B G H c σ fp x y dx dy d Q A rx ry e p
  unfold opIs at e
  split at e
  · cases e
    refine ⟨by cases ry; rfl, ?_⟩
    rw [rp_non rx]
    exact p.here A (.bl _)
  · cases e
theorem ok_isnt : Op2Ok ⟨X.K, X.mg, X.w⟩ (fun x y H Q => y = .non ∧ Q (.bl (!decide (x = .non))) H) b1 b2 true opIsnt := by
  intro B G H c σ fp x y dx dy d Q A rx ry e p
  unfold opIsnt at e
  split at e
  · cases e
    refine ⟨by cases ry; rfl, ?_⟩
    rw [rp_non rx]
    exact p.here A (.bl _)
  · cases e
/-! ### in -/
def inD : D → D → Option Bool
  | .str x, .str l => some (!(Builtin.Str.occurrences (S l) (S x) 0 l.length 1).isEmpty)
  | d, .lst ds => if D.pln 64 d && D.pln 64 (.lst ds) then some (ds.any fun z => D.eqv z d) else none
  | d, .tup ds => if D.pln 64 d && D.pln 64 (.tup ds) then some (ds.any fun z => D.eqv z d) else none
  | d, .dic ks _ => match d.key with
    | some k => some (ks.any fun z => z.key == some k)
    | none => none
  | _, _ => none
def opIn : D → D → Option D := fun d e => (inD d e).map D.bl
def opNotIn : D → D → Option D := fun d e => (inD d e).map fun t => D.bl !t
def rInA (K : PySem.W.Frag) (neg : Bool) : R2 := fun x y H Q => ∃ d ds, Dp K H x d ∧ (Dp K H y (.list ds) ∨ Dp K H y (.tuple ds)) ∧ SeqAt.shaped d = true ∧ SeqAt.shaped (.list ds) = true ∧ Q (.bl (if neg then !(ds.any fun z => PyData.eqv z d) else ds.any fun z => PyData.eqv z d)) H
theorem op_inA (hu : X.A.units + 65 < cLine) : OpR X (compareOp .In) (rInA X.K false) := by
  intro pins s σ H x y v u Q I rx ry h
  obtain ⟨d, ds, hd, he, sd, se, q⟩ := h
  obtain ⟨as, r1⟩ := Dp.reads I d x v hd rx
  rcases he with he | he
  · obtain ⟨bs, r2⟩ := Dp.reads I (.list ds) y u he ry
    exact SeqAt.in_list_reads r2 r1 (SeqAt.canLay_of_shaped se) (SeqAt.canLay_of_shaped sd) (room_in_shaped sd hu) ⟨.bl _, H, I, rfl, q⟩
  · obtain ⟨bs, r2⟩ := Dp.reads I (.tuple ds) y u he ry
    exact SeqAt.in_tuple_reads r2 r1 (SeqAt.canLay_of_shaped se) (SeqAt.canLay_of_shaped sd) (room_in_shaped sd hu) ⟨.bl _, H, I, rfl, q⟩
theorem op_notInA (hu : X.A.units + 65 < cLine) : OpR X (compareOp .NotIn) (rInA X.K true) := by
  intro pins s σ H x y v u Q I rx ry h
  obtain ⟨d, ds, hd, he, sd, se, q⟩ := h
  obtain ⟨as, r1⟩ := Dp.reads I d x v hd rx
  rcases he with he | he
  · obtain ⟨bs, r2⟩ := Dp.reads I (.list ds) y u he ry
    exact SeqAt.notIn_list_reads r2 r1 (SeqAt.canLay_of_shaped se) (SeqAt.canLay_of_shaped sd) (room_in_shaped sd hu) ⟨.bl _, H, I, rfl, q⟩
  · obtain ⟨bs, r2⟩ := Dp.reads I (.tuple ds) y u he ry
    exact SeqAt.notIn_tuple_reads r2 r1 (SeqAt.canLay_of_shaped se) (SeqAt.canLay_of_shaped sd) (room_in_shaped sd hu) ⟨.bl _, H, I, rfl, q⟩
def rStrIn (neg : Bool) : R2 := fun x y H Q => ∃ i j, x = .str i ∧ y = .str j ∧ Q (.bl (if neg then !(!(Builtin.Str.occurrences j i 0 j.length 1).isEmpty) else !(Builtin.Str.occurrences j i 0 j.length 1).isEmpty)) H
def rInX (K : PySem.W.Frag) (neg : Bool) : R2 := fun x y H Q => rStrIn neg x y H Q ∨ rInA K neg x y H Q
theorem op_inX (hu : X.A.units + 65 < cLine) : OpR X (compareOp .In) (rInX X.K false) := OpR.or op_in_str (op_inA hu)
theorem op_notInX (hu : X.A.units + 65 < cLine) : OpR X (compareOp .NotIn) (rInX X.K true) := OpR.or op_notin_str (op_notInA hu)
/-- membership but in a dict -/
def inS : D → D → Option Bool
  | .str x, .str l => some (!(Builtin.Str.occurrences (S l) (S x) 0 l.length 1).isEmpty)
  | d, .lst ds => if D.pln 64 d && D.pln 64 (.lst ds) then some (ds.any fun z => D.eqv z d) else none
  | d, .tup ds => if D.pln 64 d && D.pln 64 (.tup ds) then some (ds.any fun z => D.eqv z d) else none
  | _, _ => none
theorem any_py {n : Nat} {d : D} {ds : List D} (h : D.pln 64 d = true) (k : D.plns n ds = true) : ((D.pys ds).any fun z => PyData.eqv z d.py) = ds.any fun z => D.eqv z d := by
  rw [plns_all] at k
  rw [D.pys_map, List.any_map]
  induction ds with
  | nil => rfl
  | cons x ds ih =>
    simp at k
    rw [List.any_cons, List.any_cons, ih (by simpa using k.2)]
    show (PyData.eqv x.py d.py || _) = _
    rw [D.eqv_py n 64 x d k.1 h]
theorem ok_inX {neg : Bool} : Op2Ok ⟨X.K, X.mg, X.w⟩ (rInX X.K neg) b1 b2 true (fun d e => (inS d e).map fun t => D.bl (if neg then !t else t)) := by
  intro B G H c σ fp x y dx dy d Q A rx ry e p
  have rx' := vw_rp A.fine.le rx
  have ry' := vw_rp A.fine.le ry
  obtain ⟨t, ht, rfl⟩ := Option.map_eq_some_iff.mp e
  clear e
  unfold inS at ht
  split at ht
  · cases ht
    refine .inl ⟨_, _, rx'.strH, ry'.strH, ?_⟩
    rw [S_len]
    exact p.here A (.bl _)
  · split at ht
    · cases ht
      rename_i es hc
      simp only [Bool.and_eq_true] at hc
      obtain ⟨h1, h2⟩ := hc
      have h3 : D.plns 63 es = true := by rw [D.pln] at h2; exact h2
      have hd := Rp.dp 64 _ _ ry' h2
      rw [D.py] at hd
      have hs := D.shaped (Nat.le_refl _) h2
      rw [D.py] at hs
      refine .inr ⟨_, _, Rp.dp 64 _ _ rx' h1, .inl hd, D.shaped (Nat.le_refl _) h1, hs, ?_⟩
      rw [any_py h1 h3]
      exact p.here A (.bl _)
    · cases ht
  · split at ht
    · cases ht
      rename_i es hc
      simp only [Bool.and_eq_true] at hc
      obtain ⟨h1, h2⟩ := hc
      have h3 : D.plns 63 es = true := by rw [D.pln] at h2; exact h2
      have hd := Rp.dp 64 _ _ ry' h2
      rw [D.py] at hd
      have hs : SeqAt.shaped (PyData.list (D.pys es)) = true := by
        have z := D.shaped (Nat.le_refl 64) h2
        rw [D.py] at z
        unfold SeqAt.shaped at z ⊢
        simp only [PyData.canLay0, PyData.depth] at z ⊢
        exact z
      refine .inr ⟨_, _, Rp.dp 64 _ _ rx' h1, .inr hd, D.shaped (Nat.le_refl _) h1, hs, ?_⟩
      rw [any_py h1 h3]
      exact p.here A (.bl _)
    · cases ht
  · cases ht
def opInS : D → D → Option D := fun d e => (inS d e).map fun t => D.bl t
def opNotInS : D → D → Option D := fun d e => (inS d e).map fun t => D.bl (!t)
theorem ok_inS : Op2Ok ⟨X.K, X.mg, X.w⟩ (rInX X.K false) b1 b2 true opInS := ok_inX (neg := false)
theorem ok_notInS : Op2Ok ⟨X.K, X.mg, X.w⟩ (rInX X.K true) b1 b2 true opNotInS := ok_inX (neg := true)

/-! ### items -/
def opIx (b : Bool) : D → D → Option D
  | .lst ds, .int i => (atI ds i).bind fun d => if okE b d then some d else none
  | .tup ds, .int i => (atI ds i).bind fun d => if okE b d then some d else none
  | .str l, .int i => if l.length ≤ 16777216 then (atI l i).map fun x => .str [x] else none
  | _, _ => none
theorem RpL.at {E : Wd} {G : Hp} {vs : List V} {ds : List D} (h : RpL E G vs ds) {i : Int} {d : D} (e : atI ds i = some d) : ∃ v, atI vs i = some v ∧ Rp E G v d := by
  unfold atI at e ⊢
  rw [h.length]
  cases k : ixN ds.length i with
  | none => rw [k] at e; cases e
  | some j =>
    rw [k] at e
    exact h.get e
theorem ok_ix : Op2Ok ⟨X.K, X.mg, X.w⟩ (rIx X.K) b b2 true (opIx b) := by
  intro B G H c σ fp x y dx dy d Q A rx ry e p
  unfold opIx at e
  split at e
  · rename_i ds i
    cases hk : atI ds i with
    | none => rw [hk] at e; cases e
    | some d' =>
      rw [hk] at e
      have e : (if okE b d' then some d' else none) = some d := e
      split at e
      · cases e
        rename_i hok
        obtain ⟨a, vs, rfl, h1, r1⟩ := rx.lstH A.fine.le
        obtain ⟨v, hv, rv⟩ := r1.at hk
        exact .inl ⟨_, _, _, _, rfl, ry.intH, h1, hv, p.here A (rv.known A.fine hok)⟩
      · cases e
  · rename_i ds i
    cases hk : atI ds i with
    | none => rw [hk] at e; cases e
    | some d' =>
      rw [hk] at e
      have e : (if okE b d' then some d' else none) = some d := e
      split at e
      · cases e
        rename_i hok
        obtain ⟨a, vs, rfl, h1, r1⟩ := rx.tupH A.fine.le
        obtain ⟨v, hv, rv⟩ := r1.at hk
        exact .inr (.inl ⟨_, _, _, _, rfl, ry.intH, h1, hv, p.here A (rv.known A.fine hok)⟩)
      · cases e
  · rename_i l i
    split at e
    · rename_i hl
      cases hk : atI l i with
      | none => rw [hk] at e; cases e
      | some z =>
        rw [hk] at e
        cases e
        refine .inr (.inr ⟨_, _, z, rx.strH, ry.intH, by rw [S_len, sizeLine_eq]; exact hl, hk, ?_⟩)
        exact p.here A (.str [z])
    · cases e
  · cases e
theorem px_ix {a eb : Expr} {pos : Pos} {ga gb : Env → R D} (ha : PX X W b a ga) (hb : PX X W b2 eb gb) (hs : PlainIx eb := by exact fun _ _ => rfl) : PX X W true (.Subscript a eb pos) (eOp2 (opIx b) ga gb) :=
  pe_mono (pe_ix ix_seq ha hb hs) (tx_op2 ok_ix)

/-! ### slices -/
def eO (g : Env → R D) : Env → R (Option Int) := fun c => g c >>= fun d => match d with
  | .int i => .ok (some i)
  | _ => .stuck
def eNoO : Env → R (Option Int) := fun _ => .ok none
def PostO (E : Wd) (B : Bs) (c : Env) (σ : L2.St) (fp : List Addr) (G H : Hp) (Q : Option Int → Hp → Prop) (t : Option Int) : Prop :=
  ∀ G' H', Same G G' → Same H H' → Abs E B G' H' c σ fp → Q t H'
def TXO (E : Wd) (W : WX) (g : Env → R (Option Int)) : TO := fun σ H Q => ∃ B G c fp, Abs E B G H c σ fp ∧ Res E W B c σ fp G H (g c) (PostO E B c σ fp G H Q)
def PXO (X : Cx) (W : WX) (e : Option Expr) (g : Env → R (Option Int)) : Prop := PO X e (TXO ⟨X.K, X.mg, X.w⟩ W g)
theorem po_mono {e : Option Expr} {t t' : TO} (h : PO X e t) (k : ∀ σ H Q, t' σ H Q → t σ H Q) : PO X e t' := ⟨fun pins s σ H Q I q => h.run pins s σ H Q I (k σ H Q q)⟩
theorem pxo_no : PXO X W none eNoO := po_mono po_none fun σ H Q ⟨B, G, c, fp, A, q⟩ => q G H (Same.refl _) (Same.refl _) A
theorem pxo_some {e : Expr} {g : Env → R D} (h : PX X W b e g) : PXO X W (some e) (eO g) := po_mono (po_some h) fun σ H Q ⟨B, G, c, fp, A, q⟩ => tx_seq A q fun d e v G1 H1 s1 t1 A1 r1 q1 => by
  cases d with
  | int i => exact ⟨i, r1.intH, q1 G1 H1 s1 t1 A1⟩
  | _ => exact q1.elim
theorem txo_seq {α : Type} {E : Wd} {W : WX} {B : Bs} {c : Env} {σ : L2.St} {fp : List Addr} {G H : Hp} {ga : Env → R (Option Int)} {f : Option Int → R α} {P : α → Prop} {Q' : Option Int → Hp → Prop} (A : Abs E B G H c σ fp) (h : Res E W B c σ fp G H (ga c >>= f) P)
    (k : ∀ t, ga c = .ok t → ∀ G1 H1, Same G G1 → Same H H1 → Abs E B G1 H1 c σ fp → Res E W B c σ fp G1 H1 (f t) P → Q' t H1) : TXO E W ga σ H Q' := by
  refine ⟨B, G, c, fp, A, ?_⟩
  cases e : ga c with
  | ok d =>
    rw [e] at h
    exact fun G1 H1 s t A1 => k d e G1 H1 s t A1 (Res.grow (r := f d) h s t fun _ _ z => z)
  | ex x => rw [e] at h; exact h
  | stuck => rw [e] at h; exact h
/-- the part of a list between two places -/
def cutD {α : Type} (xs : List α) (lo hi : Option Int) : List α := (xs.drop (HT.sIx xs.length 0 lo)).take (HT.sIx xs.length xs.length hi - HT.sIx xs.length 0 lo)
def opSl (b : Bool) (d : D) (lo hi : Option Int) : Option D :=
  match d with
  | .lst ds => if okEl b (cutD ds lo hi) then some (.lst (cutD ds lo hi)) else none
  | .tup ds => if okEl b (cutD ds lo hi) then some (.tup (cutD ds lo hi)) else none
  | .str l => if l.length ≤ 16777216 then some (.str (cutD l lo hi)) else none
  | _ => none
def eSl (b : Bool) (g : Env → R D) (gl gh : Env → R (Option Int)) : Env → R D := fun c => g c >>= fun d => gl c >>= fun lo => gh c >>= fun hi => lift (opSl b d lo hi)
def rSlX' (K : PySem.W.Frag) : V → Option Int → Option Int → Hp → VK → Prop := fun x lo hi H Q => rSlL K x lo hi H Q ∨ rSlA K x lo hi H Q ∨ rSlS x lo hi H Q
theorem sl_X : SlR X (rSlX' X.K) := sl_list.or (sl_tupA.or sl_str)
theorem RpL.cut {E : Wd} {G : Hp} {vs : List V} {ds : List D} (h : RpL E G vs ds) (lo hi : Option Int) : RpL E G (cutV vs lo hi) (cutD ds lo hi) := by
  unfold cutV cutD
  rw [h.length]
  exact (h.drop _).take _
theorem cut_whole {α : Type} {xs : List α} {lo hi : Option Int} (h : HT.sIx xs.length 0 lo = 0 ∧ HT.sIx xs.length xs.length hi = xs.length) : cutD xs lo hi = xs := by
  unfold cutD
  rw [h.1, h.2]
  simp
theorem ok_sl {B : Bs} {G H : Hp} {c : Env} {σ : L2.St} {fp : List Addr} {x : V} {d d' : D} {lo hi : Option Int} {Q : VK} (A : Abs ⟨X.K, X.mg, X.w⟩ B G H c σ fp) (rx : Rp ⟨X.K, X.mg, X.w⟩ (vw b G H) x d) (e : opSl b d lo hi = some d') (p : Post ⟨X.K, X.mg, X.w⟩ B c σ fp G H true Q d') : rSlX' X.K x lo hi H Q := by
  unfold opSl at e
  split at e
  · split at e
    · cases e
      rename_i hok
      obtain ⟨a, vs, rfl, h1, r1⟩ := rx.lstH A.fine.le
      exact .inl ⟨_, _, rfl, h1, fun q hq => p.new A hq fun s => .lst (.inl (.inl upd_same)) (((r1.cut lo hi).known A.fine hok).mono s)⟩
    · cases e
  · split at e
    · cases e
      rename_i ds hok
      obtain ⟨a, vs, rfl, h1, r1⟩ := rx.tupH A.fine.le
      have r2 := (r1.cut lo hi).known A.fine hok
      refine .inr (.inl ⟨_, _, rfl, h1, fun hw => ?_, fun hw q hq => p.new A hq fun s => .tup (.inl (.inl upd_same)) (r2.mono s)⟩)
      have e1 : cutV vs lo hi = vs := cut_whole hw
      rw [r1.length] at hw
      have e2 : cutD ds lo hi = ds := cut_whole hw
      rw [e1, e2] at r2
      rw [e2] at p
      refine p.here A (.tup ?_ r2)
      rcases h1 with (z | ⟨o, z⟩) | z
      · exact .inl (.inl (A.fine.tup _ _ z rfl))
      · exact .inl (.inr ⟨o, A.fine.tup _ _ z rfl⟩)
      · exact .inr z
    · cases e
  · split at e
    · cases e
      rename_i l hl
      refine .inr (.inr ⟨S l, rx.strH, by rw [S_len, sizeLine_eq]; exact hl, ?_⟩)
      have e2 : cutS (S l) lo hi = S (cutD l lo hi) := by
        unfold cutS cutD S
        simp [Str.length]
      rw [e2]
      exact p.here A (.str _)
    · cases e
  · cases e
theorem px_sl {a : Expr} {lo hi : Option Expr} {pos p2 : Pos} {g : Env → R D} {gl gh : Env → R (Option Int)} (ha : PX X W b a g) (hl : PXO X W lo gl) (hh : PXO X W hi gh) : PX X W true (.Subscript a (.Slice lo hi none p2) pos) (eSl b g gl gh) :=
  pe_mono (pe_slice sl_X ha hl hh) fun σ H Q ⟨B, G, c, fp, A, q⟩ => tx_seq A q fun d e v G1 H1 s1 t1 A1 r1 q1 => txo_seq A1 q1 fun lo e2 G2 H2 s2 t2 A2 q2 => txo_seq A2 q2 fun hi e3 G3 H3 s3 t3 A3 q3 => by
    obtain ⟨d3, e3, p3⟩ := Res.lift q3
    exact ok_sl A3 (vw_mono (s2.trans s3) (t2.trans t3) r1) e3 (p3.grow (s1.trans (s2.trans s3)) (t1.trans (t2.trans t3)))
end
end VS

/-! VS: built-in functions and methods. -/
namespace VS
open PySem PySem.Spec PyProof.Rows L2

section
variable {X : Cx} {W : WX} {b b' b1 b2 : Bool}
theorem RpL.one {E : Wd} {G : Hp} {vs : List V} {d : D} (h : RpL E G vs [d]) : ∃ v, vs = [v] ∧ Rp E G v d := by
  cases h with
  | cons h r => cases r; exact ⟨_, rfl, h⟩
theorem RpL.two {E : Wd} {G : Hp} {vs : List V} {d e : D} (h : RpL E G vs [d, e]) : ∃ v w, vs = [v, w] ∧ Rp E G v d ∧ Rp E G w e := by
  cases h with
  | cons h r => cases r with
    | cons k r => cases r; exact ⟨_, _, rfl, h, k⟩
theorem vw_rd {G H : Hp} {a : Addr} {u : HO} (s : Same G H) (h : Rd (vw b G H) a u) : Rd H a u := Same.rd (same_vw b s) h
theorem Rp.dicH {E : Wd} {G H : Hp} {v : V} {ks ds : List D} (r : Rp E (vw b G H) v (.dic ks ds)) (s : Same G H) : ∃ a kvs, v = .ref a ∧ Rd H a (.dK kvs) ∧ ks.map D.key = kvs.map (fun p => some p.1) ∧ RpL E (vw b G H) (kvs.map (·.2)) ds := by
  cases r with
  | dic h e r => exact ⟨_, _, rfl, Same.rd (same_vw b s) h, e, r⟩

/-! ### len -/
def fLen : List D → Option D
  | [.str l] => if l.length ≤ 16777216 then some (.int l.length) else none
  | [.lst ds] => some (.int ds.length)
  | [.tup ds] => some (.int ds.length)
  | [.dic ks _] => some (.int ks.length)
  | [.dlk ks _] => some (.int ks.length)
  | _ => none
def rLenA (K : PySem.W.Frag) : List V → Hp → VK → Prop := fun xs H Q => (∃ x n, xs = [x] ∧ LenV K x H n ∧ Q (.int n) H) ∨ ∃ a kvs, xs = [V.ref a] ∧ Rd H a (.dK kvs) ∧ Q (.int kvs.length) H
theorem call_lenA : CallR X (.builtin "len") (rLenA X.K) := call_len.or fun pins s σ H xs us Q I r h => by
  obtain ⟨a, kvs, rfl, ha, q⟩ := h
  obtain ⟨u, rfl, ru⟩ := vals1 r
  cases ru
  exact d_len I ha fun t s' I' => ⟨.int kvs.length, H, I', ⟨t, rfl⟩, q⟩
theorem ok_len : CallOk ⟨X.K, X.mg, X.w⟩ (rLenA X.K) b true fLen := by
  intro B G H c σ fp vs ds d Q A r e p
  unfold fLen at e
  split at e
  · split at e
    · cases e
      rename_i l hl
      obtain ⟨v, rfl, rv⟩ := r.one
      cases rv.strH
      exact .inl ⟨_, l.length, rfl, ⟨by rw [S_len, sizeLine_eq]; exact hl, by rw [S_len]⟩, p.here A (.int _)⟩
    · cases e
  · cases e
    rename_i ds
    obtain ⟨v, rfl, rv⟩ := r.one
    obtain ⟨a, vs, rfl, h1, r1⟩ := rv.lstH A.fine.le
    exact .inl ⟨_, ds.length, rfl, .inl ⟨vs, h1, r1.length.symm⟩, p.here A (.int _)⟩
  · cases e
    rename_i ds
    obtain ⟨v, rfl, rv⟩ := r.one
    obtain ⟨a, vs, rfl, h1, r1⟩ := rv.tupH A.fine.le
    exact .inl ⟨_, ds.length, rfl, .inr ⟨vs, h1, r1.length.symm⟩, p.here A (.int _)⟩
  · cases e
    rename_i ks ds
    obtain ⟨v, rfl, rv⟩ := r.one
    obtain ⟨a, kvs, rfl, h1, e1, r1⟩ := rv.dicH A.fine.le
    have hl : kvs.length = ks.length := by
      have := congrArg List.length e1
      simpa using this.symm
    refine .inr ⟨_, _, rfl, h1, ?_⟩
    rw [hl]
    exact p.here A (.int _)
  · cases e
    rename_i ks ds
    obtain ⟨v, rfl, rv⟩ := r.one
    have rv := vw_rp A.fine.le rv
    cases rv with
    | @dlk a o kvs _ _ h1 e1 r1 =>
      have hl : kvs.length = ks.length := by
        have := congrArg List.length e1
        simpa using this.symm
      refine .inr ⟨_, _, rfl, .inr ⟨_, h1⟩, ?_⟩
      rw [hl]
      exact p.here A (.int _)
  · cases e

/-! ### abs, int, max, min, list, tuple, sum, any, all -/
def fAbs : List D → Option D
  | [.int i] => some (.int (if i < 0 then -i else i))
  | _ => none
theorem ok_abs : CallOk ⟨X.K, X.mg, X.w⟩ (fun xs H Q => ∃ i, xs = [V.int i] ∧ Q (.int (if i < 0 then -i else i)) H) b true fAbs := by
  intro B G H c σ fp vs ds d Q A r e p
  unfold fAbs at e
  split at e
  · cases e
    obtain ⟨v, rfl, rv⟩ := r.one
    cases rv.intH
    exact ⟨_, rfl, p.here A (.int _)⟩
  · cases e
def fInt : List D → Option D
  | [.int i] => some (.int i)
  | [.bl t] => some (.int (if t then 1 else 0))
  | _ => none
theorem ok_int : CallOk ⟨X.K, X.mg, X.w⟩ (fun xs H Q => (∃ i, xs = [V.int i] ∧ Q (.int i) H) ∨ ∃ k, xs = [V.bl k] ∧ Q (.int (if k then 1 else 0)) H) b true fInt := by
  intro B G H c σ fp vs ds d Q A r e p
  unfold fInt at e
  split at e
  · cases e
    obtain ⟨v, rfl, rv⟩ := r.one
    cases rv.intH
    exact .inl ⟨_, rfl, p.here A (.int _)⟩
  · cases e
    obtain ⟨v, rfl, rv⟩ := r.one
    cases rv.blH
    exact .inr ⟨_, rfl, p.here A (.int _)⟩
  · cases e
def fMax2 : List D → Option D
  | [.int i, .int j] => some (.int (if j > i then j else i))
  | _ => none
theorem ok_max2 : CallOk ⟨X.K, X.mg, X.w⟩ (fun xs H Q => ∃ i j, xs = [V.int i, V.int j] ∧ Q (.int (if j > i then j else i)) H) b true fMax2 := by
  intro B G H c σ fp vs ds d Q A r e p
  unfold fMax2 at e
  split at e
  · cases e
    obtain ⟨v, w, rfl, rv, rw'⟩ := r.two
    cases rv.intH
    cases rw'.intH
    exact ⟨_, _, rfl, p.here A (.int _)⟩
  · cases e
def fMin2 : List D → Option D
  | [.int i, .int j] => some (.int (if j < i then j else i))
  | _ => none
theorem ok_min2 : CallOk ⟨X.K, X.mg, X.w⟩ (fun xs H Q => ∃ i j, xs = [V.int i, V.int j] ∧ Q (.int (if j < i then j else i)) H) b true fMin2 := by
  intro B G H c σ fp vs ds d Q A r e p
  unfold fMin2 at e
  split at e
  · cases e
    obtain ⟨v, w, rfl, rv, rw'⟩ := r.two
    cases rv.intH
    cases rw'.intH
    exact ⟨_, _, rfl, p.here A (.int _)⟩
  · cases e
def fList (b : Bool) : List D → Option D
  | [.lst ds] => if okEl b ds then some (.lst ds) else none
  | [.tup ds] => if okEl b ds then some (.lst ds) else none
  | [.dic ks _] => if ks.length ≤ 16777216 then some (.lst ks) else none
  | _ => none
def rListA (K : PySem.W.Frag) : List V → Hp → VK → Prop := fun xs H Q => (∃ p ys, xs = [V.ref p] ∧ (SqL K H p ys ∨ SqT K H p ys) ∧ ∀ l, H l = none → Q (.ref l) (upd H l (.lst ys))) ∨
  ∃ (a : Addr) (kvs : List (Key × V)), xs = [.ref a] ∧ Rd H a (.dK kvs) ∧ ∀ p, H p = none → Q (.ref p) (upd H p (.lst (kvs.map fun kv => kV kv.1)))
theorem call_listA (hc : X.calm = true) : CallR X (.type "list") (rListA X.K) := call_list_of.or (call_listD hc)
theorem key_rp {E : Wd} {G : Hp} {d : D} {k : Key} (h : d.key = some k) : Rp E G (kV k) d := by
  cases d <;> simp [D.key] at h
  · subst h; exact .int _
  · subst h; exact .str _
theorem keys_rp {E : Wd} {G : Hp} : ∀ {ks : List D} {kvs : List (Key × V)}, ks.map D.key = kvs.map (fun p => some p.1) → RpL E G (kvs.map fun kv => kV kv.1) ks
  | [], [], _ => .nil
  | [], _ :: _, h => by simp at h
  | _ :: _, [], h => by simp at h
  | k :: ks, kv :: kvs, h => by
    simp at h
    exact .cons (key_rp h.1) (keys_rp (by simpa using h.2))
theorem ok_list : CallOk ⟨X.K, X.mg, X.w⟩ (rListA X.K) b true (fList b) := by
  intro B G H c σ fp vs ds d Q A r e p
  unfold fList at e
  split at e
  · split at e
    · cases e
      rename_i hk
      obtain ⟨v, rfl, rv⟩ := r.one
      obtain ⟨a, vs, rfl, h1, r1⟩ := rv.lstH A.fine.le
      exact .inl ⟨_, _, rfl, .inl h1, fun q hq => p.new A hq fun s => .lst (.inl (.inl upd_same)) ((r1.known A.fine hk).mono s)⟩
    · cases e
  · split at e
    · cases e
      rename_i hk
      obtain ⟨v, rfl, rv⟩ := r.one
      obtain ⟨a, vs, rfl, h1, r1⟩ := rv.tupH A.fine.le
      exact .inl ⟨_, _, rfl, .inr h1, fun q hq => p.new A hq fun s => .lst (.inl (.inl upd_same)) ((r1.known A.fine hk).mono s)⟩
    · cases e
  · split at e
    · cases e
      rename_i ks ds hl
      obtain ⟨v, rfl, rv⟩ := r.one
      obtain ⟨a, kvs, rfl, h1, e1, r1⟩ := rv.dicH A.fine.le
      exact .inr ⟨_, _, rfl, h1, fun q hq => p.new A hq fun s => .lst (.inl (.inl upd_same)) (keys_rp e1)⟩
    · cases e
  · cases e
def fTuple (b : Bool) : List D → Option D
  | [.lst ds] => if okEl b ds then some (.tup ds) else none
  | [.tup ds] => if okEl b ds then some (.tup ds) else none
  | _ => none
theorem known_tup {B : Bs} {G H : Hp} {K : PySem.W.Frag} (f : Fine B G H) {a : Addr} {xs : List V} (h : SqT K H a xs) : SqT K G a xs := by
  rcases h with (z | ⟨o, z⟩) | z
  · exact .inl (.inl (f.tup _ _ z rfl))
  · exact .inl (.inr ⟨o, f.tup _ _ z rfl⟩)
  · exact .inr z
theorem ok_tuple : CallOk ⟨X.K, X.mg, X.w⟩ (fun xs H Q => ∃ p ys, xs = [V.ref p] ∧ ((SqL X.K H p ys ∧ ∀ l, H l = none → Q (.ref l) (upd H l (.tup ys))) ∨ (SqT X.K H p ys ∧ Q (.ref p) H))) b true (fTuple b) := by
  intro B G H c σ fp vs ds d Q A r e p
  unfold fTuple at e
  split at e
  · split at e
    · cases e
      rename_i hk
      obtain ⟨v, rfl, rv⟩ := r.one
      obtain ⟨a, vs, rfl, h1, r1⟩ := rv.lstH A.fine.le
      exact ⟨_, _, rfl, .inl ⟨h1, fun q hq => p.new A hq fun s => .tup (.inl (.inl upd_same)) ((r1.known A.fine hk).mono s)⟩⟩
    · cases e
  · split at e
    · cases e
      rename_i hk
      obtain ⟨v, rfl, rv⟩ := r.one
      obtain ⟨a, vs, rfl, h1, r1⟩ := rv.tupH A.fine.le
      exact ⟨_, _, rfl, .inr ⟨h1, p.here A (.tup (known_tup A.fine h1) (r1.known A.fine hk))⟩⟩
    · cases e
  · cases e
def asInt : D → Option Int
  | .int i => some i
  | _ => none
def asInts (ds : List D) : Option (List Int) := ds.mapM asInt
theorem asInts_cons (d : D) (ds : List D) : asInts (d :: ds) = (asInt d).bind fun i => (asInts ds).map fun is => i :: is := by
  unfold asInts
  rw [List.mapM_cons]
  cases asInt d <;> simp
  cases List.mapM asInt ds <;> rfl
@[simp] theorem asInts_map (ns : List Int) : asInts (ns.map D.int) = some ns := by
  induction ns with
  | nil => rfl
  | cons n ns ih => rw [List.map_cons, asInts_cons, ih]; rfl
theorem asInts_rp {E : Wd} {G : Hp} : ∀ {ds : List D} {vs : List V} {ns : List Int}, RpL E G vs ds → asInts ds = some ns → vs = ns.map V.int
  | [], _, _, r, e => by cases r; cases e; rfl
  | d :: ds, _, ns, r, e => by
    cases r with
    | cons h r =>
      rw [asInts_cons] at e
      cases d <;> simp [asInt] at e
      obtain ⟨a, e1, rfl⟩ := e
      rw [asInts_rp r e1, h.intH]
      rfl
def fSum : List D → Option D
  | [.lst ds] => (asInts ds).map fun ns => .int ns.sum
  | _ => none
theorem ok_sum : CallOk ⟨X.K, X.mg, X.w⟩ (rSum X.K) b true fSum := by
  intro B G H c σ fp vs ds d Q A r e p
  unfold fSum at e
  split at e
  · obtain ⟨ns, e1, rfl⟩ := Option.map_eq_some_iff.mp e
    obtain ⟨v, rfl, rv⟩ := r.one
    obtain ⟨a, vs, rfl, h1, r1⟩ := rv.lstH A.fine.le
    rw [asInts_rp r1 e1] at h1
    exact ⟨_, ns, rfl, h1, p.here A (.int _)⟩
  · cases e
def asBs (ds : List D) : Option (List Bool) := ds.mapM asB
theorem asBs_cons (d : D) (ds : List D) : asBs (d :: ds) = (asB d).bind fun i => (asBs ds).map fun is => i :: is := by
  unfold asBs
  rw [List.mapM_cons]
  cases asB d <;> simp
  cases List.mapM asB ds <;> rfl
@[simp] theorem asBs_map (ns : List Bool) : asBs (ns.map D.bl) = some ns := by
  induction ns with
  | nil => rfl
  | cons n ns ih => rw [List.map_cons, asBs_cons, ih]; rfl
theorem asBs_rp {E : Wd} {G : Hp} : ∀ {ds : List D} {vs : List V} {ns : List Bool}, RpL E G vs ds → asBs ds = some ns → vs = ns.map V.bl
  | [], _, _, r, e => by cases r; cases e; rfl
  | d :: ds, _, ns, r, e => by
    cases r with
    | cons h r =>
      rw [asBs_cons] at e
      cases d <;> simp [asB] at e
      obtain ⟨a, e1, rfl⟩ := e
      rw [asBs_rp r e1, h.blH]
      rfl
def fAny : List D → Option D
  | [.lst ds] => (asBs ds).map fun ns => .bl (ns.any id)
  | _ => none
theorem ok_any : CallOk ⟨X.K, X.mg, X.w⟩ (rAny X.K) b true fAny := by
  intro B G H c σ fp vs ds d Q A r e p
  unfold fAny at e
  split at e
  · obtain ⟨ns, e1, rfl⟩ := Option.map_eq_some_iff.mp e
    obtain ⟨v, rfl, rv⟩ := r.one
    obtain ⟨a, vs, rfl, h1, r1⟩ := rv.lstH A.fine.le
    rw [asBs_rp r1 e1] at h1
    exact ⟨_, ns, rfl, h1, p.here A (.bl _)⟩
  · cases e
def fAll : List D → Option D
  | [.lst ds] => (asBs ds).map fun ns => .bl (ns.all id)
  | _ => none
theorem ok_all : CallOk ⟨X.K, X.mg, X.w⟩ (rAll X.K) b true fAll := by
  intro B G H c σ fp vs ds d Q A r e p
  unfold fAll at e
  split at e
  · obtain ⟨ns, e1, rfl⟩ := Option.map_eq_some_iff.mp e
    obtain ⟨v, rfl, rv⟩ := r.one
    obtain ⟨a, vs, rfl, h1, r1⟩ := rv.lstH A.fine.le
    rw [asBs_rp r1 e1] at h1
    exact ⟨_, ns, rfl, h1, p.here A (.bl _)⟩
  · cases e

/-! ### isinstance of a built-in type -/
inductive Ty where | bool | int | str | list | tuple | dict
def Ty.name : Ty → String
  | .bool => "bool" | .int => "int" | .str => "str" | .list => "list" | .tuple => "tuple" | .dict => "dict"
def isI : Ty → D → Option Bool
  | T, .non => some false
  | .bool, .bl _ => some true
  | .int, .bl _ => some true
  | _, .bl _ => some false
  | .int, .int _ => some true
  | _, .int _ => some false
  | .str, .str _ => some true
  | _, .str _ => some false
  | .list, .lst _ => some true
  | _, .lst _ => some false
  | .tuple, .tup _ => some true
  | _, .tup _ => some false
  | .dict, .dic _ _ => some true
  | _, .dic _ _ => some false
  | _, .dlk _ _ => none
  | _, .ndk _ _ => none
  | _, .nlk _ _ => none
  | _, .rng _ _ => none
  | _, .obj _ _ _ => none
def eIs (T : Ty) (g : Env → R D) : Env → R D := fun c => g c >>= fun d => lift ((isI T d).map D.bl)
theorem is_kit : ∀ (T : Ty), kitB "NoneType" T.name = some false ∧ kitB "bool" T.name = some (match T with | .bool => true | .int => true | _ => false) ∧ kitB "int" T.name = some (match T with | .int => true | _ => false) ∧
    kitB "str" T.name = some (match T with | .str => true | _ => false) ∧ kitB "list" T.name = some (match T with | .list => true | _ => false) ∧ kitB "tuple" T.name = some (match T with | .tuple => true | _ => false) ∧ kitB "dict" T.name = some (match T with | .dict => true | _ => false) := by
  intro T
  cases T <;> decide +kernel
theorem is_ty {K : PySem.W.Frag} {mg : Str → Option Value} {w : World} {H : Hp} {T : Ty} {v : V} {d : D} {t : Bool} (r : Rp ⟨K, mg, w⟩ H v d) (e : isI T d = some t) : ∃ u, TyX K H v u ∧ PySem.W.kitOne K u (.type T.name) = some t := by
  obtain ⟨k1, k2, k3, k4, k5, k6, k7⟩ := is_kit T
  cases r with
  | non => exact ⟨_, .base .non, kit_ty (by rw [k1]; cases T <;> simpa [isI] using e)⟩
  | bl x => exact ⟨_, .base (.bl x), kit_ty (by rw [k2]; cases T <;> simpa [isI] using e)⟩
  | int i => exact ⟨_, .base (.int i), kit_ty (by rw [k3]; cases T <;> simpa [isI] using e)⟩
  | str l => exact ⟨_, .base (.str _), kit_ty (by rw [k4]; cases T <;> simpa [isI] using e)⟩
  | lst h r =>
    refine ⟨.type "list", ?_, kit_ty (by rw [k5]; cases T <;> simpa [isI] using e)⟩
    rcases h with (h | ⟨o, h⟩) | ⟨o, its, n, h1, h2, _⟩
    · exact .base (.lst h)
    · exact .base (.frz h)
    · exact .kList h1 h2
  | tup h r =>
    refine ⟨.type "tuple", ?_, kit_ty (by rw [k6]; cases T <;> simpa [isI] using e)⟩
    rcases h with (h | ⟨o, h⟩) | ⟨o, its, n, h1, h2, _⟩
    · exact .base (.tup h)
    · exact .fTuple h
    · exact .kTuple h1 h2
  | dic h _ _ =>
    refine ⟨.type "dict", ?_, kit_ty (by rw [k7]; cases T <;> simpa [isI] using e)⟩
    rcases h with h | ⟨o, h⟩
    · exact .base (.dK h)
    · exact .fDict h
  | dlk h _ _ => cases T <;> simp [isI] at e
  | ndk h _ _ _ _ _ => cases T <;> simp [isI] at e
  | nlk h _ _ _ _ _ => cases T <;> simp [isI] at e
  | rng h _ _ _ _ => cases T <;> simp [isI] at e
  | obj _ _ _ _ => cases T <;> simp [isI] at e
theorem px_is {a : Expr} {g : Env → R D} {x : Str} {p p2 pos : Pos} (T : Ty) (h : PX X W b a g) (hm : X.mg "isinstance" = none) (hx : X.mg x = none) (hT : bootBuiltins x = some (.type T.name) := by decide +kernel) (hgx : Gl X x := by rfl) (hg : Gl X "isinstance" := by rfl)
    (hn : x ≠ "__name__" := by decide) (hdb : (x == ("__debug__" : Str)) = false := by decide) (he : starEach [a, .Name x p2] X.env = (false, eval a X.env) :: starEach [.Name x p2] X.env := by rfl) (hpl : (backTo pos (starEach [.Name x p2] X.env)).any (·.1) = false := by rfl)
    (hs2 : starEach [.Name x p2] X.env = (false, eval (.Name x p2) X.env) :: starEach [] X.env := by rfl) :
    PX X W true (.Call (.Name "isinstance" p) [a, .Name x p2] [] pos) (eIs T g) :=
  pe_mono (pe_callB call_isi hg hm (by decide +kernel) (pa_cons h (pa_cons (pe_bltn (v := .ty T.name) hgx hx hT rfl hn hdb) pa_nil hs2) he) (by decide) (by decide) he hpl) fun σ H Q ⟨B, G, c, fp, A, q⟩ => tx_seq A q fun d e v G1 H1 s1 t1 A1 r1 q1 => by
    obtain ⟨d3, e3, p3⟩ := Res.lift q1
    obtain ⟨t, ht, rfl⟩ := Option.map_eq_some_iff.mp e3
    obtain ⟨u, h1, h2⟩ := is_ty (vw_rp A1.fine.le r1) ht
    exact ⟨_, _, u, _, t, rfl, .ty _, h1, h2, p3 _ G1 H1 s1 t1 A1 (.bl _)⟩

/-! ### methods of texts -/
def asS : D → Option (List Nat)
  | .str l => some l
  | _ => none
def eMS (f : List Nat → List D → Option D) (g : Env → R D) (gs : Env → R (List D)) : Env → R D := fun c => g c >>= fun d => lift (asS d) >>= fun l => gs c >>= fun ds => lift (f l ds)
def MethOk (E : Wd) (r : V → List V → Hp → VK → Prop) (b b' : Bool) (f : List Nat → List D → Option D) : Prop :=
  ∀ {B : Bs} {G H : Hp} {c : Env} {σ : L2.St} {fp : List Addr} {l : List Nat} {vs : List V} {ds : List D} {d : D} {Q : VK}, Abs E B G H c σ fp → RpL E (vw b G H) vs ds → f l ds = some d → Post E B c σ fp G H b' Q d → r (.str (S l)) vs H Q
theorem asS_rp {E : Wd} {G : Hp} {v : V} {d : D} {l : List Nat} (h : Rp E G v d) (e : asS d = some l) : v = .str (S l) := by
  cases d <;> simp [asS] at e
  subst e
  exact h.strH
theorem px_ms {id : String} {name : Str} {r : V → List V → Hp → VK → Prop} {f : List Nat → List D → Option D} {o e : Expr} {es : List Expr} {g : Env → R D} {gs : Env → R (List D)} {apos cpos : Pos} (slot : Slot "str" name id) (hty : typeOf (.builtin id) = pure (.type "method_descriptor")) (hm : MtR X id r) (hr : MethOk ⟨X.K, X.mg, X.w⟩ r b b' f)
    (ho : PX X W b1 o g) (ha : PXA X W b (e :: es) gs)
    (hbase : attributeBase o name X.env (eval o X.env) = eval o X.env := by rfl)
    (hfew : ((backTo cpos (starEach (e :: es) X.env)).all (fun x => !x.1) && (backToKw cpos (keywordEach [] X.env)).all (fun x => x.1.isSome)
      && decide ((e :: es).length + ([] : List Keyword).length + (if ([] : List Keyword).isEmpty then 0 else 1) < 30)) = true := by rfl)
    (hline : (apos.endLine == cpos.line) = true := by rfl) (hs : starEach (e :: es) X.env = (false, eval e X.env) :: starEach es X.env := by rfl) (hplain : (backTo cpos (starEach es X.env)).any (·.1) = false := by rfl) :
    PX X W b' (.Call (.Attribute o name apos) (e :: es) [] cpos) (eMS f g gs) :=
  pe_mono (pe_bm PySem.F.plainAttrs_str slot hty hm ho ha hbase hfew hline hs hplain) fun σ H Q ⟨B, G, c, fp, A, q⟩ => tx_seq A q fun d e v G1 H1 s1 t1 A1 r1 q1 => by
    cases hd : asS d with
    | none => rw [hd] at q1; exact q1.elim
    | some l =>
      rw [hd] at q1
      cases asS_rp r1 hd
      refine ⟨rfl, txa_seq A1 q1 fun ds e2 vs G2 H2 s2 t2 A2 r2 q2 => ?_⟩
      obtain ⟨d3, e3, p3⟩ := Res.lift q2
      exact hr A2 r2 e3 (p3.grow (s1.trans s2) (t1.trans t2))
def asSs (ds : List D) : Option (List (List Nat)) := ds.mapM asS
theorem asSs_cons (d : D) (ds : List D) : asSs (d :: ds) = (asS d).bind fun i => (asSs ds).map fun is => i :: is := by
  unfold asSs
  rw [List.mapM_cons]
  cases asS d <;> simp
  cases List.mapM asS ds <;> rfl
@[simp] theorem asSs_map (ns : List (List Nat)) : asSs (ns.map D.str) = some ns := by
  induction ns with
  | nil => rfl
  | cons n ns ih => rw [List.map_cons, asSs_cons, ih]; rfl
theorem asSs_rp {E : Wd} {G : Hp} : ∀ {ds : List D} {vs : List V} {ns : List (List Nat)}, RpL E G vs ds → asSs ds = some ns → vs = (ns.map S).map V.str
  | [], _, _, r, e => by cases r; cases e; rfl
  | d :: ds, _, ns, r, e => by
    cases r with
    | cons h r =>
      rw [asSs_cons] at e
      cases d <;> simp [asS] at e
      obtain ⟨a, e1, rfl⟩ := e
      rw [asSs_rp r e1, h.strH]
      rfl
/-- sep.join(list of texts) -/
def fJoin (l : List Nat) : List D → Option D
  | [.lst ds] => (asSs ds).bind fun xs => if (xs.map List.length).sum + xs.length * l.length ≤ 16777216 then some (.str (TL.joinL l xs)) else none
  | [.tup ds] => (asSs ds).bind fun xs => if (xs.map List.length).sum + xs.length * l.length ≤ 16777216 then some (.str (TL.joinL l xs)) else none
  | _ => none
theorem join_S (l : List Nat) (xs : List (List Nat)) : Txt.join (S l) (xs.map S) = S (TL.joinL l xs) := by
  have h := TL.tl_join (S l) (xs.map S)
  rw [TL.join_eq]
  have e : (xs.map S).map TL.tl = xs := by
    rw [List.map_map]
    have : TL.tl ∘ S = id := by funext x; rfl
    rw [this, List.map_id]
  rw [e] at h
  have h2 : (Str.join (S l) (xs.map S)).cps.toList = TL.joinL l xs := h
  show _ = (⟨(TL.joinL l xs).toArray⟩ : Str)
  rw [← h2]
theorem ok_join : MethOk ⟨X.K, X.mg, X.w⟩ (fun x xs H Q => ∃ a p, ∃ ys : List Str, x = .str a ∧ xs = [.ref p] ∧ (SqL X.K H p (ys.map V.str) ∨ SqT X.K H p (ys.map V.str)) ∧ (ys.map (·.length)).sum + ys.length * a.length ≤ 16777216 ∧ Q (.str (Txt.join a ys)) H) b true fJoin := by
  intro B G H c σ fp l vs ds d Q A r e p
  have hlen : ∀ xs : List (List Nat), ((xs.map S).map (·.length)).sum + (xs.map S).length * (S l).length = (xs.map List.length).sum + xs.length * l.length := fun xs => by
    have : ((fun y : Str => y.length) ∘ S) = List.length := by funext x; simp
    rw [List.map_map, this]; simp
  unfold fJoin at e
  split at e
  · obtain ⟨xs, e1, e2⟩ := Option.bind_eq_some_iff.mp e
    split at e2
    · cases e2
      rename_i hl
      obtain ⟨v, rfl, rv⟩ := r.one
      obtain ⟨a, vs, rfl, h1, r1⟩ := rv.lstH A.fine.le
      rw [asSs_rp r1 e1] at h1
      refine ⟨S l, a, xs.map S, rfl, rfl, .inl h1, by rw [hlen]; exact hl, ?_⟩
      rw [join_S]
      exact p.here A (.str _)
    · cases e2
  · obtain ⟨xs, e1, e2⟩ := Option.bind_eq_some_iff.mp e
    split at e2
    · cases e2
      rename_i hl
      obtain ⟨v, rfl, rv⟩ := r.one
      obtain ⟨a, vs, rfl, h1, r1⟩ := rv.tupH A.fine.le
      rw [asSs_rp r1 e1] at h1
      refine ⟨S l, a, xs.map S, rfl, rfl, .inr h1, by rw [hlen]; exact hl, ?_⟩
      rw [join_S]
      exact p.here A (.str _)
    · cases e2
  · cases e
/-- s.index(t), t within -/
def fSIndex (l : List Nat) : List D → Option D
  | [.str k] => match Builtin.Str.occurrences (S l) (S k) 0 l.length 1 with
    | i :: _ => some (.int i)
    | [] => none
  | _ => none
theorem ok_sindex : MethOk ⟨X.K, X.mg, X.w⟩ (fun x xs H Q => ∃ a b i rest, x = .str a ∧ xs = [.str b] ∧ Builtin.Str.occurrences a b 0 a.length 1 = i :: rest ∧ Q (.int (i : Nat)) H) b true fSIndex := by
  intro B G H c σ fp l vs ds d Q A r e p
  unfold fSIndex at e
  split at e
  · rename_i k
    split at e
    · rename_i i rest ho
      cases e
      obtain ⟨v, rfl, rv⟩ := r.one
      cases rv.strH
      exact ⟨S l, S k, i, rest, rfl, rfl, by rw [S_len]; exact ho, p.here A (.int _)⟩
    · cases e
  · cases e
end
end VS

/-! VS: statements. -/
namespace VS
open PySem PySem.Spec PyProof.Rows L2

inductive Fl where | nx | bk | ct | rt (d : D)
inductive Rs where | ok (f : Fl) (c : Env) | ex (e : D) (c : Env) | stuck
def PinOk (pn : List Nat) (B : Bs) : Prop := (∀ q ∈ B.pn, q.1 ∈ pn) ∧ (pn = [] → ∀ a, ¬ B.br a)
def ResS (E : Wd) (W : WX) (B : Bs) (G H : Hp) (r : Rs) (Dn : Ends) : Prop :=
  match r with
  | .ok .nx c' => ∀ σ' G' H' fp', Same G G' → Abs E B G' H' c' σ' fp' → Dn.nx σ' H'
  | .ok .bk c' => ∀ σ' G' H' fp', Same G G' → Abs E B G' H' c' σ' fp' → Dn.bk σ' H'
  | .ok .ct c' => ∀ σ' G' H' fp', Same G G' → Abs E B G' H' c' σ' fp' → Dn.ct σ' H'
  | .ok (.rt d) c' => ∀ v σ' G' H' fp', Same G G' → Abs E B G' H' c' σ' fp' → Rp E G' v d → Dn.rt v H'
  | .ex e c' => ∀ cl dx σ' G' H' fp', Same G G' → Abs E B G' H' c' σ' fp' → XRep E G' cl dx e → W cl dx σ' H'
  | .stuck => False
def TSt (E : Wd) (W : WX) (pn : List Nat) (g : Env → Rs) : TS := fun Dn σ H => ∃ B G c fp, Abs E B G H c σ fp ∧ PinOk pn B ∧ ResS E W B G H (g c) Dn
def PXS (X : Cx) (W : WX) (pn : List Nat) (st : Stmt) (g : Env → Rs) : Prop := PS X st (TSt ⟨X.K, X.mg, X.w⟩ W pn g)
def PXSs (X : Cx) (W : WX) (pn : List Nat) (st : List Stmt) (g : Env → Rs) : Prop := PSs X st (TSt ⟨X.K, X.mg, X.w⟩ W pn g)
theorem ps_mono {X : Cx} {st : Stmt} {t t' : TS} (h : PS X st t) (k : ∀ Dn σ H, t' Dn σ H → t Dn σ H) : PS X st t' := ⟨fun pins s σ H Dn I q => h.run pins s σ H Dn I (k Dn σ H q)⟩
theorem pss_mono {X : Cx} {st : List Stmt} {t t' : TS} (h : PSs X st t) (k : ∀ Dn σ H, t' Dn σ H → t Dn σ H) : PSs X st t' := ⟨fun pins s σ H Dn I q => h.run pins s σ H Dn I (k Dn σ H q)⟩
theorem ResS.grow {E : Wd} {W : WX} {B : Bs} {G H G' H' : Hp} {r : Rs} {Dn : Ends} (h : ResS E W B G H r Dn) (s : Same G G') : ResS E W B G' H' r Dn := by
  cases r with
  | ok f c =>
    cases f with
    | nx => exact fun σ' G2 H2 fp2 t A => h σ' G2 H2 fp2 (s.trans t) A
    | bk => exact fun σ' G2 H2 fp2 t A => h σ' G2 H2 fp2 (s.trans t) A
    | ct => exact fun σ' G2 H2 fp2 t A => h σ' G2 H2 fp2 (s.trans t) A
    | rt d => exact fun v σ' G2 H2 fp2 t A r => h v σ' G2 H2 fp2 (s.trans t) A r
  | ex e c => exact fun cl dx σ' G2 H2 fp2 t A r => h cl dx σ' G2 H2 fp2 (s.trans t) A r
  | stuck => exact h
/-- a part of a statement that is an expression -/
def R.st {α : Type} (r : R α) (c : Env) (f : α → Rs) : Rs :=
  match r with
  | .ok a => f a
  | .ex e => .ex e c
  | .stuck => .stuck
@[simp] theorem st_ok {α : Type} (a : α) (c : Env) (f : α → Rs) : R.st (.ok a) c f = f a := rfl
@[simp] theorem st_stuck {α : Type} (c : Env) (f : α → Rs) : R.st (.stuck : R α) c f = .stuck := rfl
@[simp] theorem st_ex {α : Type} (e : D) (c : Env) (f : α → Rs) : R.st (.ex e : R α) c f = .ex e c := rfl
section
variable {E : Wd} {W : WX} {B : Bs} {c : Env} {σ : L2.St} {fp : List Addr} {G H : Hp} {b : Bool} {Dn : Ends}
theorem tx_st {ga : Env → R D} {f : D → Rs} {Q' : VK} (A : Abs E B G H c σ fp) (h : ResS E W B G H (R.st (ga c) c f) Dn)
    (k : ∀ d, ga c = .ok d → ∀ v G1 H1, Same G G1 → Same H H1 → Abs E B G1 H1 c σ fp → Rp E (vw b G1 H1) v d → ResS E W B G1 H1 (f d) Dn → Q' v H1) : TX E W b ga σ H Q' := by
  refine ⟨B, G, c, fp, A, ?_⟩
  cases e : ga c with
  | ok d =>
    rw [e] at h
    exact fun v G1 H1 s t A1 r => k d e v G1 H1 s t A1 r (ResS.grow (r := f d) h s)
  | ex x => rw [e] at h; exact fun cl dx G1 H1 s t A1 r => h cl dx σ G1 H1 fp s A1 r
  | stuck => rw [e] at h; exact h
theorem txa_st {ga : Env → R (List D)} {f : List D → Rs} {Q' : List V → Hp → Prop} (A : Abs E B G H c σ fp) (h : ResS E W B G H (R.st (ga c) c f) Dn)
    (k : ∀ ds, ga c = .ok ds → ∀ vs G1 H1, Same G G1 → Same H H1 → Abs E B G1 H1 c σ fp → RpL E (vw b G1 H1) vs ds → ResS E W B G1 H1 (f ds) Dn → Q' vs H1) : TXA E W b ga σ H Q' := by
  refine ⟨B, G, c, fp, A, ?_⟩
  cases e : ga c with
  | ok d =>
    rw [e] at h
    exact fun v G1 H1 s t A1 r => k d e v G1 H1 s t A1 r (ResS.grow (r := f d) h s)
  | ex x => rw [e] at h; exact fun cl dx G1 H1 s t A1 r => h cl dx σ G1 H1 fp s A1 r
  | stuck => rw [e] at h; exact h
theorem txt_st {ga : Env → R Bool} {f : Bool → Rs} {Q' : Bool → Hp → Prop} (A : Abs E B G H c σ fp) (h : ResS E W B G H (R.st (ga c) c f) Dn)
    (k : ∀ t, ga c = .ok t → ∀ G1 H1, Same G G1 → Same H H1 → Abs E B G1 H1 c σ fp → ResS E W B G1 H1 (f t) Dn → Q' t H1) : TXT E W ga σ H Q' := by
  refine ⟨B, G, c, fp, A, ?_⟩
  cases e : ga c with
  | ok d =>
    rw [e] at h
    exact fun G1 H1 s t A1 => k d e G1 H1 s t A1 (ResS.grow (r := f d) h s)
  | ex x => rw [e] at h; exact fun cl dx G1 H1 s t A1 r => h cl dx σ G1 H1 fp s A1 r
  | stuck => rw [e] at h; exact h
/-- a name is stored -/
theorem Abs.set {v : V} {o : O} {fq : List Addr} {i : Nat} (A : Abs E B G H c σ fp) (h : Own E G H v o fq) (n : fq.Nodup) (d : ∀ p ∈ fq, p ∉ fp) (f : ∀ p ∈ fq, G p = none ∧ (B.H0 p = none ∨ B.br p)) (hp : ∀ q ∈ B.pn, q.1 ≠ i) :
    ∃ fr, Abs E B G H (c.set i (some o)) (σ.set i (some v)) fr := by
  obtain ⟨fr, h1, h2, h3⟩ := A.cells.set i h A.nd n d
  refine ⟨fr, A.fine, h1, h2, fun p hp => (h3 p hp).elim (A.fresh p) (f p), fun q hq => ?_⟩
  rw [List.getElem?_set_ne (Ne.symm (hp q hq))]
  exact A.pin q hq
theorem Abs.setV {v : V} {d : D} {i : Nat} (A : Abs E B G H c σ fp) (h : Rp E G v d) (hp : ∀ q ∈ B.pn, q.1 ≠ i) : ∃ fr, Abs E B G H (c.set i (some (.v d))) (σ.set i (some v)) fr :=
  A.set (.v h) List.nodup_nil (fun p hp => nomatch hp) (fun p hp => nomatch hp) hp
end
theorem PinOk.ne {pn : List Nat} {B : Bs} {i : Nat} (h : PinOk pn B) (hi : i ∉ pn) : ∀ q ∈ B.pn, q.1 ≠ i := fun q hq e => hi (e ▸ h.1 q hq)

/-! ### blocks -/
def sNil : Env → Rs := fun c => .ok .nx c
def sSeq (g k : Env → Rs) : Env → Rs := fun c => match g c with
  | .ok .nx c' => k c'
  | r => r
section
variable {X : Cx} {W : WX} {pn : List Nat} {b : Bool} {st : Stmt} {sts : List Stmt} {g k : Env → Rs} {pos : Pos} {e : Expr}
theorem pxs_nil : PXSs X W pn [] sNil := pss_mono pss_nil fun Dn σ H ⟨B, G, c, fp, A, P, q⟩ => q σ G H fp (Same.refl _) A
theorem tst_seq : ∀ Dn σ H, TSt ⟨X.K, X.mg, X.w⟩ W pn (sSeq g k) Dn σ H → tSeq (TSt ⟨X.K, X.mg, X.w⟩ W pn g) (TSt ⟨X.K, X.mg, X.w⟩ W pn k) Dn σ H := fun Dn σ H ⟨B, G, c, fp, A, P, q⟩ => by
  refine ⟨B, G, c, fp, A, P, ?_⟩
  unfold sSeq at q
  cases e : g c with
  | ok f c' =>
    rw [e] at q
    cases f with
    | nx => exact fun σ' G' H' fp' s A' => ⟨B, G', c', fp', A', P, ResS.grow (r := k c') q s⟩
    | bk => exact q
    | ct => exact q
    | rt d => exact q
  | ex x c' => rw [e] at q; exact q
  | stuck => rw [e] at q; exact q
theorem pxs_cons (h : PXS X W pn st g) (h2 : PXSs X W pn sts k) : PXSs X W pn (st :: sts) (sSeq g k) := pss_mono (pss_cons h h2) tst_seq
theorem pxs_one (h : PXS X W pn st g) : PXSs X W pn [st] g := pss_one h
theorem ps_pass' : PXS X W pn (.Pass pos) sNil := ps_mono ps_pass fun Dn σ H ⟨B, G, c, fp, A, P, q⟩ => q σ G H fp (Same.refl _) A
def sBreak : Env → Rs := fun c => .ok .bk c
def sCont : Env → Rs := fun c => .ok .ct c
theorem pxs_break : PXS X W pn (.Break pos) sBreak := ps_mono ps_break fun Dn σ H ⟨B, G, c, fp, A, P, q⟩ => q σ G H fp (Same.refl _) A
theorem pxs_continue : PXS X W pn (.Continue pos) sCont := ps_mono ps_continue fun Dn σ H ⟨B, G, c, fp, A, P, q⟩ => q σ G H fp (Same.refl _) A
/-- a way that is never taken -/
def sNo : Env → Rs := fun _ => .stuck
theorem pxs_no : PXS X W pn st sNo := ps_mono ps_never fun Dn σ H ⟨B, G, c, fp, A, P, q⟩ => q
/-! ### x = e -/
def sSet (i : Nat) (g : Env → R D) : Env → Rs := fun c => (g c).st c fun d => .ok .nx (c.set i (some (.v d)))
theorem pxs_set {x : Str} {p : Pos} (i : Nat) {g : Env → R D} (h : PX X W true e g) (nd : X.N.Nodup) (hN : X.N[i]? = some x := by rfl) (hl : Loc X.env.scope x := by first | exact Or.inl rfl | exact Or.inr rfl) (hi : i ∉ pn := by decide)
    (hs : swapsWith e (some (.Name x p)) pos.line X.env = pure false := by rfl) (hf : X.fn x = true ∨ X.env.scope.names.lookup x = some .local := by first | exact .inl rfl | exact .inr rfl) : PXS X W pn (.Assign [.Name x p] e pos) (sSet i g) :=
  ps_mono (ps_asg h (pg_name (i := i) nd hN hl) hs) fun Dn σ H ⟨B, G, c, fp, A, P, q⟩ => tx_st A q fun d e v G1 H1 s1 t1 A1 r1 q1 => by
    obtain ⟨fr, A2⟩ := A1.setV (i := i) r1 (P.ne hi)
    exact q1 _ G1 H1 fr (Same.refl _) A2
/-! ### return, an expression alone -/
def sRet (g : Env → R D) : Env → Rs := fun c => (g c).st c fun d => .ok (.rt d) c
theorem pxs_ret {g : Env → R D} (h : PX X W true e g) : PXS X W pn (.Return (some e) pos) (sRet g) :=
  ps_mono (ps_ret h) fun Dn σ H ⟨B, G, c, fp, A, P, q⟩ => tx_st A q fun d e v G1 H1 s1 t1 A1 r1 q1 => q1 v σ G1 H1 fp (Same.refl _) A1 r1
def sRetN : Env → Rs := fun c => .ok (.rt .non) c
theorem pxs_retN : PXS X W pn (.Return none pos) sRetN := ps_mono ps_retN fun Dn σ H ⟨B, G, c, fp, A, P, q⟩ => q .non σ G H fp (Same.refl _) A .non
def sExpr (g : Env → R D) : Env → Rs := fun c => (g c).st c fun _ => .ok .nx c
theorem pxs_expr {g : Env → R D} (h : PX X W b e g) (hs : swapsWith e none pos.line X.env = pure false := by rfl) : PXS X W pn (.Expr e pos) (sExpr g) :=
  ps_mono (ps_expr h hs) fun Dn σ H ⟨B, G, c, fp, A, P, q⟩ => tx_st A q fun d e v G1 H1 s1 t1 A1 r1 q1 => q1 σ G1 H1 fp (Same.refl _) A1
/-! ### if -/
def sIf (t : Env → R Bool) (g k : Env → Rs) : Env → Rs := fun c => (t c).st c fun b => if b then g c else k c
theorem pxs_if {ec : Expr} {sa sb : List Stmt} {t : Env → R Bool} (h : PXT X W ec t) (ha : PXSs X W pn sa g) (hb : PXSs X W pn sb k) : PXS X W pn (.If ec sa sb pos) (sIf t g k) :=
  ps_mono (ps_if h ha hb) fun Dn σ H ⟨B, G, c, fp, A, P, q⟩ => txt_st A q fun t e G1 H1 s1 t1 A1 q1 => by
    cases t with
    | true => exact ⟨B, G1, c, fp, A1, P, q1⟩
    | false => exact ⟨B, G1, c, fp, A1, P, q1⟩
/-! ### while -/
def whileL (t : Env → R Bool) (g : Env → Rs) : Nat → Env → Rs
  | 0, _ => .stuck
  | n + 1, c => (t c).st c fun b => if b then (match g c with
    | .ok .nx c' => whileL t g n c'
    | .ok .ct c' => whileL t g n c'
    | .ok .bk c' => .ok .nx c'
    | r => r) else .ok .nx c
theorem pxs_while {ec : Expr} {body : List Stmt} {t : Env → R Bool} (n : Nat) (hp : PassesOwn (model X.prog X.w) X.A X.env X.xe) (h : PXT X W ec t) (hb : PXSs X W pn body g) : PXS X W pn (.While ec body [] pos) (whileL t g n) :=
  ps_mono (ps_while hp h hb) fun Dn σ H ⟨B, G, c, fp, A, P, q⟩ => by
    refine ⟨fun m σ H => ∃ G c fp, Abs ⟨X.K, X.mg, X.w⟩ B G H c σ fp ∧ ResS ⟨X.K, X.mg, X.w⟩ W B G H (whileL t g m c) Dn, ⟨n, G, c, fp, A, q⟩, ?_⟩
    rintro m σ H ⟨G, c, fp, A, q⟩
    cases m with
    | zero => exact q.elim
    | succ m =>
      refine txt_st A q fun b e G1 H1 s1 t1 A1 q1 => ?_
      cases b with
      | false => exact q1 σ G1 H1 fp (Same.refl _) A1
      | true =>
        refine ⟨fun σ' H' => ∃ G c fp, Abs ⟨X.K, X.mg, X.w⟩ B G H' c σ' fp ∧ ResS ⟨X.K, X.mg, X.w⟩ W B G H' (whileL t g m c) Dn, fun σ' H' h' => ⟨m, Nat.lt_succ_self _, h'⟩, ?_⟩
        refine ⟨B, G1, c, fp, A1, P, ?_⟩
        have q2 : ResS ⟨X.K, X.mg, X.w⟩ W B G1 H1 (match g c with
          | .ok .nx c' => whileL t g m c'
          | .ok .ct c' => whileL t g m c'
          | .ok .bk c' => .ok .nx c'
          | r => r) Dn := q1
        cases eg : g c with
        | ok f c' =>
          rw [eg] at q2
          cases f with
          | nx => exact fun σ' G' H' fp' s A' => ⟨G', c', fp', A', ResS.grow (r := whileL t g m c') q2 s⟩
          | ct => exact fun σ' G' H' fp' s A' => ⟨G', c', fp', A', ResS.grow (r := whileL t g m c') q2 s⟩
          | bk => exact q2
          | rt d => exact q2
        | ex x c' => rw [eg] at q2; exact q2
        | stuck => rw [eg] at q2; exact q2
/-! ### for -/
def forL (i : Nat) (g : Env → Rs) : List D → Env → Rs
  | [], c => .ok .nx c
  | d :: ds, c => match g (c.set i (some (.v d))) with
    | .ok .nx c' => forL i g ds c'
    | .ok .ct c' => forL i g ds c'
    | .ok .bk c' => .ok .nx c'
    | r => r
theorem for_turn {i : Nat} {E : Wd} {B : Bs} {G H : Hp} {c : Env} {σ : L2.St} {fp : List Addr} {Dn : Ends} {d : D} {ds : List D} {v : V} {N : L2.St → Hp → Prop} (A : Abs E B G H c σ fp) (P : PinOk pn B) (hi : i ∉ pn) (rv : Rp E G v d) (q : ResS E W B G H (forL i g (d :: ds) c) Dn)
    (hN : ∀ σ' G' H' c' fp', Same G G' → Abs E B G' H' c' σ' fp' → ResS E W B G' H' (forL i g ds c') Dn → N σ' H') : TSt E W pn g { Dn with nx := N, ct := N, bk := Dn.nx } (σ.set i (some v)) H := by
  obtain ⟨fr, A2⟩ := A.setV (i := i) rv (P.ne hi)
  refine ⟨B, G, _, fr, A2, P, ?_⟩
  have q2 : ResS E W B G H (match g (c.set i (some (.v d))) with
    | .ok .nx c' => forL i g ds c'
    | .ok .ct c' => forL i g ds c'
    | .ok .bk c' => .ok .nx c'
    | r => r) Dn := q
  cases eg : g (c.set i (some (.v d))) with
  | ok f c' =>
    rw [eg] at q2
    cases f with
    | nx => exact fun σ' G' H' fp' s A' => hN σ' G' H' c' fp' s A' (ResS.grow (r := forL i g ds c') q2 s)
    | ct => exact fun σ' G' H' fp' s A' => hN σ' G' H' c' fp' s A' (ResS.grow (r := forL i g ds c') q2 s)
    | bk => exact q2
    | rt d => exact q2
  | ex x c' => rw [eg] at q2; exact q2
  | stuck => rw [eg] at q2; exact q2
def asL : D → Option (List D)
  | .lst ds => some ds
  | _ => none
def asT : D → Option (List D)
  | .tup ds => some ds
  | _ => none
def sForL (i : Nat) (ga : Env → R D) (g : Env → Rs) : Env → Rs := fun c => (ga c).st c fun d => match asL d with
  | some ds => forL i g ds c
  | none => .stuck
def sForT (i : Nat) (ga : Env → R D) (g : Env → Rs) : Env → Rs := fun c => (ga c).st c fun d => match asT d with
  | some ds => forL i g ds c
  | none => .stuck
theorem drop_cons {α : Type} {xs : List α} {i : Nat} {x : α} (h : xs[i]? = some x) : xs.drop i = x :: xs.drop (i + 1) := by
  obtain ⟨hl, e⟩ := List.getElem?_eq_some_iff.mp h
  rw [List.drop_eq_getElem_cons hl, e]
theorem pxs_forL {x : Str} {p : Pos} {body : List Stmt} (i : Nat) {ga : Env → R D} (hp : PassesOwn (model X.prog X.w) X.A X.env X.xe) (hc : X.calm = true) (ha : PX X W true e ga) (hb : PXSs X W pn body g) (nd : X.N.Nodup) (hN : X.N[i]? = some x := by rfl) (hl : Loc X.env.scope x := by first | exact Or.inl rfl | exact Or.inr rfl) (hi : i ∉ pn := by decide)
    (hf : X.fn x = true ∨ X.env.scope.names.lookup x = some .local := by first | exact .inl rfl | exact .inr rfl) (hs : ∀ y, foldedSetIterable e X.env y = pure y := by intro _; rfl) : PXS X W pn (.For (.Name x p) e body [] pos) (sForL i ga g) :=
  ps_mono (ps_for hp hc (pi_list ha) (pg_name (i := i) nd hN hl) hb hs) fun Dn σ H ⟨B, G, c, fp, A, P, q⟩ => tx_st A q fun d e v G1 H1 s1 t1 A1 r1 q1 => by
    cases d with
    | lst ds =>
      have q1 : ResS ⟨X.K, X.mg, X.w⟩ W B G1 H1 (forL i g ds c) Dn := q1
      have r1 : Rp ⟨X.K, X.mg, X.w⟩ G1 v (.lst ds) := r1
      cases r1 with
      | @lst a vs _ h1 h2 =>
        refine ⟨a, rfl, ⟨vs, Same.sqL A1.fine.le h1⟩, ?_⟩
        refine for_list (xs := vs) (fun j σ H => ∃ G' c' fp', Same G1 G' ∧ Abs ⟨X.K, X.mg, X.w⟩ B G' H c' σ fp' ∧ ResS ⟨X.K, X.mg, X.w⟩ W B G' H (forL i g (ds.drop j) c') Dn) ⟨G1, c, fp, Same.refl _, A1, q1⟩ ?_ ?_ ?_
        · rintro j σ' H' _ ⟨G', c', fp', s', A', _⟩
          exact Same.sqL (s'.trans A'.fine.le) h1
        · rintro j w σ' H' hw ⟨G', c', fp', s', A', q'⟩
          obtain ⟨d, hd, rd⟩ := h2.getV hw
          rw [drop_cons hd] at q'
          exact for_turn A' P hi (rd.mono s') q' fun σ2 G2 H2 c2 fp2 s2 A2 q2 => ⟨G2, c2, fp2, s'.trans s2, A2, q2⟩
        · rintro σ' H' ⟨G', c', fp', s', A', q'⟩
          rw [h2.length, List.drop_length] at q'
          exact q' σ' G' H' fp' (Same.refl _) A'
    | _ => exact q1.elim
theorem pxs_forT {x : Str} {p : Pos} {body : List Stmt} (i : Nat) {ga : Env → R D} (hp : PassesOwn (model X.prog X.w) X.A X.env X.xe) (hc : X.calm = true) (ha : PX X W true e ga) (hb : PXSs X W pn body g) (nd : X.N.Nodup) (hN : X.N[i]? = some x := by rfl) (hl : Loc X.env.scope x := by first | exact Or.inl rfl | exact Or.inr rfl) (hi : i ∉ pn := by decide)
    (hf : X.fn x = true ∨ X.env.scope.names.lookup x = some .local := by first | exact .inl rfl | exact .inr rfl) (hs : ∀ y, foldedSetIterable e X.env y = pure y := by intro _; rfl) : PXS X W pn (.For (.Name x p) e body [] pos) (sForT i ga g) :=
  ps_mono (ps_for hp hc (pi_tup ha) (pg_name (i := i) nd hN hl) hb hs) fun Dn σ H ⟨B, G, c, fp, A, P, q⟩ => tx_st A q fun d e v G1 H1 s1 t1 A1 r1 q1 => by
    cases d with
    | tup ds =>
      have q1 : ResS ⟨X.K, X.mg, X.w⟩ W B G1 H1 (forL i g ds c) Dn := q1
      have r1 : Rp ⟨X.K, X.mg, X.w⟩ G1 v (.tup ds) := r1
      cases r1 with
      | @tup a vs _ h1 h2 =>
        refine ⟨a, rfl, ⟨vs, Same.sqT A1.fine.le h1⟩, ?_⟩
        refine for_tup (xs := vs) (fun j σ H => ∃ G' c' fp', Same G1 G' ∧ Abs ⟨X.K, X.mg, X.w⟩ B G' H c' σ fp' ∧ ResS ⟨X.K, X.mg, X.w⟩ W B G' H (forL i g (ds.drop j) c') Dn) ⟨G1, c, fp, Same.refl _, A1, q1⟩ ?_ ?_ ?_
        · rintro j σ' H' _ ⟨G', c', fp', s', A', _⟩
          exact Same.sqT (s'.trans A'.fine.le) h1
        · rintro j w σ' H' hw ⟨G', c', fp', s', A', q'⟩
          obtain ⟨d, hd, rd⟩ := h2.getV hw
          rw [drop_cons hd] at q'
          exact for_turn A' P hi (rd.mono s') q' fun σ2 G2 H2 c2 fp2 s2 A2 q2 => ⟨G2, c2, fp2, s'.trans s2, A2, q2⟩
        · rintro σ' H' ⟨G', c', fp', s', A', q'⟩
          rw [h2.length, List.drop_length] at q'
          exact q' σ' G' H' fp' (Same.refl _) A'
    | _ => exact q1.elim
/-- lo, lo + 1, .. below hi -/
def rangeD (lo hi : Int) : List D := (List.range (hi - lo).toNat).map fun (k : Nat) => .int (lo + (k : Int))
def asI : D → Option Int
  | .int i => if -(2 ^ 62) ≤ i ∧ i < 2 ^ 62 then some i else none
  | _ => none
theorem asI_rp {E : Wd} {G : Hp} {v : V} {d : D} {i : Int} (h : Rp E G v d) (e : asI d = some i) : v = .int i ∧ -(2 ^ 62) ≤ i ∧ i < 2 ^ 62 := by
  cases d <;> simp only [asI] at e
  all_goals try cases e
  split at e
  · cases e; rename_i hb; exact ⟨h.intH, hb⟩
  · cases e
def sForR (i : Nat) (ga gb : Env → R D) (g : Env → Rs) : Env → Rs := fun c => (ga c).st c fun d => (lift (asI d)).st c fun lo => (gb c).st c fun d2 => (lift (asI d2)).st c fun hi => forL i g (rangeD lo hi) c
theorem rangeD_at {lo hi : Int} {j : Nat} (h : j < (hi - lo).toNat) : (rangeD lo hi)[j]? = some (.int (lo + (j : Int))) := by
  unfold rangeD
  rw [List.getElem?_map, List.getElem?_range h]
  rfl
theorem for_rng {E : Wd} {B : Bs} {G H : Hp} {c : Env} {σ : L2.St} {fp : List Addr} {Dn : Ends} {i : Nat} {lo hi : Int} (A : Abs E B G H c σ fp) (P : PinOk pn B) (hi' : i ∉ pn) (q : ResS E W B G H (forL i g (rangeD lo hi) c) Dn) :
    ∃ W' : Nat → Nat → L2.St → Hp → Prop, (∃ m, W' 0 m σ H) ∧ ∀ j m σ H, W' j m σ H →
      ((Itr lo (hi - lo).toNat).stop j H ∧ Dn.nx σ H) ∨ ((Itr lo (hi - lo).toNat).go j H ∧ ∃ N : L2.St → Hp → Prop, (∀ σ' H', N σ' H' → ∃ m', m' < m ∧ W' (j + 1) m' σ' H') ∧ ∀ x H', (Itr lo (hi - lo).toNat).yld j H x H' → gName i x σ H' fun σ2 H2 => TSt E W pn g { Dn with nx := N, ct := N, bk := Dn.nx } σ2 H2) := by
  refine for_range (lo := lo) (n := (hi - lo).toNat) (fun j σ H => ∃ G' c' fp', Same G G' ∧ Abs E B G' H c' σ fp' ∧ ResS E W B G' H (forL i g ((rangeD lo hi).drop j) c') Dn) ⟨G, c, fp, Same.refl _, A, q⟩ ?_ ?_
  · rintro j σ' H' hj ⟨G', c', fp', s', A', q'⟩
    rw [drop_cons (rangeD_at hj)] at q'
    exact for_turn A' P hi' (.int _) q' fun σ2 G2 H2 c2 fp2 s2 A2 q2 => ⟨G2, c2, fp2, s'.trans s2, A2, q2⟩
  · rintro σ' H' ⟨G', c', fp', s', A', q'⟩
    have : (rangeD lo hi).drop (hi - lo).toNat = [] := List.drop_eq_nil_of_le (by simp [rangeD])
    rw [this] at q'
    exact q' σ' G' H' fp' (Same.refl _) A'
theorem lift_st {E : Wd} {B : Bs} {G H : Hp} {c : Env} {Dn : Ends} {α : Type} {o : Option α} {f : α → Rs} (h : ResS E W B G H ((lift o).st c f) Dn) : ∃ a, o = some a ∧ ResS E W B G H (f a) Dn := by
  cases o with
  | some a => exact ⟨a, rfl, h⟩
  | none => exact h.elim
theorem pxs_forR1 {x : Str} {p p2 p3 : Pos} {a : Expr} {body : List Stmt} (i : Nat) {ga : Env → R D} (hp : PassesOwn (model X.prog X.w) X.A X.env X.xe) (hc : X.calm = true) (hm : X.mg "range" = none) (ha : PX X W b a ga) (hb : PXSs X W pn body g) (nd : X.N.Nodup) (hN : X.N[i]? = some x := by rfl) (hl : Loc X.env.scope x := by first | exact Or.inl rfl | exact Or.inr rfl) (hi : i ∉ pn := by decide)
    (hg : Gl X "range" := by rfl) (hf : X.fn x = true ∨ X.env.scope.names.lookup x = some .local := by first | exact .inl rfl | exact .inr rfl) (hs0 : starEach [a] X.env = [(false, eval a X.env)] := by rfl) (hs : ∀ y, foldedSetIterable (.Call (.Name "range" p2) [a] [] p3) X.env y = pure y := by intro _; rfl) :
    PXS X W pn (.For (.Name x p) (.Call (.Name "range" p2) [a] [] p3) body [] pos) (sForR i (eC (.int 0)) ga g) :=
  ps_mono (ps_for hp hc (pi_range1 hg hm (pa_cons ha pa_nil hs0) hs0) (pg_name (i := i) nd hN hl) hb hs) fun Dn σ H ⟨B, G, c, fp, A, P, q⟩ => by
    have q0 : ResS ⟨X.K, X.mg, X.w⟩ W B G H ((ga c).st c fun d2 => (lift (asI d2)).st c fun hi => forL i g (rangeD 0 hi) c) Dn := q
    refine tx_st A q0 fun d e v G1 H1 s1 t1 A1 r1 q1 => ?_
    obtain ⟨hi, e1, q2⟩ := lift_st q1
    obtain ⟨rfl, h1, h2⟩ := asI_rp r1 e1
    refine ⟨hi, rfl, h1, h2, ?_⟩
    have z := for_rng (lo := 0) (hi := hi) A1 P ‹_› q2
    simpa using z
theorem pxs_forR2 {x : Str} {p p2 p3 : Pos} {a a2 : Expr} {body : List Stmt} (i : Nat) {b2 : Bool} {ga gb : Env → R D} (hp : PassesOwn (model X.prog X.w) X.A X.env X.xe) (hc : X.calm = true) (hm : X.mg "range" = none) (ha : PX X W b a ga) (ha2 : PX X W b2 a2 gb) (hb : PXSs X W pn body g) (nd : X.N.Nodup) (hN : X.N[i]? = some x := by rfl) (hl : Loc X.env.scope x := by first | exact Or.inl rfl | exact Or.inr rfl) (hi : i ∉ pn := by decide)
    (hg : Gl X "range" := by rfl) (hf : X.fn x = true ∨ X.env.scope.names.lookup x = some .local := by first | exact .inl rfl | exact .inr rfl) (hs0 : starEach [a, a2] X.env = [(false, eval a X.env), (false, eval a2 X.env)] := by rfl) (hs1 : starEach [a2] X.env = [(false, eval a2 X.env)] := by rfl) (hs2 : starEach [a, a2] X.env = (false, eval a X.env) :: starEach [a2] X.env := by rfl)
    (hs : ∀ y, foldedSetIterable (.Call (.Name "range" p2) [a, a2] [] p3) X.env y = pure y := by intro _; rfl) :
    PXS X W pn (.For (.Name x p) (.Call (.Name "range" p2) [a, a2] [] p3) body [] pos) (sForR i ga gb g) :=
  ps_mono (ps_for hp hc (pi_range2 hg hm (pa_cons ha (pa_cons ha2 pa_nil hs1) hs2) hs0 hs1) (pg_name (i := i) nd hN hl) hb hs) fun Dn σ H ⟨B, G, c, fp, A, P, q⟩ => by
    refine tx_st A q fun d e v G1 H1 s1 t1 A1 r1 q1 => ?_
    obtain ⟨lo, e1, q2⟩ := lift_st q1
    obtain ⟨rfl, h1, h2⟩ := asI_rp r1 e1
    refine tx_st A1 q2 fun d2 e3 v2 G2 H2 s2 t2 A2 r2 q3 => ?_
    obtain ⟨hi, e4, q4⟩ := lift_st q3
    obtain ⟨rfl, h3, h4⟩ := asI_rp r2 e4
    exact ⟨lo, hi, rfl, ⟨h1, h2, h3, h4⟩, for_rng A2 P ‹_› q4⟩
end
end VS

/-! VS: what is owned: new lists and dicts, changed in place; freezing; comprehensions. -/
namespace VS
open PySem PySem.Spec PyProof.Rows L2

section
variable {E : Wd} {B : Bs} {c : Env} {σ : L2.St} {fp : List Addr} {G G' H H' : Hp}
/-- a new object that is nobody's knowledge yet -/
theorem Abs.newO {p : Addr} {u : HO} (A : Abs E B G H c σ fp) (hp : H p = none) (hu : isT u = false) : Abs E B G (upd H p u) c σ fp :=
  A.grow (same_upd hp) fun a w e k => by
    by_cases ha : a = p
    · subst ha; rw [upd_same] at e; cases e; rw [hu] at k; cases k
    · rw [upd_ne ha] at e; exact A.fine.tup a w e k
theorem ownL_v : ∀ {vs : List V} {ds : List D}, RpL E G vs ds → OwnL E G H vs (ds.map O.v) []
  | _, [], r => by cases r; exact .nil
  | _, d :: ds, r => by
    cases r with
    | cons h r => exact OwnL.cons (fp := []) (fq := []) (.v h) (ownL_v r)
theorem OwnL.append {vs ws : List V} {os ps : List O} {fp fq : List Addr} (h : OwnL E G H vs os fp) (k : OwnL E G H ws ps fq) : OwnL E G H (vs ++ ws) (os ++ ps) (fp ++ fq) := by
  induction os generalizing vs fp with
  | nil => cases h; simpa using k
  | cons o os ih => cases h with | cons h r => rw [List.append_assoc]; exact .cons h (ih r)
theorem OwnL.length : ∀ {vs : List V} {os : List O} {fp : List Addr}, OwnL E G H vs os fp → vs.length = os.length
  | _, [], _, h => by cases h; rfl
  | _, o :: os, _, h => by cases h with | cons h r => simp [r.length]
/-- an item is replaced by a value -/
theorem OwnL.setV : ∀ {vs : List V} {os : List O} {fp : List Addr} {v : V} {d : D} (i : Nat), OwnL E G H vs os fp → Rp E G v d → fp.Nodup → ∃ fq, OwnL E G H (vs.set i v) (os.set i (.v d)) fq ∧ fq.Nodup ∧ ∀ p ∈ fq, p ∈ fp
  | _, [], _, v, d, i, h, r, n => by cases h; exact ⟨[], .nil, List.nodup_nil, fun p hp => hp⟩
  | _, o :: os, _, v, d, 0, h, r, n => by
    cases h with
    | @cons _ _ _ _ f1 f2 h k => exact ⟨_, .cons (.v r) k, by simpa using (List.nodup_append.mp n).2.1, fun p hp => List.mem_append_right _ (by simpa using hp)⟩
  | _, o :: os, _, v, d, i + 1, h, r, n => by
    cases h with
    | @cons _ _ _ _ f1 f2 h k =>
      obtain ⟨n1, n2, n3⟩ := List.nodup_append.mp n
      obtain ⟨fq, k1, k2, k3⟩ := OwnL.setV i k r n2
      refine ⟨_, .cons h k1, List.nodup_append.mpr ⟨n1, k2, fun a ha b hb => n3 a ha b (k3 b hb)⟩, fun p hp => ?_⟩
      rcases List.mem_append.mp hp with z | z
      · exact List.mem_append_left _ z
      · exact List.mem_append_right _ (k3 p z)
theorem OwnL.upd {vs : List V} {os : List O} {fp : List Addr} {p : Addr} {u : HO} (h : OwnL E G H vs os fp) (hp : p ∉ fp) : OwnL E G (L2.upd H p u) vs os fp :=
  h.keep (Same.refl _) fun q hq w e => by
    have hne : q ≠ p := fun z => hp (z ▸ hq)
    rw [upd_ne hne]; exact e
/-- what one name owns is changed -/
theorem Cells.poke : ∀ {c : Env} {σ : L2.St} {fp : List Addr} {i : Nat} {o : O}, Cells E G H c σ fp → fp.Nodup → c[i]? = some (some o) → ∃ v fq, σ[i]? = some (some v) ∧ Own E G H v o fq ∧ fq.Nodup ∧ (∀ p ∈ fq, p ∈ fp) ∧
    ∀ {G' H' : Hp} {o' : O} {fr : List Addr}, Same G G' → (∀ p ∈ fp, p ∉ fq → ∀ u, H p = some u → H' p = some u) → Own E G' H' v o' fr → fr.Nodup → (∀ p ∈ fr, p ∈ fq ∨ p ∉ fp) → ∃ fp', Cells E G' H' (c.set i (some o')) σ fp' ∧ fp'.Nodup ∧ ∀ p ∈ fp', (p ∈ fp ∧ p ∉ fq) ∨ p ∈ fr
  | _, _, _, i, o, .nil, n, e => by simp at e
  | _, _, _, 0, o, .no h, n, e => by simp at e
  | _, _, _, i + 1, o, .no h, n, e => by
    obtain ⟨v, fq, h1, h2, h3, h4, h5⟩ := Cells.poke (i := i) h n (by simpa using e)
    refine ⟨v, fq, by simpa using h1, h2, h3, h4, fun s k w m d => ?_⟩
    obtain ⟨fp', k1, k2, k3⟩ := h5 s k w m d
    exact ⟨fp', .no k1, k2, k3⟩
  | _, _, _, 0, o, .yes (fp := f1) (fq := f2) h r, n, e => by
    simp at e
    subst e
    obtain ⟨n1, n2, n3⟩ := List.nodup_append.mp n
    refine ⟨_, f1, rfl, h, n1, fun p hp => List.mem_append_left _ hp, fun s k w m d => ?_⟩
    have r' := Cells.keep s r fun p hp u e => k p (List.mem_append_right _ hp) (fun z => n3 p z p hp rfl) u e
    refine ⟨_, .yes w r', List.nodup_append.mpr ⟨m, n2, fun a ha b hb e => ?_⟩, fun p hp => ?_⟩
    · subst e
      rcases d a ha with z | z
      · exact n3 a z a hb rfl
      · exact z (List.mem_append_right _ hb)
    · rcases List.mem_append.mp hp with z | z
      · exact .inr z
      · exact .inl ⟨List.mem_append_right _ z, fun y => n3 p y p z rfl⟩
  | _, _, _, i + 1, o, .yes (fp := f1) (fq := f2) h r, n, e => by
    obtain ⟨n1, n2, n3⟩ := List.nodup_append.mp n
    obtain ⟨v, fq, h1, h2, h3, h4, h5⟩ := Cells.poke (i := i) r n2 (by simpa using e)
    refine ⟨v, fq, by simpa using h1, h2, h3, fun p hp => List.mem_append_right _ (h4 p hp), fun s k w m d => ?_⟩
    obtain ⟨fp', k1, k2, k3⟩ := h5 s (fun p hp hq u e => k p (List.mem_append_right _ hp) hq u e) w m (fun p hp => (d p hp).elim .inl fun z => .inr fun z2 => z (List.mem_append_right _ z2))
    have hk := h.keep (H' := _) s fun p hp u e => k p (List.mem_append_left _ hp) (fun z => n3 p hp p (h4 p z) rfl) u e
    refine ⟨_, .yes hk k1, List.nodup_append.mpr ⟨n1, k2, fun a ha b hb e => ?_⟩, fun p hp => ?_⟩
    · subst e
      rcases k3 a hb with ⟨z, _⟩ | z
      · exact n3 a ha a z rfl
      · rcases d a z with y | y
        · exact n3 a ha a (h4 a y) rfl
        · exact y (List.mem_append_left _ ha)
    · rcases List.mem_append.mp hp with z | z
      · exact .inl ⟨List.mem_append_left _ z, fun y => n3 p z p (h4 p y) rfl⟩
      · rcases k3 p z with ⟨y, w⟩ | y
        · exact .inl ⟨List.mem_append_right _ y, w⟩
        · exact .inr y
/-- one own object is written -/
theorem Abs.poke {i : Nat} {o : O} (A : Abs E B G H c σ fp) (e : c[i]? = some (some o)) : ∃ v fq, σ[i]? = some (some v) ∧ Own E G H v o fq ∧ fq.Nodup ∧ (∀ p ∈ fq, p ∈ fp) ∧
    ∀ {p : Addr} {u : HO} {o' : O} {fr : List Addr}, p ∈ fq → isT u = false → Own E G (upd H p u) v o' fr → fr.Nodup → (∀ q ∈ fr, q ∈ fq) → ∃ fp', Abs E B G (upd H p u) (c.set i (some o')) σ fp' := by
  obtain ⟨v, fq, h1, h2, h3, h4, h5⟩ := A.cells.poke A.nd e
  refine ⟨v, fq, h1, h2, h3, h4, fun {p u o' fr} hp hu w m d => ?_⟩
  obtain ⟨fp', k1, k2, k3⟩ := h5 (Same.refl G) (fun q hq hn w e => by
    have : q ≠ p := fun z => hn (z ▸ hp)
    rw [upd_ne this]; exact e) w m fun q hq => .inl (d q hq)
  obtain ⟨gp, bp⟩ := A.fresh p (h4 p hp)
  refine ⟨fp', ⟨fun a o e n => ?_, fun a e => ?_, A.fine.x, fun a o e => ?_, fun a o e k => ?_⟩, k1, k2, fun q hq => (k3 q hq).elim (fun z => A.fresh q z.1) fun z => A.fresh q (h4 q (d q z)), A.pin⟩
  · have ha : a ≠ p := fun z => by
      subst z
      rcases bp with z | z
      · rw [z] at e; cases e
      · exact n z
    rw [upd_ne ha]; exact A.fine.base a o e n
  · by_cases ha : a = p
    · subst ha; rw [upd_same] at e; cases e
    · rw [upd_ne ha] at e; exact A.fine.there a e
  · have ha : a ≠ p := fun z => by subst z; rw [gp] at e; cases e
    rw [upd_ne ha]; exact A.fine.le a o e
  · by_cases ha : a = p
    · subst ha; rw [upd_same] at e; cases e; rw [hu] at k; cases k
    · rw [upd_ne ha] at e; exact A.fine.tup a o e k
end

/-! ### a fresh thing -/
def PostF (E : Wd) (B : Bs) (c : Env) (σ : L2.St) (fp : List Addr) (G H : Hp) (Q : VK) (o : O) : Prop :=
  ∀ v G' H' fq, Same G G' → Same H H' → Abs E B G' H' c σ fp → Own E G' H' v o fq → fq.Nodup → (∀ p ∈ fq, H p = none ∧ G' p = none) → Q v H'
def TF (E : Wd) (W : WX) (g : Env → R O) : TE := fun σ H Q => ∃ B G c fp, Abs E B G H c σ fp ∧ Res E W B c σ fp G H (g c) (PostF E B c σ fp G H Q)
/-- an expression that is worth a new thing -/
def PF (X : Cx) (W : WX) (e : Expr) (g : Env → R O) : Prop := PE X e (TF ⟨X.K, X.mg, X.w⟩ W g)
section
variable {E : Wd} {W : WX} {B : Bs} {c : Env} {σ : L2.St} {fp : List Addr} {G H : Hp} {b : Bool} {Dn : Ends}
theorem PostF.grow {Q : VK} {o : O} {G' H' : Hp} (h : PostF E B c σ fp G H Q o) (s : Same G G') (t : Same H H') : PostF E B c σ fp G' H' Q o := fun v G2 H2 fq s2 t2 A w n k =>
  h v G2 H2 fq (s.trans s2) (t.trans t2) A w n fun p hp => ⟨t.free (k p hp).1, (k p hp).2⟩
theorem tf_st {ga : Env → R O} {f : O → Rs} {Q' : VK} (A : Abs E B G H c σ fp) (h : ResS E W B G H (R.st (ga c) c f) Dn)
    (k : ∀ o, ga c = .ok o → ∀ v G1 H1 fq, Same G G1 → Same H H1 → Abs E B G1 H1 c σ fp → Own E G1 H1 v o fq → fq.Nodup → (∀ p ∈ fq, H p = none ∧ G1 p = none) → ResS E W B G1 H1 (f o) Dn → Q' v H1) : TF E W ga σ H Q' := by
  refine ⟨B, G, c, fp, A, ?_⟩
  cases e : ga c with
  | ok o =>
    rw [e] at h
    exact fun v G1 H1 fq s t A1 w n d => k o e v G1 H1 fq s t A1 w n d (ResS.grow (r := f o) h s)
  | ex x => rw [e] at h; exact fun cl dx G1 H1 s t A1 r => h cl dx σ G1 H1 fp s A1 r
  | stuck => rw [e] at h; exact h
end
section
variable {X : Cx} {W : WX} {pn : List Nat} {b b1 b2 : Bool} {e : Expr} {pos : Pos} {g : Env → Rs}
/-- a fresh thing may be taken as known -/
def eFz (g : Env → R O) : Env → R D := fun c => g c >>= fun o => .ok o.toD
def fLstO (ds : List D) : Option O := if ds.length ≤ 16777216 then some (.lst (ds.map O.v)) else none
def eFnO (f : List D → Option O) (gs : Env → R (List D)) : Env → R O := fun c => gs c >>= fun ds => lift (f ds)
theorem PostF.new {B : Bs} {c : Env} {σ : L2.St} {fp : List Addr} {G H : Hp} {Q : VK} {ds : List D} {vs : List V} (h : PostF ⟨X.K, X.mg, X.w⟩ B c σ fp G H Q (.lst (ds.map O.v))) (A : Abs ⟨X.K, X.mg, X.w⟩ B G H c σ fp) {p : Addr} (hp : H p = none) (r : RpL ⟨X.K, X.mg, X.w⟩ G vs ds) : Q (.ref p) (upd H p (.lst vs)) := by
  refine h (.ref p) G _ [p] (Same.refl _) (same_upd hp) (A.newO hp rfl) (.lst upd_same (ownL_v r)) (by simp) fun q hq => ?_
  have : q = p := by simpa using hq
  subst this
  exact ⟨hp, A.fine.fresh hp⟩
theorem pf_lst {es : List Expr} {gs : Env → R (List D)} (h : PXA X W true es gs) : PF X W (.List es pos) (eFnO fLstO gs) :=
  pe_mono (pe_lst h) fun σ H Q ⟨B, G, c, fp, A, q⟩ => txa_seq A q fun ds e vs G1 H1 s1 t1 A1 r1 q1 => by
    obtain ⟨d3, e3, p3⟩ := Res.lift q1
    unfold fLstO at e3
    split at e3
    · cases e3
      rename_i hl
      exact ⟨sz_ok (by rw [r1.length]; exact hl), fun p hp => (p3.grow s1 t1).new A1 hp r1⟩
    · cases e3
/-- list(xs), a new list -/
def fListO (b : Bool) (ds : List D) : Option O := (fList b ds).bind fun d => match d with
  | .lst es => some (.lst (es.map O.v))
  | _ => none
theorem pf_list {x : Str} {e : Expr} {gs : Env → R (List D)} {p : Pos} (hc : X.calm = true) (hm : X.mg x = none) (ha : PXA X W b [e] gs) (hx : x = "list" := by rfl) (hg : Gl X x := by rfl) (hv : bootBuiltins x = some (.type "list") := by decide +kernel)
    (hn : x ≠ "__name__" := by decide) (hdb : (x == ("__debug__" : Str)) = false := by decide) (he : starEach [e] X.env = (false, eval e X.env) :: starEach [] X.env := by rfl) (hpl : (backTo pos (starEach [] X.env)).any (·.1) = false := by rfl) :
    PF X W (.Call (.Name x p) [e] [] pos) (eFnO (fListO b) gs) :=
  pe_mono (pe_callTy (call_listA hc) hg hm hv ha hn hdb he hpl) fun σ H Q ⟨B, G, c, fp, A, q⟩ => txa_seq A q fun ds e vs G1 H1 s1 t1 A1 r1 q1 => by
    obtain ⟨o, e3, p3⟩ := Res.lift q1
    have p3 := p3.grow s1 t1
    unfold fListO at e3
    obtain ⟨d, e4, e5⟩ := Option.bind_eq_some_iff.mp e3
    unfold fList at e4
    split at e4
    · split at e4
      · rename_i hk
        cases e4
        cases e5
        obtain ⟨v, rfl, rv⟩ := r1.one
        obtain ⟨a, vs, rfl, h1, r1⟩ := rv.lstH A1.fine.le
        exact .inl ⟨_, _, rfl, .inl h1, fun q hq => p3.new A1 hq (r1.known A1.fine hk)⟩
      · cases e4
    · split at e4
      · rename_i hk
        cases e4
        cases e5
        obtain ⟨v, rfl, rv⟩ := r1.one
        obtain ⟨a, vs, rfl, h1, r1⟩ := rv.tupH A1.fine.le
        exact .inl ⟨_, _, rfl, .inr h1, fun q hq => p3.new A1 hq (r1.known A1.fine hk)⟩
      · cases e4
    · split at e4
      · rename_i ks ds hl
        cases e4
        cases e5
        obtain ⟨v, rfl, rv⟩ := r1.one
        obtain ⟨a, kvs, rfl, h1, e1, r1⟩ := rv.dicH A1.fine.le
        exact .inr ⟨_, _, rfl, h1, fun q hq => p3.new A1 hq (keys_rp e1)⟩
      · cases e4
    · cases e4
/-! ### x = a fresh thing -/
def sSetO (i : Nat) (g : Env → R O) : Env → Rs := fun c => (g c).st c fun o => .ok .nx (c.set i (some o))
theorem set_fresh {E : Wd} {B : Bs} {c : Env} {σ : L2.St} {fp : List Addr} {G1 H H1 : Hp} {v : V} {o : O} {fq : List Addr} {i : Nat} {pn : List Nat} (A : Abs E B G1 H1 c σ fp) (t : ∀ p ∈ fp, H p ≠ none) (f0 : ∀ p, H p = none → B.H0 p = none) (w : Own E G1 H1 v o fq) (n : fq.Nodup) (d : ∀ p ∈ fq, H p = none ∧ G1 p = none) (P : PinOk pn B) (hi : i ∉ pn) :
    ∃ fr, Abs E B G1 H1 (c.set i (some o)) (σ.set i (some v)) fr :=
  A.set w n (fun p hp z => t p z (d p hp).1) (fun p hp => ⟨(d p hp).2, .inl (f0 p (d p hp).1)⟩) (P.ne hi)
theorem pxs_setO {x : Str} {p : Pos} (i : Nat) {g : Env → R O} (h : PF X W e g) (nd : X.N.Nodup) (hN : X.N[i]? = some x := by rfl) (hl : Loc X.env.scope x := by first | exact Or.inl rfl | exact Or.inr rfl) (hi : i ∉ pn := by decide)
    (hs : swapsWith e (some (.Name x p)) pos.line X.env = pure false := by rfl) (hf : X.fn x = true ∨ X.env.scope.names.lookup x = some .local := by first | exact .inl rfl | exact .inr rfl) : PXS X W pn (.Assign [.Name x p] e pos) (sSetO i g) :=
  ps_mono (ps_asg h (pg_name (i := i) nd hN hl) hs) fun Dn σ H ⟨B, G, c, fp, A, P, q⟩ => tf_st A q fun o e v G1 H1 fq s1 t1 A1 w n d q1 => by
    obtain ⟨fr, A2⟩ := set_fresh A1 (A.cells.there) A.fine.there w n d P hi
    exact q1 _ G1 H1 fr (Same.refl _) A2
/-! ### x.append(e), x[i] = e -/
def atL (i : Nat) (c : Env) : Option (List O) := match c[i]? with
  | some (some (.lst os)) => some os
  | _ => none
theorem atL_eq {i : Nat} {c : Env} {os : List O} (h : atL i c = some os) : c[i]? = some (some (.lst os)) := by
  unfold atL at h
  split at h
  · cases h; assumption
  · cases h
def sApp (i : Nat) (g : Env → R D) : Env → Rs := fun c => (lift (atL i c)).st c fun os => (g c).st c fun d => if os.length < 16777216 then .ok .nx (c.set i (some (.lst (os ++ [.v d])))) else .stuck
theorem pxs_app {x : Str} {p apos cpos : Pos} (i : Nat) {g : Env → R D} (h : PX X W true e g) (hN : X.N[i]? = some x := by rfl) (hv : Vis X.env.scope x := by first | exact Or.inl rfl | exact Or.inr (Or.inl rfl) | exact Or.inr (Or.inr rfl)) (hd : (x == ("__debug__" : Str)) = false := by decide) (hcd : (x == ("__classdict__" : Str)) = false := by decide)
    (hbase : attributeBase (.Name x p) "append" X.env (eval (.Name x p) X.env) = eval (.Name x p) X.env := by rfl)
    (hfew : ((backTo cpos (starEach [e] X.env)).all (fun x => !x.1) && (backToKw cpos (keywordEach [] X.env)).all (fun x => x.1.isSome)
      && decide ([e].length + ([] : List Keyword).length + (if ([] : List Keyword).isEmpty then 0 else 1) < 30)) = true := by rfl)
    (hline : (apos.endLine == cpos.line) = true := by rfl) (hs : starEach [e] X.env = (false, eval e X.env) :: starEach [] X.env := by rfl) (hplain : (backTo cpos (starEach [] X.env)).any (·.1) = false := by rfl)
    (hsw : swapsWith (.Call (.Attribute (.Name x p) "append" apos) [e] [] cpos) none pos.line X.env = pure false := by rfl) :
    PXS X W pn (.Expr (.Call (.Attribute (.Name x p) "append" apos) [e] [] cpos) pos) (sApp i g) :=
  ps_mono (ps_expr (pe_bm PySem.F.plainAttrs_list PySem.F.slot_list_append PySem.F.type_list_append mt_append (pe_var hN hv hd hcd) (pa_cons h pa_nil hs) hbase hfew hline hs hplain) hsw) fun Dn σ H ⟨B, G, c, fp, A, P, q⟩ => by
    obtain ⟨os, e0, q⟩ := lift_st q
    have e1 := atL_eq e0
    obtain ⟨v, fq, h1, h2, _, _, _⟩ := A.poke e1
    cases h2 with
    | @lst a vs _ fq ha ho =>
      refine ⟨_, h1, .inl ⟨rfl, vs, .inl (.inl ha)⟩, tx_st A q fun d e3 w G1 H1 s1 t1 A1 r1 q1 => ?_⟩
      obtain ⟨v, fq, h1', h2, n, hin, hpk⟩ := A1.poke e1
      rw [h1] at h1'
      cases h1'
      cases h2 with
      | @lst _ vs _ fq ha ho =>
        have hlen := ho.length
        by_cases hl : os.length < 16777216
        · have q2 : ResS ⟨X.K, X.mg, X.w⟩ W B G1 H1 (if os.length < 16777216 then .ok .nx (c.set i (some (.lst (os ++ [.v d])))) else .stuck) Dn := q1
          rw [if_pos hl] at q2
          refine ⟨a, vs, w, rfl, rfl, ha, by rw [hlen, sizeLine_eq]; exact hl, ?_⟩
          have nn := List.nodup_cons.mp n
          have ho' : OwnL ⟨X.K, X.mg, X.w⟩ G1 (upd H1 a (.lst (vs ++ [w]))) (vs ++ [w]) (os ++ [.v d]) (fq ++ ([] ++ [])) :=
            (ho.upd nn.1).append (.cons (.v r1) .nil)
          obtain ⟨fp', A2⟩ := hpk List.mem_cons_self (u := .lst (vs ++ [w])) rfl (.lst upd_same ho') (by simpa using n) (fun q hq => by simpa using hq)
          exact q2 σ G1 _ fp' (Same.refl _) A2
        · have q2 : ResS ⟨X.K, X.mg, X.w⟩ W B G1 H1 (if os.length < 16777216 then .ok .nx (c.set i (some (.lst (os ++ [.v d])))) else .stuck) Dn := q1
          rw [if_neg hl] at q2
          exact q2.elim
def sIxSet (i : Nat) (gi g : Env → R D) : Env → Rs := fun c => (g c).st c fun d => (lift (atL i c)).st c fun os => (gi c).st c fun k => match k with
  | .int k => (lift (ixN os.length k)).st c fun j => .ok .nx (c.set i (some (.lst (os.set j (.v d)))))
  | _ => .stuck
theorem pxs_ixset {x : Str} {ei : Expr} {p p2 : Pos} (i : Nat) {gi g : Env → R D} (h : PX X W true e g) (hi : PX X W b ei gi) (hN : X.N[i]? = some x := by rfl) (hv : Vis X.env.scope x := by first | exact Or.inl rfl | exact Or.inr (Or.inl rfl) | exact Or.inr (Or.inr rfl)) (hd : (x == ("__debug__" : Str)) = false := by decide) (hcd : (x == ("__classdict__" : Str)) = false := by decide)
    (hs : swapsWithSole [.Subscript (.Name x p) ei p2] e pos.line X.env = pure false := by rfl) (hw : swappedStores [.Subscript (.Name x p) ei p2] e X.env = pure none := by rfl)
    (h1 : (assignEach [.Subscript (.Name x p) ei p2] X.env).map (·.2) = [assign (.Subscript (.Name x p) ei p2) X.env] := by rfl)
    (ha : ∀ v, assign (.Subscript (.Name x p) ei p2) X.env v = (do
      let ov ← holding [v] (eval (.Name x p) X.env)
      let iv ← holding [v, ov] (eval ei X.env)
      standAt p2
      holding [v, ov, iv] (setItem ov iv v)
      release [v, ov, iv] []) := by intro _; rfl) : PXS X W pn (.Assign [.Subscript (.Name x p) ei p2] e pos) (sIxSet i gi g) :=
  ps_mono (ps_asg h (pg_sub (pe_var hN hv hd hcd) hi set_list ha) hs hw h1) fun Dn σ H ⟨B, G, c, fp, A, P, q⟩ => tx_st A q fun d e w G1 H1 s1 t1 A1 r1 q1 => by
    obtain ⟨os, e0, q1⟩ := lift_st q1
    have e1 := atL_eq e0
    obtain ⟨v, fq, h1, h2, _, _, _⟩ := A1.poke e1
    cases h2 with
    | @lst a vs _ fq ha ho =>
      refine ⟨_, h1, tx_st A1 q1 fun k e3 w2 G2 H2 s2 t2 A2 r2 q2 => ?_⟩
      cases k with
      | int k =>
        obtain ⟨j, ej, q3⟩ := lift_st q2
        obtain ⟨v, fq, h1', h2, n, hin, hpk⟩ := A2.poke e1
        rw [h1] at h1'
        cases h1'
        cases h2 with
        | @lst _ vs _ fq ha ho =>
          have hlen := ho.length
          refine ⟨a, vs, k, j, rfl, r2.intH, ha, by rw [hlen]; exact ej, ?_⟩
          have nn := List.nodup_cons.mp n
          have ho2 := ho.upd (p := a) (u := .lst (vs.set j w)) nn.1
          obtain ⟨fr, k1, k2, k3⟩ := ho2.setV j (r1.mono s2) nn.2
          obtain ⟨fp', A3⟩ := hpk List.mem_cons_self (u := .lst (vs.set j w)) rfl (.lst upd_same k1) (List.nodup_cons.mpr ⟨fun z => nn.1 (k3 a z), k2⟩) (fun q hq => by
            rcases List.mem_cons.mp hq with z | z
            · rw [z]; exact List.mem_cons_self
            · exact List.mem_cons_of_mem _ (k3 q z))
          exact q3 σ G2 _ fp' (Same.refl _) A3
      | _ => exact q2.elim
/-! ### freezing -/
def fz (i : Nat) (c : Env) : Env := match c[i]? with
  | some (some o) => c.set i (some (.v o.toD))
  | _ => c
def sFz (i : Nat) (g : Env → Rs) : Env → Rs := fun c => g (fz i c)
theorem Abs.fz {E : Wd} {B : Bs} {G H : Hp} {c : Env} {σ : L2.St} {fp : List Addr} (A : Abs E B G H c σ fp) (nb : ∀ a, ¬ B.br a) (i : Nat) : ∃ G' fp', Same G G' ∧ Abs E B G' H (VS.fz i c) σ fp' := by
  unfold VS.fz
  split
  · rename_i o e
    obtain ⟨v, fq, h1, h2, h3, h4, h5⟩ := A.cells.poke A.nd e
    have fr0 : ∀ p ∈ fq, G p = none ∧ B.H0 p = none := fun p hp => by
      obtain ⟨a1, a2⟩ := A.fresh p (h4 p hp)
      exact ⟨a1, a2.elim id fun z => (nb p z).elim⟩
    let G' : Hp := fun a => if a ∈ fq then H a else G a
    have gin : ∀ a, a ∈ fq → G' a = H a := fun a ha => if_pos ha
    have gout : ∀ a, a ∉ fq → G' a = G a := fun a ha => if_neg ha
    have s : Same G G' := fun a u ha => by
      have hn : a ∉ fq := fun z => by rw [(fr0 a z).1] at ha; cases ha
      rw [gout a hn]; exact ha
    have sl : Same G' H := fun a u ha => by
      by_cases hn : a ∈ fq
      · rw [gin a hn] at ha; exact ha
      · rw [gout a hn] at ha; exact A.fine.le a u ha
    have rp : Rp E G' v o.toD := by
      refine Own.rp (H' := G') (H := H) A.fine.le h2 (fun p hp u e => by rw [gin p hp]; exact e) s
    obtain ⟨fp', k1, k2, k3⟩ := h5 (H' := H) (o' := .v o.toD) (fr := []) s (fun p hp hn u e => e) (.v rp) List.nodup_nil (fun p hp => nomatch hp)
    have k4 : ∀ p ∈ fp', p ∈ fp ∧ G' p = none := fun p hp => by
      obtain ⟨z, w⟩ : p ∈ fp ∧ p ∉ fq := (k3 p hp).elim id fun z => nomatch z
      exact ⟨z, by rw [gout p w]; exact (A.fresh p z).1⟩
    exact ⟨G', fp', s, ⟨A.fine.base, A.fine.there, fun a e1 e2 => by
      by_cases hn : a ∈ fq
      · exact (e1 (fr0 a hn).2).elim
      · rw [gout a hn]; exact A.fine.x a e1 e2, sl, fun a u e k => by
      by_cases hn : a ∈ fq
      · rw [gin a hn]; exact e
      · rw [gout a hn]; exact A.fine.tup a u e k⟩, k1, k2, fun p hp => ⟨(k4 p hp).2, (A.fresh p (k4 p hp).1).2⟩, A.pin⟩
  · exact ⟨G, fp, Same.refl _, A⟩
theorem pxs_fz {st : Stmt} (i : Nat) (h : PXS X W [] st g) : PXS X W [] st (sFz i g) := ps_mono h fun Dn σ H ⟨B, G, c, fp, A, P, q⟩ => by
  obtain ⟨G', fp', s, A'⟩ := A.fz (P.2 rfl) i
  exact ⟨B, G', _, fp', A', P, ResS.grow (r := g (fz i c)) q s⟩
end
end VS

/-! VS: what is walked; for; list comprehensions. -/
namespace VS
open PySem PySem.Spec PyProof.Rows L2

/-- the iterator J yields ds, as long as Hs stands; the items are known in G -/
structure Wk (E : Wd) (J : It) (Hs G : Hp) (ds : List D) : Prop where
  go : ∀ j H, Same Hs H → j < ds.length → J.go j H
  yl : ∀ j H x H', Same Hs H → J.yld j H x H' → H' = H ∧ ∀ d, ds[j]? = some d → Rp E G x d
  st : ∀ j H, Same Hs H → ds.length ≤ j → J.stop j H
/-- what a for (b) or a comprehension walks -/
structure PSrc (X : Cx) (W : WX) (b : Bool) (tg iter : Expr) (wi : TI) (gs : Env → R (List D)) : Prop where
  pi : PI X tg iter wi
  run : ∀ {B : Bs} {G H : Hp} {c : Env} {σ : L2.St} {fp : List Addr} {P : List D → Prop} {R : It → Hp → Prop}, Abs ⟨X.K, X.mg, X.w⟩ B G H c σ fp → Res ⟨X.K, X.mg, X.w⟩ W B c σ fp G H (gs c) P →
    (∀ ds G1 H1 J, gs c = .ok ds → Same G G1 → Same H H1 → Abs ⟨X.K, X.mg, X.w⟩ B G1 H1 c σ fp → Wk ⟨X.K, X.mg, X.w⟩ J (vw b G1 H1) G1 ds → P ds → R J H1) → wi σ H R
section
variable {X : Cx} {W : WX} {pn : List Nat} {b b' b2 : Bool} {tg e : Expr} {pos : Pos} {g : Env → Rs}
theorem wk_list {E : Wd} {Hs G : Hp} {a : Addr} {vs : List V} {ds : List D} {K : PySem.W.Frag} (h : SqL K Hs a vs) (r : RpL E G vs ds) : Wk E (Itl K a) Hs G ds := by
  refine ⟨fun j H s hj => ?_, fun j H x H' s y => ⟨y.1, fun d e => ?_⟩, fun j H s hj => ⟨vs, Same.sqL s h, by rw [r.length]; exact hj⟩⟩
  · obtain ⟨v, e1, _⟩ := r.get (List.getElem?_eq_getElem hj)
    exact ⟨vs, v, Same.sqL s h, e1⟩
  · obtain ⟨v, e1, e2⟩ := r.get e
    have := y.2 vs (Same.sqL s h)
    rw [e1] at this
    cases this
    exact e2
theorem wk_tup {E : Wd} {Hs G : Hp} {a : Addr} {vs : List V} {ds : List D} {K : PySem.W.Frag} (h : SqT K Hs a vs) (r : RpL E G vs ds) : Wk E (Itt K a) Hs G ds := by
  refine ⟨fun j H s hj => ?_, fun j H x H' s y => ⟨y.1, fun d e => ?_⟩, fun j H s hj => ⟨vs, Same.sqT s h, by rw [r.length]; exact hj⟩⟩
  · obtain ⟨v, e1, _⟩ := r.get (List.getElem?_eq_getElem hj)
    exact ⟨vs, v, Same.sqT s h, e1⟩
  · obtain ⟨v, e1, e2⟩ := r.get e
    have := y.2 vs (Same.sqT s h)
    rw [e1] at this
    cases this
    exact e2
theorem rangeD_len (lo hi : Int) : (rangeD lo hi).length = (hi - lo).toNat := by simp [rangeD]
theorem wk_rng {E : Wd} {Hs G : Hp} {lo hi : Int} : Wk E (Itr lo (hi - lo).toNat) Hs G (rangeD lo hi) := by
  refine ⟨fun j H s hj => ?_, fun j H x H' s y => ⟨y.1, fun d e => ?_⟩, fun j H s hj => ?_⟩
  · rw [rangeD_len] at hj; exact hj
  · obtain ⟨hj, _⟩ := List.getElem?_eq_some_iff.mp e
    rw [rangeD_len] at hj
    rw [rangeD_at hj] at e
    cases e
    rw [y.2]
    exact .int _
  · rw [rangeD_len] at hj; exact hj
/-- the items of a list, a tuple, a text -/
def asA (b : Bool) : D → Option (List D)
  | .lst ds => if okEl b ds then some ds else none
  | .tup ds => if okEl b ds then some ds else none
  | .str l => if l.length ≤ 16777216 then some (l.map fun x => .str [x]) else none
  | _ => none
def eIt (b : Bool) (ga : Env → R D) : Env → R (List D) := fun c => ga c >>= fun d => lift (asA b d)
def eItR (ga gb : Env → R D) : Env → R (List D) := fun c => ga c >>= fun d => lift (asI d) >>= fun lo => gb c >>= fun d2 => lift (asI d2) >>= fun hi => .ok (rangeD lo hi)
theorem wk_str {E : Wd} {Hs G : Hp} (l : List Nat) : Wk E (Its (S l)) Hs G (l.map fun x => .str [x]) := by
  refine ⟨fun j H s hj => ?_, fun j H x H' s y => ⟨y.1, fun d e => ?_⟩, fun j H s hj => ?_⟩
  · show j < l.toArray.size
    simpa using hj
  · obtain ⟨z, h1, h2⟩ := y.2
    have h1 : l.toArray[j]? = some z := h1
    rw [List.getElem?_map] at e
    have h1 : l[j]? = some z := by simpa using h1
    rw [h1] at e
    cases e
    rw [h2]
    exact .str [z]
  · show l.toArray.size ≤ j
    simpa using hj
theorem Rp.lstV {E : Wd} {G : Hp} {v : V} {ds : List D} (r : Rp E G v (.lst ds)) : ∃ a vs, v = .ref a ∧ SqL E.K G a vs ∧ RpL E G vs ds := by
  cases r with
  | lst h r => exact ⟨_, _, rfl, h, r⟩
theorem pi_mono {tg e : Expr} {t t' : TI} (h : PI X tg e t) (k : ∀ σ H R, t' σ H R → t σ H R) : PI X tg e t' := ⟨fun pins s σ H R I q => h.run pins s σ H R I (k σ H R q)⟩
def iAny (K : PySem.W.Frag) (te : TE) : TI := fun σ H R => iList K te σ H R ∨ iTup K te σ H R ∨ iStr te σ H R
theorem pi_any {te : TE} (h : PE X e te) : PI X tg e (iAny X.K te) := ⟨fun pins s σ H R I q => by
  rcases q with q | q | q
  · exact (pi_list h).run pins s σ H R I q
  · exact (pi_tup h).run pins s σ H R I q
  · exact (pi_str h).run pins s σ H R I q⟩
theorem src_any {ga : Env → R D} (h : PX X W b e ga) : PSrc X W b tg e (iAny X.K (TX ⟨X.K, X.mg, X.w⟩ W b ga)) (eIt b ga) :=
  ⟨pi_any h, fun {B G H c σ fp P R} A q k => by
    cases e0 : ga c with
    | stuck => unfold eIt at q; rw [e0] at q; exact q.elim
    | ex x => exact .inl (tx_seq A q fun d e => by rw [e0] at e; cases e)
    | ok d0 =>
      have eq : eIt b ga c = lift (asA b d0) := by unfold eIt; rw [e0]; rfl
      have step : ∀ ds, asA b d0 = some ds → eIt b ga c = .ok ds := fun ds h => by rw [eq, h]; rfl
      cases d0 with
      | lst ds =>
        refine .inl (tx_seq A q fun d e v G1 H1 s1 t1 A1 r1 q1 => ?_)
        rw [e0] at e
        cases e
        obtain ⟨es, e2, p⟩ := Res.lift q1
        have e3 := e2
        unfold asA at e2
        simp only at e2
        split at e2
        · rename_i hk
          cases e2
          obtain ⟨a, vs, rfl, h0, r2⟩ := r1.lstV
          have h1 := Same.sqL (same_vw b A1.fine.le) h0
          exact ⟨a, rfl, ⟨vs, h1⟩, k _ G1 H1 _ (step _ e3) s1 t1 A1 (wk_list h0 (r2.known A1.fine hk)) p⟩
        · cases e2
      | tup ds =>
        refine .inr (.inl (tx_seq A q fun d e v G1 H1 s1 t1 A1 r1 q1 => ?_))
        rw [e0] at e
        cases e
        obtain ⟨es, e2, p⟩ := Res.lift q1
        have e3 := e2
        unfold asA at e2
        simp only at e2
        split at e2
        · rename_i hk
          cases e2
          obtain ⟨a, vs, rfl, h1, r2⟩ := r1.tupH A1.fine.le
          have h0 : SqT X.K (vw b G1 H1) a vs := by
            cases b with
            | true => exact known_tup A1.fine h1
            | false => exact h1
          exact ⟨a, rfl, ⟨vs, h1⟩, k _ G1 H1 _ (step _ e3) s1 t1 A1 (wk_tup h0 (r2.known A1.fine hk)) p⟩
        · cases e2
      | str l =>
        refine .inr (.inr (tx_seq A q fun d e v G1 H1 s1 t1 A1 r1 q1 => ?_))
        rw [e0] at e
        cases e
        obtain ⟨es, e2, p⟩ := Res.lift q1
        have e3 := e2
        unfold asA at e2
        simp only at e2
        split at e2
        · cases e2
          exact ⟨S l, r1.strH, k _ G1 H1 _ (step _ e3) s1 t1 A1 (wk_str l) p⟩
        · cases e2
      | _ => rw [eq] at q; exact q.elim⟩
theorem src_r1 {a : Expr} {ga : Env → R D} {p2 p3 : Pos} (hm : X.mg "range" = none) (h : PX X W b a ga) (hg : Gl X "range" := by rfl) (hs0 : starEach [a] X.env = [(false, eval a X.env)] := by rfl) :
    PSrc X W b' tg (.Call (.Name "range" p2) [a] [] p3) (iRng1 (tCons (TX ⟨X.K, X.mg, X.w⟩ W b ga) tNil)) (eItR (eC (.int 0)) ga) :=
  ⟨pi_range1 hg hm (pa_cons h pa_nil hs0) hs0, fun {B G H c σ fp P R} A q k => by
    have q0 : Res ⟨X.K, X.mg, X.w⟩ W B c σ fp G H (ga c >>= fun d2 => lift (asI d2) >>= fun hi => .ok (rangeD 0 hi)) P := q
    refine tx_seq A q0 fun d e v G1 H1 s1 t1 A1 r1 q1 => ?_
    cases hd : asI d with
    | none => rw [hd] at q1; exact q1.elim
    | some hi =>
      rw [hd] at q1
      obtain ⟨rfl, h1, h2⟩ := asI_rp r1 hd
      have w : Wk ⟨X.K, X.mg, X.w⟩ (Itr 0 hi.toNat) (vw b' G1 H1) G1 (rangeD 0 hi) := by have z := wk_rng (E := ⟨X.K, X.mg, X.w⟩) (Hs := vw b' G1 H1) (G := G1) (lo := 0) (hi := hi); simpa using z
      exact ⟨hi, rfl, h1, h2, k _ G1 H1 _ (by show (ga c >>= fun d2 => lift (asI d2) >>= fun hi => VS.R.ok (rangeD 0 hi)) = _; rw [e]; show (lift (asI d) >>= _) = _; rw [hd]; rfl) s1 t1 A1 w q1⟩⟩
theorem src_r2 {a a2 : Expr} {ga gb : Env → R D} {p2 p3 : Pos} (hm : X.mg "range" = none) (h : PX X W b a ga) (h2 : PX X W b2 a2 gb) (hg : Gl X "range" := by rfl) (hs0 : starEach [a, a2] X.env = [(false, eval a X.env), (false, eval a2 X.env)] := by rfl) (hs1 : starEach [a2] X.env = [(false, eval a2 X.env)] := by rfl)
    (hs2 : starEach [a, a2] X.env = (false, eval a X.env) :: starEach [a2] X.env := by rfl) :
    PSrc X W b' tg (.Call (.Name "range" p2) [a, a2] [] p3) (iRng2 (tCons (TX ⟨X.K, X.mg, X.w⟩ W b ga) (tCons (TX ⟨X.K, X.mg, X.w⟩ W b2 gb) tNil))) (eItR ga gb) :=
  ⟨pi_range2 hg hm (pa_cons h (pa_cons h2 pa_nil hs1) hs2) hs0 hs1, fun {B G H c σ fp P R} A q k => by
    refine tx_seq A q fun d e v G1 H1 s1 t1 A1 r1 q1 => ?_
    cases hd : asI d with
    | none => rw [hd] at q1; exact q1.elim
    | some lo =>
      rw [hd] at q1
      obtain ⟨rfl, h1, h2⟩ := asI_rp r1 hd
      refine tx_seq A1 q1 fun d2 e2 v2 G2 H2 s2 t2 A2 r2 q2 => ?_
      cases hd2 : asI d2 with
      | none => rw [hd2] at q2; exact q2.elim
      | some hi =>
        rw [hd2] at q2
        obtain ⟨rfl, h3, h4⟩ := asI_rp r2 hd2
        exact ⟨lo, hi, rfl, ⟨h1, h2, h3, h4⟩, k _ G2 H2 _ (by unfold eItR; rw [e]; simp only [ok_bind, hd, lift_some, e2, hd2]) (s1.trans s2) (t1.trans t2) A2 wk_rng q2⟩⟩
theorem st_res {E : Wd} {B : Bs} {c : Env} {σ : L2.St} {fp : List Addr} {G H : Hp} {Dn : Ends} {α : Type} {r : R α} {f : α → Rs} (h : ResS E W B G H (r.st c f) Dn) : Res E W B c σ fp G H r (fun a => r = .ok a ∧ ∀ G1 H1, Same G G1 → ResS E W B G1 H1 (f a) Dn) := by
  cases r with
  | ok a => exact ⟨rfl, fun G1 H1 s => ResS.grow (r := f a) h s⟩
  | ex e => exact fun cl dx G' H' s t A x => h cl dx σ G' H' fp s A x
  | stuck => exact h
def sFor (i : Nat) (gs : Env → R (List D)) (g : Env → Rs) : Env → Rs := fun c => (gs c).st c fun ds => forL i g ds c
theorem pxs_for {x : Str} {p : Pos} {body : List Stmt} {wi : TI} {gs : Env → R (List D)} (i : Nat) (hp : PassesOwn (model X.prog X.w) X.A X.env X.xe) (hc : X.calm = true) (ha : PSrc X W true (.Name x p) e wi gs) (hb : PXSs X W pn body g) (nd : X.N.Nodup) (hN : X.N[i]? = some x := by rfl) (hl : Loc X.env.scope x := by first | exact Or.inl rfl | exact Or.inr rfl) (hi : i ∉ pn := by decide)
    (hf : X.fn x = true ∨ X.env.scope.names.lookup x = some .local := by first | exact .inl rfl | exact .inr rfl) (hs : ∀ y, foldedSetIterable e X.env y = pure y := by intro _; rfl) : PXS X W pn (.For (.Name x p) e body [] pos) (sFor i gs g) :=
  ps_mono (ps_for hp hc ha.pi (pg_name (i := i) nd hN hl) hb hs) fun Dn σ H ⟨B, G, c, fp, A, P, q⟩ => ha.run A (st_res q) fun ds G1 H1 J e s1 t1 A1 w ⟨_, q1⟩ => by
    refine ⟨fun j m σ H => m = ds.length - j ∧ j ≤ ds.length ∧ ∃ G' c' fp', Same G1 G' ∧ Abs ⟨X.K, X.mg, X.w⟩ B G' H c' σ fp' ∧ ResS ⟨X.K, X.mg, X.w⟩ W B G' H (forL i g (ds.drop j) c') Dn, ⟨ds.length, by simp, Nat.zero_le _, G1, c, fp, Same.refl _, A1, q1 G1 H1 s1⟩, ?_⟩
    rintro j m σ' H' ⟨rfl, hj, G', c', fp', s', A', q'⟩
    by_cases hlt : j < ds.length
    · refine .inr ⟨w.go j H' (s'.trans A'.fine.le) hlt, fun σ2 H2 => ∃ G2 c2 fp2, Same G1 G2 ∧ Abs ⟨X.K, X.mg, X.w⟩ B G2 H2 c2 σ2 fp2 ∧ ResS ⟨X.K, X.mg, X.w⟩ W B G2 H2 (forL i g (ds.drop (j + 1)) c2) Dn, fun σ2 H2 h2 => ⟨_, by omega, rfl, hlt, h2⟩, fun x H3 y => ?_⟩
      obtain ⟨rfl, hr⟩ := w.yl j H' x H3 (s'.trans A'.fine.le) y
      have hd := List.getElem?_eq_getElem hlt
      rw [drop_cons hd] at q'
      exact for_turn A' P hi ((hr _ hd).mono s') q' fun σ2 G2 H2 c2 fp2 s2 A2 q2 => ⟨G2, c2, fp2, s'.trans s2, A2, q2⟩
    · have e : j = ds.length := by omega
      subst e
      rw [List.drop_length] at q'
      exact .inl ⟨w.st _ H' (s'.trans A'.fine.le) (Nat.le_refl _), q' σ' G' H' fp' (Same.refl _) A'⟩

/-! ### list comprehensions -/
def noX {α : Type} : R α → R α
  | .ok a => .ok a
  | _ => .stuck
@[simp] theorem noX_ok {α : Type} (a : α) : noX (.ok a) = R.ok a := rfl
@[simp] theorem noX_stuck {α : Type} : noX (.stuck : R α) = .stuck := rfl
@[simp] theorem noX_ex {α : Type} (e : D) : noX (.ex e : R α) = .stuck := rfl
def compL (t : Env → R Bool) (g : Env → R D) (i : Nat) (c : Env) : List D → R (List D)
  | [] => .ok []
  | d :: ds => noX (t (c.set i (some (.v d)))) >>= fun b => if b then noX (g (c.set i (some (.v d)))) >>= fun x => compL t g i c ds >>= fun xs => .ok (x :: xs) else compL t g i c ds
def eLcs (gs : Env → R (List D)) (t : Env → R Bool) (g : Env → R D) (i : Nat) : Env → R (List D) := fun c => gs c >>= fun ds => compL t g i c ds >>= fun es => if es.length ≤ 16777216 then .ok es else .stuck
def eLc (gs : Env → R (List D)) (t : Env → R Bool) (g : Env → R D) (i : Nat) : Env → R D := fun c => eLcs gs t g i c >>= fun es => .ok (.lst es)
def eLcO (gs : Env → R (List D)) (t : Env → R Bool) (g : Env → R D) (i : Nat) : Env → R O := fun c => eLcs gs t g i c >>= fun es => .ok (.lst (es.map O.v))
def tYes' : Env → R Bool := fun _ => .ok true
abbrev W0 : WX := fun _ _ _ _ => False
/-- a block's tests -/
def PXTs (X : Cx) (ifs : List Expr) (t : Env → R Bool) : Prop := PTs X ifs (TXT ⟨X.K, X.mg, X.w⟩ W0 t)
theorem pts_mono {X : Cx} {ifs : List Expr} {t t' : TT} (h : PTs X ifs t) (k : ∀ σ H Q, t' σ H Q → t σ H Q) : PTs X ifs t' := ⟨fun pins s σ H Q I q => h.run pins s σ H Q I (k σ H Q q)⟩
theorem pxts_nil {X : Cx} : PXTs X [] tYes' := pts_mono pts_nil fun σ H Q ⟨B, G, c, fp, A, q⟩ => q G H (Same.refl _) (Same.refl _) A
theorem pxts_one {X : Cx} {c : Expr} {t : Env → R Bool} (h : PXT X W0 c t) : PXTs X [c] t := pts_one h
end
section
variable {E : Wd} {B : Bs} {c : Env} {σ : L2.St} {fp : List Addr} {G G' H H' : Hp}
/-- a block begins -/
theorem Abs.enter {i : Nat} {v : V} {d : D} (A : Abs E B G H c σ fp) (rv : Rp E G v d) : ∃ B' fr, Abs E B' G H (c.set i (some (.v d))) (σ.set i (some v)) fr ∧
    ∀ G' H' c2 σ2 fp2, Same G G' → Same H H' → Abs E B' G' H' c2 σ2 fp2 → Abs E B G' H' c σ fp ∧ ∀ a, H a ≠ none → G a = none → G' a = none := by
  obtain ⟨fr, h1, h2, h3⟩ := A.cells.set i (Own.v rv) A.nd List.nodup_nil fun p hp => nomatch hp
  have sub : ∀ p ∈ fr, p ∈ fp := fun p hp => (h3 p hp).elim id fun z => nomatch z
  refine ⟨⟨H, G, [], fun a => a ∈ fr⟩, fr, ⟨⟨fun a o e _ => e, fun a e => e, fun a _ e => e, A.fine.le, A.fine.tup⟩, h1, h2, fun p hp => ⟨(A.fresh p (sub p hp)).1, .inr hp⟩, fun q hq => nomatch hq⟩, fun G' H' c2 σ2 fp2 s t A2 => ?_⟩
  have gr : ∀ a, H a ≠ none → G a = none → G' a = none := A2.fine.x
  refine ⟨⟨⟨fun a o e n => t a o (A.fine.base a o e n), fun a e => A.fine.there a (t.free e), fun a h1 h2 => ?_, A2.fine.le, A2.fine.tup⟩, A.cells.keep s (fun p _ u e => t p u e), A.nd, fun p hp => ⟨gr p (A.cells.there p hp) (A.fresh p hp).1, (A.fresh p hp).2⟩, A.pin⟩, gr⟩
  exact gr a (fun z => h1 (A.fine.there a z)) (A.fine.x a h1 h2)
/-- a new list that no name owns is written -/
theorem Abs.pokeOut {p : Addr} {u : HO} (A : Abs E B G H c σ fp) (hf : p ∉ fp) (hG : G p = none) (h0 : B.H0 p = none) (hu : isT u = false) : Abs E B G (upd H p u) c σ fp := by
  refine ⟨⟨fun a o e n => ?_, fun a e => ?_, A.fine.x, fun a o e => ?_, fun a o e k => ?_⟩, A.cells.keep (Same.refl _) fun q hq w e => ?_, A.nd, A.fresh, A.pin⟩
  · have ha : a ≠ p := fun z => by subst z; rw [h0] at e; cases e
    rw [upd_ne ha]; exact A.fine.base a o e n
  · by_cases ha : a = p
    · rw [ha]; exact h0
    · rw [upd_ne ha] at e; exact A.fine.there a e
  · have ha : a ≠ p := fun z => by subst z; rw [hG] at e; cases e
    rw [upd_ne ha]; exact A.fine.le a o e
  · by_cases ha : a = p
    · subst ha; rw [upd_same] at e; cases e; rw [hu] at k; cases k
    · rw [upd_ne ha] at e; exact A.fine.tup a o e k
  · have hq' : q ≠ p := fun z => hf (z ▸ hq)
    rw [upd_ne hq']; exact e
/-- it is known from now on -/
theorem Abs.know {p : Addr} {u : HO} (A : Abs E B G H c σ fp) (hf : p ∉ fp) (hG : G p = none) (h0 : B.H0 p = none) (hH : H p = some u) : Abs E B (upd G p u) H c σ fp := by
  refine ⟨⟨A.fine.base, A.fine.there, fun a h1 h2 => ?_, fun a o e => ?_, fun a o e k => ?_⟩, A.cells.keep (same_upd hG) (fun q hq w e => e), A.nd, fun q hq => ⟨?_, (A.fresh q hq).2⟩, A.pin⟩
  · have ha : a ≠ p := fun z => h1 (by rw [z]; exact h0)
    rw [upd_ne ha]; exact A.fine.x a h1 h2
  · by_cases ha : a = p
    · subst ha; rw [upd_same] at e; cases e; exact hH
    · rw [upd_ne ha] at e; exact A.fine.le a o e
  · by_cases ha : a = p
    · subst ha; rw [hH] at e; cases e; exact upd_same
    · rw [upd_ne ha]; exact A.fine.tup a o e k
  · have ha : q ≠ p := fun z => hf (z ▸ hq)
    rw [upd_ne ha]; exact (A.fresh q hq).1
end
/-- what stands between two turns of a comprehension -/
structure LcAt (E : Wd) (B : Bs) (c : Env) (σ : L2.St) (fp : List Addr) (G1 : Hp) (p : Addr) (es : List D) (H : Hp) : Prop where
  ex : ∃ G' vs, Same G1 G' ∧ Abs E B G' H c σ fp ∧ H p = some (.lst vs) ∧ G' p = none ∧ RpL E G' vs es
theorem wipe1 (σ : L2.St) (i : Nat) : wipe σ [i] = σ.set i none := rfl
theorem noX_eq {α : Type} {r : R α} {a : α} (h : noX r = .ok a) : r = .ok a := by
  cases r with
  | ok b => exact h
  | ex e => cases h
  | stuck => cases h
theorem bind_ok_eq {α β : Type} {r : R α} {f : α → R β} {b : β} (h : (r >>= f) = .ok b) : ∃ a, r = .ok a ∧ f a = .ok b := by
  cases r with
  | ok a => exact ⟨a, rfl, h⟩
  | ex e => cases h
  | stuck => cases h
section
variable {X : Cx} {W : WX} {pn : List Nat} {e elt : Expr} {ifs : List Expr} {pos : Pos} {wi : TI} {gs : Env → R (List D)} {t : Env → R Bool} {g : Env → R D} {i : Nat}
theorem tlc_of (K : PySem.W.Frag) (mg : Str → Option Value) (hX : X.K = K) (hmg : X.mg = mg) {tg : Expr} {b : Bool} (ha : PSrc X W b tg e wi gs) {B : Bs} {G H : Hp} {c : Env} {σ : L2.St} {fp : List Addr} {Q : VK} {P : List D → Prop} (A : Abs ⟨X.K, X.mg, X.w⟩ B G H c σ fp) (q : Res ⟨X.K, X.mg, X.w⟩ W B c σ fp G H (eLcs gs t g i c) P)
    (k : ∀ es G1 H1 p, Same G G1 → Same H H1 → H p = none → p ∉ fp → B.H0 p = none → LcAt ⟨X.K, X.mg, X.w⟩ B c σ fp G1 p es H1 → P es → Q (.ref p) H1) : tLc wi (gName i) (TXT ⟨X.K, X.mg, X.w⟩ W0 t) (TX ⟨X.K, X.mg, X.w⟩ W0 true g) [i] σ H Q := by
  refine ha.run (P := fun ds => Res ⟨X.K, X.mg, X.w⟩ W B c σ fp G H (compL t g i c ds >>= fun es => if es.length ≤ 16777216 then R.ok es else .stuck) P) A ?_ fun ds G1 H1 J eds s1 t1 A1 w q1 => ?_
  · unfold eLcs at q
    cases h : gs c with
    | ok ds => rw [h] at q; exact q
    | ex x => rw [h] at q; exact q
    | stuck => rw [h] at q; exact q
  · intro p hp
    cases hes : compL t g i c ds with
    | stuck => rw [hes] at q1; exact q1.elim
    | ex x =>
      exfalso
      have : ∀ ds x, compL t g i c ds ≠ .ex x := by
        intro ds
        induction ds with
        | nil => intro x z; cases z
        | cons d ds ih =>
          intro x z
          rw [compL] at z
          cases ht : t (c.set i (some (.v d))) with
          | ok b =>
            rw [ht] at z
            simp only [noX_ok, ok_bind] at z
            split at z
            · cases hg : g (c.set i (some (.v d))) with
              | ok y =>
                rw [hg] at z
                simp only [noX_ok, ok_bind] at z
                cases hc : compL t g i c ds with
                | ok ys => rw [hc] at z; cases z
                | ex y => exact ih y hc
                | stuck => rw [hc] at z; cases z
              | ex y => rw [hg] at z; cases z
              | stuck => rw [hg] at z; cases z
            · exact ih x z
          | ex y => rw [ht] at z; cases z
          | stuck => rw [ht] at z; cases z
      exact this ds x hes
    | ok tot =>
      rw [hes] at q1
      by_cases hl : tot.length ≤ 16777216
      · have q2 : Res ⟨X.K, X.mg, X.w⟩ W B c σ fp G H (if tot.length ≤ 16777216 then R.ok tot else .stuck) P := q1
        rw [if_pos hl] at q2
        have pf : p ∉ fp := fun z => A1.cells.there p z hp
        have p0 : B.H0 p = none := A1.fine.there p hp
        refine ⟨fun j m H => m = ds.length - j ∧ j ≤ ds.length ∧ Same H1 (fun a => if a = p then H1 a else H a) ∧ ∃ es rest, LcAt ⟨X.K, X.mg, X.w⟩ B c σ fp G1 p es H ∧ compL t g i c (ds.drop j) = .ok rest ∧ es ++ rest = tot,
          ⟨ds.length, by simp, Nat.zero_le _, fun a o e => ?_, [], tot, ⟨G1, [], Same.refl _, A1.newO hp rfl, upd_same, A1.fine.fresh hp, .nil⟩, hes, rfl⟩, ?_⟩
        · have hne : a ≠ p := ne_of_none e hp
          show (if a = p then H1 a else upd H1 p (.lst []) a) = some o
          rw [if_neg hne, upd_ne hne]; exact e
        · rintro j m H2 ⟨rfl, hj, sm, es, rest, ⟨G2, vs, s2, A2, hD, gD, r2⟩, hc, htot⟩
          have ws : Same (vw b G1 H1) H2 := by
            cases b with
            | true => exact s2.trans A2.fine.le
            | false =>
              intro a o e
              have e : H1 a = some o := e
              have z := sm a o e
              have z : (if a = p then H1 a else H2 a) = some o := z
              rw [if_neg (ne_of_none e hp)] at z
              exact z
          by_cases hlt : j < ds.length
          · refine .inr ⟨w.go j H2 ws hlt, fun H' => j + 1 ≤ ds.length ∧ Same H1 (fun a => if a = p then H1 a else H' a) ∧ ∃ es rest, LcAt ⟨X.K, X.mg, X.w⟩ B c σ fp G1 p es H' ∧ compL t g i c (ds.drop (j + 1)) = .ok rest ∧ es ++ rest = tot, fun H' ⟨h1, h2, h3⟩ => ⟨_, by omega, rfl, h1, h2, h3⟩, fun x H3 y => ?_⟩
            obtain ⟨rfl, hr⟩ := w.yl j H2 x H3 ws y
            have hd := List.getElem?_eq_getElem hlt
            rw [drop_cons hd, compL] at hc
            obtain ⟨tb, ht, hc⟩ := bind_ok_eq hc
            have ht := noX_eq ht
            have hsig : (wipe σ [i]).set i (some x) = σ.set i (some x) := by rw [wipe1, List.set_set]
            show (fun σ2 H2 => wipe σ2 [i] = wipe σ [i] ∧ _) ((wipe σ [i]).set i (some x)) H3
            rw [hsig]
            refine ⟨by rw [wipe1, wipe1, List.set_set], ?_⟩
            obtain ⟨B', fr, A3, back⟩ := A2.enter (i := i) ((hr _ hd).mono s2)
            refine ⟨B', G2, _, fr, A3, ?_⟩
            rw [ht]
            intro G4 H4 s4 t4 A4
            have smn : ∀ {Hx Hy : Hp}, Same H1 (fun a => if a = p then H1 a else Hx a) → Same Hx Hy → Same H1 (fun a => if a = p then H1 a else Hy a) := fun {Hx Hy} h1 h2 a o e => by
              have z := h1 a o e
              by_cases hap : a = p
              · show (if a = p then H1 a else Hy a) = some o
                rw [if_pos hap]; exact e
              · have z : (if a = p then H1 a else Hx a) = some o := z
                rw [if_neg hap] at z
                show (if a = p then H1 a else Hy a) = some o
                rw [if_neg hap]; exact h2 a o z
            cases tb with
            | false =>
              rw [if_neg (by decide)]
              have hc : compL t g i c (ds.drop (j + 1)) = .ok rest := hc
              obtain ⟨A5, gr⟩ := back G4 H4 _ _ _ s4 t4 A4
              exact ⟨hlt, smn sm t4, es, rest, ⟨G4, vs, s2.trans s4, A5, t4 p _ hD, gr p (by rw [hD]; exact fun z => nomatch z) gD, r2.mono s4⟩, hc, htot⟩
            | true =>
              rw [if_pos rfl]
              have hc : (noX (g (c.set i (some (.v ds[j])))) >>= fun x => compL t g i c (ds.drop (j + 1)) >>= fun xs => R.ok (x :: xs)) = .ok rest := hc
              obtain ⟨x1, hg, hc⟩ := bind_ok_eq hc
              have hg := noX_eq hg
              obtain ⟨xs, hxs, hc⟩ := bind_ok_eq hc
              cases hc
              refine ⟨B', G4, _, fr, A4, ?_⟩
              rw [hg]
              intro v5 G5 H5 s5 t5 A5 r5
              obtain ⟨A6, gr⟩ := back G5 H5 _ _ _ (s4.trans s5) (t4.trans t5) A5
              have hD5 : H5 p = some (.lst vs) := t5 p _ (t4 p _ hD)
              have g5 : G5 p = none := gr p (by rw [hD]; exact fun z => nomatch z) gD
              have hvl : vs.length = es.length := r2.length
              have hle : es.length < tot.length := by rw [← htot]; simp
              refine ⟨vs, hD5, by rw [hvl, sizeLine_eq]; omega, hlt, fun a o e => ?_, es ++ [x1], xs, ⟨G5, vs ++ [v5], s2.trans (s4.trans s5), A6.pokeOut pf g5 p0 rfl, upd_same, g5, (r2.mono (s4.trans s5)).append (.cons r5 .nil)⟩, hxs, by rw [← htot]; simp⟩
              have z := smn (smn sm t4) t5 a o e
              by_cases hap : a = p
              · show (if a = p then H1 a else _) = some o
                rw [if_pos hap]; exact e
              · have z : (if a = p then H1 a else H5 a) = some o := z
                rw [if_neg hap] at z
                show (if a = p then H1 a else upd H5 p _ a) = some o
                rw [if_neg hap, upd_ne hap]; exact z
          · have ej : j = ds.length := by omega
            subst ej
            rw [List.drop_length] at hc
            cases hc
            rw [List.append_nil] at htot
            subst htot
            have smH : Same H H2 := fun a o e => by
              have e1 := t1 a o e
              have z := sm a o e1
              have z : (if a = p then H1 a else H2 a) = some o := z
              rw [if_neg (ne_of_none e1 hp)] at z
              exact z
            exact .inl ⟨w.st _ H2 ws (Nat.le_refl _), k es G1 H2 p s1 smH (t1.free hp) pf p0 ⟨G2, vs, s2, A2, hD, gD, r2⟩ q2⟩
      · have q2 : Res ⟨X.K, X.mg, X.w⟩ W B c σ fp G H (if tot.length ≤ 16777216 then R.ok tot else .stuck) P := q1
        rw [if_neg hl] at q2
        exact q2.elim

theorem lc_fin {B : Bs} {c : Env} {σ : L2.St} {fp : List Addr} {G G1 H H1 : Hp} {Q : VK} {p : Addr} {es : List D} (s : Same G G1) (t : Same H H1) (pf : p ∉ fp) (p0 : B.H0 p = none) (l : LcAt ⟨X.K, X.mg, X.w⟩ B c σ fp G1 p es H1) (q : Post ⟨X.K, X.mg, X.w⟩ B c σ fp G H true Q (.lst es)) : Q (.ref p) H1 := by
  obtain ⟨G2, vs, s2, A2, hD, gD, r2⟩ := l
  have A3 := A2.know pf gD p0 hD
  exact q _ _ _ (s.trans (s2.trans (same_upd gD))) t A3 (.lst (.inl (.inl upd_same)) (r2.mono (same_upd gD)))
theorem lc_finO {B : Bs} {c : Env} {σ : L2.St} {fp : List Addr} {G G1 H H1 : Hp} {Q : VK} {p : Addr} {es : List D} (s : Same G G1) (t : Same H H1) (hp : H p = none) (l : LcAt ⟨X.K, X.mg, X.w⟩ B c σ fp G1 p es H1) (q : PostF ⟨X.K, X.mg, X.w⟩ B c σ fp G H Q (.lst (es.map O.v))) : Q (.ref p) H1 := by
  obtain ⟨G2, vs, s2, A2, hD, gD, r2⟩ := l
  refine q _ _ _ [p] (s.trans s2) t A2 (.lst hD (ownL_v r2)) (by simp) fun a ha => ?_
  have : a = p := by simpa using ha
  subst this
  exact ⟨hp, gD⟩
theorem tlc_v {tg : Expr} {b : Bool} (ha : PSrc X W b tg e wi gs) : ∀ σ H Q, TX ⟨X.K, X.mg, X.w⟩ W true (eLc gs t g i) σ H Q → tLc wi (gName i) (TXT ⟨X.K, X.mg, X.w⟩ W0 t) (TX ⟨X.K, X.mg, X.w⟩ W0 true g) [i] σ H Q := fun σ H Q ⟨B, G, c, fp, A, q⟩ => by
  refine tlc_of X.K X.mg rfl rfl ha A (P := fun es => Post ⟨X.K, X.mg, X.w⟩ B c σ fp G H true Q (.lst es)) ?_ fun es G1 H1 p s1 t1 hp pf p0 l q1 => lc_fin s1 t1 pf p0 l q1
  unfold eLc at q
  cases h : eLcs gs t g i c with
  | ok es => rw [h] at q; exact q
  | ex x => rw [h] at q; exact q
  | stuck => rw [h] at q; exact q
theorem tlc_o {tg : Expr} {b : Bool} (ha : PSrc X W b tg e wi gs) : ∀ σ H Q, TF ⟨X.K, X.mg, X.w⟩ W (eLcO gs t g i) σ H Q → tLc wi (gName i) (TXT ⟨X.K, X.mg, X.w⟩ W0 t) (TX ⟨X.K, X.mg, X.w⟩ W0 true g) [i] σ H Q := fun σ H Q ⟨B, G, c, fp, A, q⟩ => by
  refine tlc_of X.K X.mg rfl rfl ha A (P := fun es => PostF ⟨X.K, X.mg, X.w⟩ B c σ fp G H Q (.lst (es.map O.v))) ?_ fun es G1 H1 p s1 t1 hp pf p0 l q1 => lc_finO s1 t1 hp l q1
  unfold eLcO at q
  cases h : eLcs gs t g i c with
  | ok es => rw [h] at q; exact q
  | ex x => rw [h] at q; exact q
  | stuck => rw [h] at q; exact q
section
variable {x y : Str} {p py : Pos} {scope : Scope} {spos : Pos}
theorem px_lc (i : Nat) (hc : X.calm = true) (hN : X.N.Nodup) {b : Bool} (ha : PSrc X W b (.Name x p) e wi gs) (ok : BlkOk X.N X.env.scope scope [(x, i)])
    (hg : ∀ (s : Shared) (H : Hp) (C : Addr) (cl : List (Str × Addr)) (fp : List Addr), PG (X.blk s H scope (compEnvC scope cl C X.env) fp) (.Name x p) (gName i)) (ht : ∀ (s : Shared) (H : Hp) (C : Addr) (cl : List (Str × Addr)) (fp : List Addr), PXTs (X.blk s H scope (compEnvC scope cl C X.env) fp) ifs t)
    (he : ∀ (s : Shared) (H : Hp) (C : Addr) (cl : List (Str × Addr)) (fp : List Addr), PX (X.blk s H scope (compEnvC scope cl C X.env) fp) W0 true elt g) (hs : ∀ z, foldedSetIterable e X.env z = pure z := by intro _; rfl) :
    PX X W true (.ListComp elt [⟨.Name x p, e, ifs, 0⟩] scope pos) (eLc gs t g i) := pe_mono (pe_lc (own := [(x, i)]) (tt := TXT ⟨X.K, X.mg, X.w⟩ W0 t) (te := TX ⟨X.K, X.mg, X.w⟩ W0 true g) hc hN ha.pi ok hg ht he hs) (tlc_v ha)
theorem pf_lc (i : Nat) (hc : X.calm = true) (hN : X.N.Nodup) {b : Bool} (ha : PSrc X W b (.Name x p) e wi gs) (ok : BlkOk X.N X.env.scope scope [(x, i)])
    (hg : ∀ (s : Shared) (H : Hp) (C : Addr) (cl : List (Str × Addr)) (fp : List Addr), PG (X.blk s H scope (compEnvC scope cl C X.env) fp) (.Name x p) (gName i)) (ht : ∀ (s : Shared) (H : Hp) (C : Addr) (cl : List (Str × Addr)) (fp : List Addr), PXTs (X.blk s H scope (compEnvC scope cl C X.env) fp) ifs t)
    (he : ∀ (s : Shared) (H : Hp) (C : Addr) (cl : List (Str × Addr)) (fp : List Addr), PX (X.blk s H scope (compEnvC scope cl C X.env) fp) W0 true elt g) (hs : ∀ z, foldedSetIterable e X.env z = pure z := by intro _; rfl) :
    PF X W (.ListComp elt [⟨.Name x p, e, ifs, 0⟩] scope pos) (eLcO gs t g i) := pe_mono (pe_lc (own := [(x, i)]) (tt := TXT ⟨X.K, X.mg, X.w⟩ W0 t) (te := TX ⟨X.K, X.mg, X.w⟩ W0 true g) hc hN ha.pi ok hg ht he hs) (tlc_o ha)
/-- y = [..] -/
theorem pxs_setLc (k i : Nat) (hc : X.calm = true) (hN : X.N.Nodup) (hsw : swapsWith (.ListComp elt [⟨.Name x p, e, ifs, 0⟩] scope pos) (some (.Name y py)) spos.line X.env = pure true) {b : Bool} (ha : PSrc X W b (.Name x p) e wi gs) (ok : BlkOk X.N X.env.scope scope [(x, i)])
    (hg : ∀ (s : Shared) (H : Hp) (C : Addr) (cl : List (Str × Addr)) (fp : List Addr), PG (X.blk s H scope (compEnvC scope cl C X.env) fp) (.Name x p) (gName i)) (ht : ∀ (s : Shared) (H : Hp) (C : Addr) (cl : List (Str × Addr)) (fp : List Addr), PXTs (X.blk s H scope (compEnvC scope cl C X.env) fp) ifs t)
    (he : ∀ (s : Shared) (H : Hp) (C : Addr) (cl : List (Str × Addr)) (fp : List Addr), PX (X.blk s H scope (compEnvC scope cl C X.env) fp) W0 true elt g) (hy : X.N[k]? = some y := by rfl) (hyl : X.env.scope.names.lookup y = some .local := by rfl) (hi : k ∉ pn := by decide) (hs : ∀ z, foldedSetIterable e X.env z = pure z := by intro _; rfl) :
    PXS X W pn (.Assign [.Name y py] (.ListComp elt [⟨.Name x p, e, ifs, 0⟩] scope pos) spos) (sSet k (eLc gs t g i)) :=
  ps_mono (ps_setLc (own := [(x, i)]) (tt := TXT ⟨X.K, X.mg, X.w⟩ W0 t) (te := TX ⟨X.K, X.mg, X.w⟩ W0 true g) hc hN hy hyl hsw ha.pi ok hg ht he hs) fun Dn σ H ⟨B, G, c, fp, A, P, q⟩ => tlc_v ha σ H _ (tx_st A q fun d e v G1 H1 s1 t1 A1 r1 q1 => by
    obtain ⟨fr, A2⟩ := A1.setV (i := k) r1 (P.ne hi)
    exact q1 _ G1 H1 fr (Same.refl _) A2)
theorem pxs_setLcO (k i : Nat) (hc : X.calm = true) (hN : X.N.Nodup) (hsw : swapsWith (.ListComp elt [⟨.Name x p, e, ifs, 0⟩] scope pos) (some (.Name y py)) spos.line X.env = pure true) {b : Bool} (ha : PSrc X W b (.Name x p) e wi gs) (ok : BlkOk X.N X.env.scope scope [(x, i)])
    (hg : ∀ (s : Shared) (H : Hp) (C : Addr) (cl : List (Str × Addr)) (fp : List Addr), PG (X.blk s H scope (compEnvC scope cl C X.env) fp) (.Name x p) (gName i)) (ht : ∀ (s : Shared) (H : Hp) (C : Addr) (cl : List (Str × Addr)) (fp : List Addr), PXTs (X.blk s H scope (compEnvC scope cl C X.env) fp) ifs t)
    (he : ∀ (s : Shared) (H : Hp) (C : Addr) (cl : List (Str × Addr)) (fp : List Addr), PX (X.blk s H scope (compEnvC scope cl C X.env) fp) W0 true elt g) (hy : X.N[k]? = some y := by rfl) (hyl : X.env.scope.names.lookup y = some .local := by rfl) (hi : k ∉ pn := by decide) (hs : ∀ z, foldedSetIterable e X.env z = pure z := by intro _; rfl) :
    PXS X W pn (.Assign [.Name y py] (.ListComp elt [⟨.Name x p, e, ifs, 0⟩] scope pos) spos) (sSetO k (eLcO gs t g i)) :=
  ps_mono (ps_setLc (own := [(x, i)]) (tt := TXT ⟨X.K, X.mg, X.w⟩ W0 t) (te := TX ⟨X.K, X.mg, X.w⟩ W0 true g) hc hN hy hyl hsw ha.pi ok hg ht he hs) fun Dn σ H ⟨B, G, c, fp, A, P, q⟩ => tlc_o ha σ H _ (tf_st A q fun o e v G1 H1 fq s1 t1 A1 w n d q1 => by
    obtain ⟨fr, A2⟩ := set_fresh A1 (A.cells.there) A.fine.there w n d P hi
    exact q1 _ G1 H1 fr (Same.refl _) A2)
end
end
end VS

/-! VS: defs, calls, the law's end. -/
namespace VS
open PySem PySem.Spec PyProof.Rows L2

/-- a def's run: n names -/
def runF (n : Nat) (body : Env → Rs) (ds : List D) : R D :=
  match body (ds.map (fun d => some (O.v d)) ++ List.replicate (n - ds.length) none) with
  | .ok (.rt d) _ => .ok d
  | .ok .nx _ => .ok .non
  | .ex e _ => .ex e
  | _ => .stuck
def spM (E : Wd) (n : Nat) (m : List D → R D) : Sp := fun vs H Q Ex => ∃ G ds, vs.length = n ∧ Same G H ∧ (∀ a u, H a = some u → isT u = true → G a = some u) ∧ RpL E G vs ds ∧
  match m ds with
  | .ok d => ∀ v G' H', Same G G' → Same G' H' → Same H H' → (∀ a, H a ≠ none → G a = none → G' a = none) → (∀ a u, H' a = some u → isT u = true → G' a = some u) → Rp E G' v d → Q v H'
  | _ => False
abbrev FnM (P : Program) (w : World) (K : PySem.W.Frag) (mg : Str → Option Value) (base : Heap) (k : Nat) (f : Addr) (fd : FuncData) (ps : List Str) (m : List D → R D) : Prop := FnOk P w K mg base CX0 k f fd ps (spM ⟨K, mg, w⟩ ps.length m)
section
variable {E : Wd} {B : Bs} {G G' H H' : Hp} {c : Env} {σ : L2.St} {fp : List Addr}
theorem cells_none : ∀ (k : Nat), Cells E G H (List.replicate k none) (List.replicate k none) []
  | 0 => .nil
  | k + 1 => by
    rw [List.replicate_succ, List.replicate_succ]
    exact .no (cells_none k)
theorem cells_start (k : Nat) : ∀ {vs : List V} {ds : List D}, RpL E G vs ds → Cells E G H (ds.map (fun d => some (O.v d)) ++ List.replicate k none) (vs.map some ++ List.replicate k none) []
  | _, [], r => by cases r; exact cells_none k
  | _, d :: ds, r => by
    cases r with
    | cons h r => exact Cells.yes (fp := []) (fq := []) (.v h) (cells_start k r)
/-- behind a call: all that was known or owned stays -/
theorem Abs.call (A : Abs E B G H c σ fp) (s : Same G G') (t : Same H H') (l : Same G' H') (gr : ∀ a, H a ≠ none → G a = none → G' a = none) (tp : ∀ a u, H' a = some u → isT u = true → G' a = some u) : Abs E B G' H' c σ fp :=
  ⟨⟨fun a o e n => t a o (A.fine.base a o e n), fun a e => A.fine.there a (t.free e), fun a h1 h2 => gr a (fun z => h1 (A.fine.there a z)) (A.fine.x a h1 h2), l, tp⟩, A.cells.keep s (fun p _ u e => t p u e), A.nd,
    fun p hp => ⟨gr p (A.cells.there p hp) (A.fresh p hp).1, (A.fresh p hp).2⟩, A.pin⟩
end
section
variable {P : Program} {w : World} {K : PySem.W.Frag} {mg : Str → Option Value} {base : Heap}
/-- a def whose body is worth body -/
theorem fnm_of {x qual : Str} {st : Stmt} {f : Addr} {fd : FuncData} {N ps : List Str} {k : Nat} {body : Env → Rs} (F : Fun K x qual st f fd) (S : FnScope N ps (defScope st))
    (hbody : ∀ (cdv : Value) (A : Around) (outer : List PySem.Env) (s : Shared) (H : Hp) (E : XK), Room k (A.deeper (envOfC qual (defScope st) s.heap.objs.size f cdv)) → PXSs (cxOf CX0 P w K mg base N qual (defScope st) f cdv A outer s H E).nox W0 [] (defBody st) body) :
    FnM P w K mg base (k + 1) f fd ps (runF N.length body) := by
  refine F.ok S (fun vs H Q E h => ?_) (fun cdv A outer s H vs Q E hr h => ?_)
  · obtain ⟨_, _, h, _⟩ := h
    exact h
  · obtain ⟨G, ds, hl, sG, tp, r, q⟩ := h
    refine ⟨_, hbody cdv A outer s H E hr, ?_⟩
    have hvl : vs.length = ds.length := r.length
    refine ⟨⟨H, G, [], fun _ => False⟩, G, ds.map (fun d => some (O.v d)) ++ List.replicate (N.length - ds.length) none, [], ⟨⟨fun a o e _ => e, fun a e => e, fun a _ e => e, sG, tp⟩, ?_, List.nodup_nil, (fun p hp => nomatch hp), (fun q hq => nomatch hq)⟩, ⟨(fun q hq => nomatch hq), fun _ a z => z⟩, ?_⟩
    · unfold L2.start
      rw [hvl]
      exact cells_start _ r
    · unfold runF at q
      cases e : body (ds.map (fun d => some (O.v d)) ++ List.replicate (N.length - ds.length) none) with
      | ok fl c' =>
        rw [e] at q
        cases fl with
        | nx => exact fun σ' G' H' fp' s' A' => q .non G' H' s' A'.fine.le (fun a o e => A'.fine.base a o e fun z => z) A'.fine.x A'.fine.tup .non
        | bk => exact q.elim
        | ct => exact q.elim
        | rt d => exact fun v σ' G' H' fp' s' A' r' => q v G' H' s' A'.fine.le (fun a o e => A'.fine.base a o e fun z => z) A'.fine.x A'.fine.tup r'
      | ex x c' => rw [e] at q; exact q.elim
      | stuck => rw [e] at q; exact q.elim
/-- no word -/
theorem fnm_stuck {x qual : Str} {st : Stmt} {f : Addr} {fd : FuncData} {ps : List Str} {k : Nat} : FnM P w K mg base k f fd ps (fun _ => .stuck) :=
  ⟨fun vs H Q E h => h.choose_spec.choose_spec.1, fun A outer s H args us vs Q E hr e0 hb r h => by
    obtain ⟨G, ds, _, _, _, _, q⟩ := h
    exact q.elim⟩
theorem FnM.eq {f : Addr} {fd : FuncData} {ps : List Str} {k : Nat} {m m' : List D → R D} (F : FnM P w K mg base k f fd ps m) (h : m = m') : FnM P w K mg base k f fd ps m' := h ▸ F
end
section
variable {X : Cx} {W : WX} {k : Nat} {f : Addr} {fd : FuncData} {ps : List Str} {x : Str} {p pos : Pos} {e : Expr} {es : List Expr} {gs : Env → R (List D)} {m : List D → R D}
def eCall (m : List D → R D) (gs : Env → R (List D)) : Env → R D := fun c => gs c >>= fun ds => noX (m ds)
theorem call_true {B : Bs} {G H : Hp} {c : Env} {σ : L2.St} {fp : List Addr} {vs : List V} {ds : List D} {Q : VK} {Ex : XK} (F : FnM X.prog X.w X.K X.mg X.base k f fd ps m) (A : Abs ⟨X.K, X.mg, X.w⟩ B G H c σ fp) (r : RpL ⟨X.K, X.mg, X.w⟩ G vs ds) (hl : ds.length = ps.length)
    (q : Res ⟨X.K, X.mg, X.w⟩ W B c σ fp G H (noX (m ds)) (Post ⟨X.K, X.mg, X.w⟩ B c σ fp G H true Q)) : spM ⟨X.K, X.mg, X.w⟩ ps.length m vs H Q Ex := by
  refine ⟨G, ds, by rw [r.length]; exact hl, A.fine.le, A.fine.tup, r, ?_⟩
  cases e : m ds with
  | ok d =>
    rw [e] at q
    exact fun v G' H' s l t gr tp rv => q v G' H' s t (A.call s t l gr tp) rv
  | ex y => rw [e] at q; exact q
  | stuck => rw [e] at q; exact q
theorem call_false {B : Bs} {G H : Hp} {c : Env} {σ : L2.St} {fp : List Addr} {vs : List V} {ds : List D} {Q : VK} {Ex : XK} (F : FnM X.prog X.w X.K X.mg X.base k f fd ps m) (A : Abs ⟨X.K, X.mg, X.w⟩ B G H c σ fp) (r : RpL ⟨X.K, X.mg, X.w⟩ H vs ds) (hl : ds.length = ps.length)
    (q : Res ⟨X.K, X.mg, X.w⟩ W B c σ fp G H (noX (m ds)) (Post ⟨X.K, X.mg, X.w⟩ B c σ fp G H false Q)) : spM ⟨X.K, X.mg, X.w⟩ ps.length m vs H Q Ex := by
  refine ⟨H, ds, by rw [r.length]; exact hl, Same.refl _, fun _ _ e _ => e, r, ?_⟩
  cases e : m ds with
  | ok d =>
    rw [e] at q
    intro v G' H' s l t gr tp rv
    let G2 : Hp := fun a => if H a = none then G' a else G a
    have g1 : ∀ a, H a = none → G2 a = G' a := fun a h => if_pos h
    have g2 : ∀ a, H a ≠ none → G2 a = G a := fun a h => if_neg h
    have ne : ∀ a o, H a = some o → H a ≠ none := fun a o h z => by rw [h] at z; cases z
    refine q v G2 H' (fun a o ha => ?_) t (A.call (fun a o ha => ?_) t (fun a o ha => ?_) (fun a h1 h2 => ?_) fun a u h1 h2 => ?_) (rv.mono l)
    · rw [g2 a (ne a o (A.fine.le a o ha))]; exact ha
    · rw [g2 a (ne a o (A.fine.le a o ha))]; exact ha
    · by_cases h : H a = none
      · rw [g1 a h] at ha; exact l a o ha
      · rw [g2 a h] at ha; exact t a o (A.fine.le a o ha)
    · rw [g2 a h1]; exact h2
    · by_cases h : H a = none
      · rw [g1 a h]; exact tp a u h1 h2
      · rw [g2 a h]
        cases hh : H a with
        | none => exact absurd hh h
        | some o =>
          have := t a o hh
          rw [h1] at this
          cases this
          exact A.fine.tup a u hh h2
  | ex y => rw [e] at q; exact q
  | stuck => rw [e] at q; exact q
/-- how many arguments -/
def eArgs (n : Nat) (gs : Env → R (List D)) : Env → R (List D) := fun c => gs c >>= fun ds => if ds.length = n then .ok ds else .stuck
theorem px_call (F : FnM X.prog X.w X.K X.mg X.base k f fd ps m) (hr : Room k X.A) (hm : X.mg x = some (.ref f)) (hk : PySem.W.keepIn X.K (.ref f) = true) (hb : Binds X.K fd ps []) (ha : PXA X W true (e :: es) gs) (hn : ∀ c ds, gs c = .ok ds → ds.length = ps.length) (hg : Gl X x := by rfl)
    (hdb : (x == ("__debug__" : Str)) = false := by decide) (he : starEach (e :: es) X.env = (false, eval e X.env) :: starEach es X.env := by rfl) (hpl : (backTo pos (starEach es X.env)).any (·.1) = false := by rfl) :
    PX X W true (.Call (.Name x p) (e :: es) [] pos) (eCall m gs) :=
  pe_mono (pe_call F hr hg hm hk hb .nil pass0 ha hdb he hpl) fun σ H Q ⟨B, G, c, fp, A, q⟩ => txa_seq A q fun ds e vs G1 H1 s1 t1 A1 r1 q1 => by
    rw [List.append_nil]
    exact call_true F A1 r1 (hn c ds e) (Res.grow (r := noX (m ds)) q1 (Same.refl _) (Same.refl _) fun d _ z => z.grow s1 t1)
theorem px_callL (F : FnM X.prog X.w X.K X.mg X.base k f fd ps m) (hr : Room k X.A) (hm : X.mg x = some (.ref f)) (hk : PySem.W.keepIn X.K (.ref f) = true) (hb : Binds X.K fd ps []) (ha : PXA X W false (e :: es) gs) (hn : ∀ c ds, gs c = .ok ds → ds.length = ps.length) (hg : Gl X x := by rfl)
    (hdb : (x == ("__debug__" : Str)) = false := by decide) (he : starEach (e :: es) X.env = (false, eval e X.env) :: starEach es X.env := by rfl) (hpl : (backTo pos (starEach es X.env)).any (·.1) = false := by rfl) :
    PX X W false (.Call (.Name x p) (e :: es) [] pos) (eCall m gs) :=
  pe_mono (pe_call F hr hg hm hk hb .nil pass0 ha hdb he hpl) fun σ H Q ⟨B, G, c, fp, A, q⟩ => txa_seq A q fun ds e vs G1 H1 s1 t1 A1 r1 q1 => by
    rw [List.append_nil]
    exact call_false F A1 r1 (hn c ds e) (Res.grow (r := noX (m ds)) q1 (Same.refl _) (Same.refl _) fun d _ z => z.grow s1 t1)
theorem px_call0 (F : FnM X.prog X.w X.K X.mg X.base k f fd [] m) (hr : Room k X.A) (hm : X.mg x = some (.ref f)) (hk : PySem.W.keepIn X.K (.ref f) = true) (hb : Binds X.K fd [] []) (hg : Gl X x := by rfl)
    (hdb : (x == ("__debug__" : Str)) = false := by decide) :
    PX X W true (.Call (.Name x p) [] [] pos) (eCall m eNil) :=
  pe_mono (pe_call0 F hr hg hm hk hb .nil pass0 hdb) fun σ H Q ⟨B, G, c, fp, A, q⟩ => call_true (Ex := E0) F A .nil rfl q
end
theorem len_nil {c : Env} {ds : List D} (h : eNil c = .ok ds) : ds.length = 0 := by cases h; rfl
theorem len_cons {c : Env} {g : Env → R D} {gs : Env → R (List D)} {n : Nat} (k : ∀ ds, gs c = .ok ds → ds.length = n) {ds : List D} (h : eCons g gs c = .ok ds) : ds.length = n + 1 := by
  unfold eCons at h
  obtain ⟨d, _, h⟩ := bind_ok_eq h
  obtain ⟨es, h1, h⟩ := bind_ok_eq h
  cases h
  simp [k es h1]
/-- the law's own promise, of its run -/
theorem law_sp {K : PySem.W.Frag} {mg : Str → Option Value} {w : World} {m : List D → R D} (hm : ∀ ns : List Int, ns.length ≤ 63 → m [.lst (ns.map D.int)] = .ok (.bl true)) {H : Hp} {a : Addr} {ns : List Int} (hl : ns.length ≤ 63) (hO : Only H) (hS : SqL K H a (ns.map V.int)) :
    spM ⟨K, mg, w⟩ 1 m [.ref a] H (fun v _ => v = .bl true) fun _ _ _ => False := by
  refine ⟨H, [.lst (ns.map D.int)], rfl, Same.refl _, fun _ _ e _ => e, .cons (.lst hS (RpL.ofInt ns)) .nil, ?_⟩
  rw [hm ns hl]
  intro v G' H' _ _ _ _ _ r
  exact r.blH
end VS

/-! VS: more rules. -/
namespace VS
open PySem PySem.Spec PyProof.Rows L2
section
variable {X : Cx} {W : WX} {pn : List Nat} {b b' b1 b2 b3 : Bool} {a e : Expr} {pos : Pos}
def eNeg (g : Env → R D) : Env → R D := fun c => g c >>= fun d => match d with
  | .int i => .ok (.int (-i))
  | _ => .stuck
theorem px_neg {g : Env → R D} (h : PX X W b a g) : PX X W true (.UnaryOp .USub a pos) (eNeg g) := pe_mono (pe_un un_neg h) fun σ H Q ⟨B, G, c, fp, A, q⟩ => tx_seq A q fun d e v G1 H1 s1 t1 A1 r1 q1 => by
  cases d with
  | int i => exact ⟨i, r1.intH, q1 _ G1 H1 s1 t1 A1 (.int _)⟩
  | _ => exact q1.elim
/-- a < b < c -/
def eChain (f k : D → D → Option D) (ga gb gc : Env → R D) : Env → R D := fun c => ga c >>= fun x => gb c >>= fun y => lift (f x y) >>= fun z => lift (asB z) >>= fun t => if t then gc c >>= fun u => lift (k y u) else .ok (.bl false)
theorem tx_chain {r r' : R2} {f k : D → D → Option D} (hr : Op2Ok ⟨X.K, X.mg, X.w⟩ r b1 b2 true f) (hr' : Op2Ok ⟨X.K, X.mg, X.w⟩ r' b2 b3 true k) {ga gb gc : Env → R D} : ∀ σ H Q, TX ⟨X.K, X.mg, X.w⟩ W true (eChain f k ga gb gc) σ H Q → tChain r r' (TX ⟨X.K, X.mg, X.w⟩ W b1 ga) (TX ⟨X.K, X.mg, X.w⟩ W b2 gb) (TX ⟨X.K, X.mg, X.w⟩ W b3 gc) σ H Q :=
  fun σ H Q ⟨B, G, c, fp, A, q⟩ => tx_seq A q fun d e v G1 H1 s1 t1 A1 r1 q1 => tx_seq A1 q1 fun d2 e2 v2 G2 H2 s2 t2 A2 r2 q2 => by
    cases hf : f d d2 with
    | none => rw [hf] at q2; exact q2.elim
    | some z =>
      rw [hf] at q2
      have q2 : Res ⟨X.K, X.mg, X.w⟩ W B c σ fp G2 H2 (lift (asB z) >>= fun t => if t then gc c >>= fun u => lift (k d2 u) else .ok (.bl false)) _ := q2
      cases hz : asB z with
      | none => rw [hz] at q2; exact q2.elim
      | some t =>
        rw [hz] at q2
        have q2 : Res ⟨X.K, X.mg, X.w⟩ W B c σ fp G2 H2 (if t = true then gc c >>= fun u => lift (k d2 u) else .ok (.bl false)) _ := q2
        refine hr A2 (vw_mono s2 t2 r1) r2 hf fun v3 G3 H3 s3 t3 A3 r3 => ?_
        refine ⟨t, asB_rp r3 hz, ?_⟩
        cases t with
        | true =>
          rw [if_pos rfl] at q2 ⊢
          refine tx_seq A3 (Res.grow (r := gc c >>= fun u => lift (k d2 u)) q2 s3 t3 fun _ _ z => z) fun d4 e4 v4 G4 H4 s4 t4 A4 r4 q4 => ?_
          obtain ⟨d5, e5, p5⟩ := Res.lift q4
          exact hr' A4 (vw_mono (s3.trans s4) (t3.trans t4) r2) r4 e5 (p5.grow (s1.trans (s2.trans (s3.trans s4))) (t1.trans (t2.trans (t3.trans t4))))
        | false =>
          rw [if_neg (by decide)] at q2 ⊢
          exact (show Post _ _ _ _ _ _ _ _ _ _ from q2) _ G3 H3 (s1.trans (s2.trans s3)) (t1.trans (t2.trans t3)) A3 (.bl _)
theorem px_chain {op op' : CmpOp} {r r' : R2} {f k : D → D → Option D} {eb ec : Expr} (ho : OpR X (compareOp op) r) (ho' : OpR X (compareOp op') r') (hr : Op2Ok ⟨X.K, X.mg, X.w⟩ r b1 b2 true f) (hr' : Op2Ok ⟨X.K, X.mg, X.w⟩ r' b2 b3 true k) {ga gb gc : Env → R D} (ha : PX X W b1 a ga) (hb : PX X W b2 eb gb) (hc : PX X W b3 ec gc) (hm : lastMarks [op, op'] [eb, ec] = false := by with_unfolding_all rfl) :
    PX X W true (.Compare a [op, op'] [eb, ec] pos) (eChain f k ga gb gc) := pe_mono (pe_chain ho ho' ha hb hc hm) (tx_chain hr hr')
theorem pxt_chain {op op' : CmpOp} {r r' : R2} {f k : D → D → Option D} {eb ec : Expr} (ho : OpR X (compareOp op) r) (ho' : OpR X (compareOp op') r') (hr : Op2Ok ⟨X.K, X.mg, X.w⟩ r b1 b2 true f) (hr' : Op2Ok ⟨X.K, X.mg, X.w⟩ r' b2 b3 true k) {ga gb gc : Env → R D} (ha : PX X W b1 a ga) (hb : PX X W b2 eb gb) (hc : PX X W b3 ec gc) (hm : lastMarks [op, op'] [eb, ec] = false := by with_unfolding_all rfl) :
    PXT X W (.Compare a [op, op'] [eb, ec] pos) (eB (eChain f k ga gb gc)) := pt_mono (pt_chain ho ho' ha hb hc hm) fun σ H Q q => tx_chain hr hr' σ H _ (tx_test (b := true) σ H Q q)

/-! ### an item of what a name owns -/
def ixO (o : O) (k : D) : Option D :=
  match o, k with
  | .lst os, .int k => (atI os k).bind fun o => match o with
    | .v d => some d
    | _ => none
  | .v d, k => opIx true d k
  | _, _ => none
def eIxo (i : Nat) (gb : Env → R D) : Env → R D := fun c => match c[i]? with
  | some (some o) => gb c >>= fun k => lift (ixO o k)
  | _ => .stuck
theorem OwnL.get : ∀ {E : Wd} {G H : Hp} {vs : List V} {os : List O} {fp : List Addr} {j : Nat} {o : O}, OwnL E G H vs os fp → os[j]? = some o → ∃ v fq, vs[j]? = some v ∧ Own E G H v o fq
  | _, _, _, _, [], _, j, o, h, e => by simp at e
  | _, _, _, _, o' :: os, _, 0, o, h, e => by
    cases h with
    | cons h r => simp at e; subst e; exact ⟨_, _, rfl, h⟩
  | _, _, _, _, o' :: os, _, j + 1, o, h, e => by
    cases h with
    | cons h r =>
      obtain ⟨v, fq, e1, e2⟩ := OwnL.get (j := j) r (by simpa using e)
      exact ⟨v, fq, by simpa using e1, e2⟩
theorem px_ixo {x : Str} {p : Pos} (i : Nat) {eb : Expr} {gb : Env → R D} (hb : PX X W b eb gb) (hN : X.N[i]? = some x := by rfl) (hv : Vis X.env.scope x := by first | exact Or.inl rfl | exact Or.inr (Or.inl rfl) | exact Or.inr (Or.inr rfl)) (hd : (x == ("__debug__" : Str)) = false := by decide)
    (hcd : (x == ("__classdict__" : Str)) = false := by decide) (hs : PlainIx eb := by exact fun _ _ => rfl) : PX X W true (.Subscript (.Name x p) eb pos) (eIxo i gb) :=
  pe_mono (pe_ix ix_seq (pe_var hN hv hd hcd) hb hs) fun σ H Q ⟨B, G, c, fp, A, q⟩ => by
    unfold eIxo at q
    split at q
    · rename_i o e1
      obtain ⟨v, fq, h1, h2, _⟩ := A.cells.get e1
      refine ⟨v, h1, tx_seq A q fun k e3 w G1 H1 s1 t1 A1 r1 q1 => ?_⟩
      obtain ⟨d, e4, p4⟩ := Res.lift q1
      obtain ⟨v', fq', h1', h2', _⟩ := A1.cells.get e1
      rw [h1] at h1'
      cases h1'
      unfold ixO at e4
      split at e4
      · rename_i os k
        obtain ⟨o', e5, e6⟩ := Option.bind_eq_some_iff.mp e4
        cases h2' with
        | @lst a vs _ fq ha ho =>
          unfold atI at e5
          obtain ⟨j, e7, e8⟩ := Option.bind_eq_some_iff.mp e5
          obtain ⟨v8, f8, e9, e10⟩ := ho.get e8
          split at e6
          · cases e6
            cases e10 with
            | v rv =>
              refine .inl ⟨a, vs, k, v8, rfl, r1.intH, .inl (.inl ha), ?_, p4 _ G1 H1 s1 t1 A1 rv⟩
              unfold atI
              rw [ho.length, e7]
              exact e9
          · cases e6
      · rename_i dk
        cases h2' with
        | v rv => exact ok_ix (b := true) A1 rv r1 e4 (p4.grow s1 t1)
      · cases e4
    · exact q.elim
/-- an item at the loan's level -/
theorem ok_ixL : Op2Ok ⟨X.K, X.mg, X.w⟩ (rIx X.K) false b2 false (opIx true) := by
  intro B G H c σ fp x y dx dy d Q A rx ry e p
  unfold opIx at e
  split at e
  · rename_i ds i
    obtain ⟨d', hk, e⟩ := Option.bind_eq_some_iff.mp e
    simp at e
    subst e
    obtain ⟨a, vs, rfl, h1, r1⟩ := rx.lstH A.fine.le
    obtain ⟨v, hv, rv⟩ := r1.at hk
    exact .inl ⟨_, _, _, _, rfl, ry.intH, h1, hv, p.here A rv⟩
  · rename_i ds i
    obtain ⟨d', hk, e⟩ := Option.bind_eq_some_iff.mp e
    simp at e
    subst e
    obtain ⟨a, vs, rfl, h1, r1⟩ := rx.tupH A.fine.le
    obtain ⟨v, hv, rv⟩ := r1.at hk
    exact .inr (.inl ⟨_, _, _, _, rfl, ry.intH, h1, hv, p.here A rv⟩)
  · rename_i l i
    split at e
    · rename_i hl
      obtain ⟨z, hk, rfl⟩ := Option.map_eq_some_iff.mp e
      exact .inr (.inr ⟨_, _, z, rx.strH, ry.intH, by rw [S_len, sizeLine_eq]; exact hl, hk, p.here A (.str [z])⟩)
    · cases e
  · cases e
theorem px_ixL {eb : Expr} {ga gb : Env → R D} (ha : PX X W false a ga) (hb : PX X W b2 eb gb) (hs : PlainIx eb := by exact fun _ _ => rfl) : PX X W false (.Subscript a eb pos) (eOp2 (opIx true) ga gb) :=
  pe_mono (pe_ix ix_seq ha hb hs) (tx_op2 ok_ixL)
end
/-! ### a def by its name -/
structure Cal (P : Program) (w : World) (K : PySem.W.Frag) (mg : Str → Option Value) (base : Heap) (k : Nat) (x : Str) (ps : List Str) (m : List D → R D) : Prop where
  ex : ∃ f fd, FnM P w K mg base k f fd ps m ∧ mg x = some (.ref f) ∧ PySem.W.keepIn K (.ref f) = true ∧ L2.Binds K fd ps []
/-- where a def of the text stands -/
structure Def (K : PySem.W.Frag) (mg : Str → Option Value) (x : Str) (st : Stmt) : Prop where
  ex : ∃ f fd, Fun K x x st f fd ∧ mg x = some (.ref f)
section
variable {X : Cx} {W : WX} {k j : Nat} {ps : List Str} {x : Str} {p pos : Pos} {e : Expr} {es : List Expr} {gs : Env → R (List D)} {m : List D → R D}
theorem px_callC (C : Cal X.prog X.w X.K X.mg X.base k x ps m) (hr : Room j X.A) (hkj : k ≤ j) (ha : PXA X W true (e :: es) gs) (hn : ∀ c ds, gs c = .ok ds → ds.length = ps.length) (hg : Gl X x := by rfl)
    (hdb : (x == ("__debug__" : Str)) = false := by decide) (he : starEach (e :: es) X.env = (false, eval e X.env) :: starEach es X.env := by rfl) (hpl : (backTo pos (starEach es X.env)).any (·.1) = false := by rfl) :
    PX X W true (.Call (.Name x p) (e :: es) [] pos) (eCall m gs) := by
  obtain ⟨f, fd, F, hm, hk, hb⟩ := C.ex
  exact px_call F (hr.mono hkj) hm hk hb ha hn hg hdb he hpl
theorem px_callCL (C : Cal X.prog X.w X.K X.mg X.base k x ps m) (hr : Room j X.A) (hkj : k ≤ j) (ha : PXA X W false (e :: es) gs) (hn : ∀ c ds, gs c = .ok ds → ds.length = ps.length) (hg : Gl X x := by rfl)
    (hdb : (x == ("__debug__" : Str)) = false := by decide) (he : starEach (e :: es) X.env = (false, eval e X.env) :: starEach es X.env := by rfl) (hpl : (backTo pos (starEach es X.env)).any (·.1) = false := by rfl) :
    PX X W false (.Call (.Name x p) (e :: es) [] pos) (eCall m gs) := by
  obtain ⟨f, fd, F, hm, hk, hb⟩ := C.ex
  exact px_callL F (hr.mono hkj) hm hk hb ha hn hg hdb he hpl
theorem px_callC0 (C : Cal X.prog X.w X.K X.mg X.base k x [] m) (hr : Room j X.A) (hkj : k ≤ j) (hg : Gl X x := by rfl)
    (hdb : (x == ("__debug__" : Str)) = false := by decide) :
    PX X W true (.Call (.Name x p) [] [] pos) (eCall m eNil) := by
  obtain ⟨f, fd, F, hm, hk, hb⟩ := C.ex
  exact px_call0 F (hr.mono hkj) hm hk hb hg hdb
end
section
variable {P : Program} {w : World} {K : PySem.W.Frag} {mg : Str → Option Value} {base : Heap}
theorem cal_of {x : Str} {st : Stmt} {N ps : List Str} {k : Nat} {body : Env → Rs} (T : Def K mg x st) (S : FnScope N ps (defScope st))
    (hb : ∀ (kV doc pm : Value) (an : Option Addr) (cdv ct : Value) (us : List Value), us.length = ps.length → bindArgs (PySem.W.fnOf x x (defArgs st) (defBody st) (defScope st) .none kV doc pm an cdv ct) ⟨us, []⟩ = pure (ps.zip us))
    (hbody : ∀ (f : Addr) (cdv : Value) (A : Around) (outer : List PySem.Env) (s : Shared) (H : Hp) (E : XK), Room k (A.deeper (envOfC x (defScope st) s.heap.objs.size f cdv)) → PXSs (cxOf CX0 P w K mg base N x (defScope st) f cdv A outer s H E).nox W0 [] (defBody st) body) :
    Cal P w K mg base (k + 1) x ps (runF N.length body) := by
  obtain ⟨f, fd, F, g⟩ := T.ex
  exact ⟨f, fd, fnm_of F S (hbody f), g, F.kp, F.binds hb⟩
theorem Cal.mono {x : Str} {ps : List Str} {k j : Nat} {m : List D → R D} (C : Cal P w K mg base k x ps m) (h : k ≤ j) : Cal P w K mg base j x ps m := by
  obtain ⟨f, fd, F, g, kp, b⟩ := C.ex
  exact ⟨f, fd, F.mono h, g, kp, b⟩
/-- a def that is never called so deep -/
theorem cal_stuck {x : Str} {st : Stmt} {ps : List Str} {k : Nat} (T : Def K mg x st)
    (hb : ∀ (kV doc pm : Value) (an : Option Addr) (cdv ct : Value) (us : List Value), us.length = ps.length → bindArgs (PySem.W.fnOf x x (defArgs st) (defBody st) (defScope st) .none kV doc pm an cdv ct) ⟨us, []⟩ = pure (ps.zip us)) : Cal P w K mg base k x ps (fun _ => .stuck) := by
  obtain ⟨f, fd, F, g⟩ := T.ex
  exact ⟨f, fd, ⟨fun vs H Q E h => h.choose_spec.choose_spec.1, fun A outer s H args us vs Q E hr e0 hb r h => by
    obtain ⟨G, ds, _, _, _, _, q⟩ := h
    exact q.elim⟩, g, F.kp, F.binds hb⟩
end
end VS

/-! VS: reckoning with the worth of programs, in plain Lean. -/
namespace VS
open PySem PySem.Spec PyProof.Rows L2

/-! ### what the words are worth -/
@[simp] theorem eV_def (i : Nat) (c : Env) : eV i c = match c[i]? with | some (some (.v d)) => .ok d | _ => .stuck := (rfl)
@[simp] theorem eL_def (i : Nat) (c : Env) : eL i c = match c[i]? with | some (some o) => .ok o.toD | _ => .stuck := (rfl)
@[simp] theorem eC_def (d : D) (c : Env) : eC d c = .ok d := (rfl)
@[simp] theorem eNil_def (c : Env) : eNil c = .ok [] := (rfl)
@[simp] theorem eCons_def (g : Env → R D) (gs : Env → R (List D)) (c : Env) : eCons g gs c = g c >>= fun d => gs c >>= fun ds => .ok (d :: ds) := (rfl)
@[simp] theorem eFn_def (f : List D → Option D) (gs : Env → R (List D)) (c : Env) : eFn f gs c = gs c >>= fun ds => lift (f ds) := (rfl)
@[simp] theorem eFnO_def (f : List D → Option O) (gs : Env → R (List D)) (c : Env) : eFnO f gs c = gs c >>= fun ds => lift (f ds) := (rfl)
@[simp] theorem eOp2_def (f : D → D → Option D) (ga gb : Env → R D) (c : Env) : eOp2 f ga gb c = ga c >>= fun x => gb c >>= fun y => lift (f x y) := (rfl)
@[simp] theorem eB_def (g : Env → R D) (c : Env) : eB g c = g c >>= fun d => lift (asB d) := (rfl)
@[simp] theorem asB_bl (t : Bool) : asB (.bl t) = some t := (rfl)
@[simp] theorem eTru_def (g : Env → R D) (c : Env) : eTru g c = g c >>= fun d => lift (truD d) := (rfl)
@[simp] theorem truD_bl (t : Bool) : truD (.bl t) = some t := (rfl)
@[simp] theorem truD_non : truD .non = some false := (rfl)
@[simp] theorem truD_int (i : Int) : truD (.int i) = some (i != 0) := (rfl)
@[simp] theorem tAnd_def (g k : Env → R Bool) (c : Env) : tAnd' g k c = g c >>= fun t => if t then k c else .ok false := (rfl)
@[simp] theorem tOr_def (g k : Env → R Bool) (c : Env) : tOr' g k c = g c >>= fun t => if t then .ok true else k c := (rfl)
@[simp] theorem tNot_def (g : Env → R Bool) (c : Env) : tNot' g c = g c >>= fun t => .ok (!t) := (rfl)
@[simp] theorem tYes_def (c : Env) : tYes' c = .ok true := (rfl)
@[simp] theorem eAnd_def (ga gb : Env → R D) (c : Env) : eAnd ga gb c = ga c >>= fun d => lift (asB d) >>= fun t => if t then gb c else .ok (.bl false) := (rfl)
@[simp] theorem eOr_def (ga gb : Env → R D) (c : Env) : eOr ga gb c = ga c >>= fun d => lift (asB d) >>= fun t => if t then .ok (.bl true) else gb c := (rfl)
@[simp] theorem eNot_def (ga : Env → R D) (c : Env) : eNot ga c = ga c >>= fun d => lift (asB d) >>= fun t => .ok (.bl !t) := (rfl)
@[simp] theorem eIf_def (g : Env → R Bool) (ga gb : Env → R D) (c : Env) : eIf g ga gb c = g c >>= fun t => if t then ga c else gb c := (rfl)
@[simp] theorem eIs_def (T : Ty) (g : Env → R D) (c : Env) : eIs T g c = g c >>= fun d => lift ((isI T d).map D.bl) := (rfl)
@[simp] theorem eFlat_def (g : Env → R D) (c : Env) : eFlat g c = g c >>= fun d => if d.flat then .ok d else .stuck := (rfl)
@[simp] theorem eNeg_def (g : Env → R D) (c : Env) : eNeg g c = g c >>= fun d => match d with | .int i => .ok (.int (-i)) | _ => .stuck := (rfl)
@[simp] theorem eO_def (g : Env → R D) (c : Env) : eO g c = g c >>= fun d => match d with | .int i => .ok (some i) | _ => .stuck := (rfl)
@[simp] theorem eNoO_def (c : Env) : eNoO c = .ok none := (rfl)
@[simp] theorem eSl_def (b : Bool) (g : Env → R D) (gl gh : Env → R (Option Int)) (c : Env) : eSl b g gl gh c = g c >>= fun d => gl c >>= fun lo => gh c >>= fun hi => lift (opSl b d lo hi) := (rfl)
@[simp] theorem eMS_def (f : List Nat → List D → Option D) (g : Env → R D) (gs : Env → R (List D)) (c : Env) : eMS f g gs c = g c >>= fun d => lift (asS d) >>= fun l => gs c >>= fun ds => lift (f l ds) := (rfl)
@[simp] theorem asS_str (l : List Nat) : asS (.str l) = some l := (rfl)
@[simp] theorem eCall_def (m : List D → R D) (gs : Env → R (List D)) (c : Env) : eCall m gs c = gs c >>= fun ds => noX (m ds) := (rfl)
@[simp] theorem eIxo_def (i : Nat) (gb : Env → R D) (c : Env) : eIxo i gb c = match c[i]? with | some (some o) => gb c >>= fun k => lift (ixO o k) | _ => .stuck := (rfl)
@[simp] theorem eChain_def (f k : D → D → Option D) (ga gb gc : Env → R D) (c : Env) : eChain f k ga gb gc c = ga c >>= fun x => gb c >>= fun y => lift (f x y) >>= fun z => lift (asB z) >>= fun t => if t then gc c >>= fun u => lift (k y u) else .ok (.bl false) := (rfl)
@[simp] theorem eIt_def (b : Bool) (ga : Env → R D) (c : Env) : eIt b ga c = ga c >>= fun d => lift (asA b d) := (rfl)
@[simp] theorem eItR_def (ga gb : Env → R D) (c : Env) : eItR ga gb c = ga c >>= fun d => lift (asI d) >>= fun lo => gb c >>= fun d2 => lift (asI d2) >>= fun hi => .ok (rangeD lo hi) := (rfl)
@[simp] theorem eLc_def (gs : Env → R (List D)) (t : Env → R Bool) (g : Env → R D) (i : Nat) (c : Env) : eLc gs t g i c = eLcs gs t g i c >>= fun es => .ok (.lst es) := (rfl)
@[simp] theorem eLcO_def (gs : Env → R (List D)) (t : Env → R Bool) (g : Env → R D) (i : Nat) (c : Env) : eLcO gs t g i c = eLcs gs t g i c >>= fun es => .ok (.lst (es.map O.v)) := (rfl)
@[simp] theorem eLcs_def (gs : Env → R (List D)) (t : Env → R Bool) (g : Env → R D) (i : Nat) (c : Env) : eLcs gs t g i c = gs c >>= fun ds => compL t g i c ds >>= fun es => if es.length ≤ 16777216 then .ok es else .stuck := (rfl)
@[simp] theorem sNil_def (c : Env) : sNil c = .ok .nx c := (rfl)
@[simp] theorem sSeq_def (g k : Env → Rs) (c : Env) : sSeq g k c = match g c with | .ok .nx c' => k c' | r => r := (rfl)
@[simp] theorem sSet_def (i : Nat) (g : Env → R D) (c : Env) : sSet i g c = (g c).st c fun d => .ok .nx (c.set i (some (.v d))) := (rfl)
@[simp] theorem sSetO_def (i : Nat) (g : Env → R O) (c : Env) : sSetO i g c = (g c).st c fun o => .ok .nx (c.set i (some o)) := (rfl)
@[simp] theorem sRet_def (g : Env → R D) (c : Env) : sRet g c = (g c).st c fun d => .ok (.rt d) c := (rfl)
@[simp] theorem sRetN_def (c : Env) : sRetN c = .ok (.rt .non) c := (rfl)
@[simp] theorem sExpr_def (g : Env → R D) (c : Env) : sExpr g c = (g c).st c fun _ => .ok .nx c := (rfl)
@[simp] theorem sIf_def (t : Env → R Bool) (g k : Env → Rs) (c : Env) : sIf t g k c = (t c).st c fun b => if b then g c else k c := (rfl)
@[simp] theorem sBreak_def (c : Env) : sBreak c = .ok .bk c := (rfl)
@[simp] theorem sCont_def (c : Env) : sCont c = .ok .ct c := (rfl)
@[simp] theorem sApp_def (i : Nat) (g : Env → R D) (c : Env) : sApp i g c = (lift (atL i c)).st c fun os => (g c).st c fun d => if os.length < 16777216 then .ok .nx (c.set i (some (.lst (os ++ [.v d])))) else .stuck := (rfl)
@[simp] theorem sIxSet_def (i : Nat) (gi g : Env → R D) (c : Env) : sIxSet i gi g c = (g c).st c fun d => (lift (atL i c)).st c fun os => (gi c).st c fun k => match k with
  | .int k => (lift (ixN os.length k)).st c fun j => .ok .nx (c.set i (some (.lst (os.set j (.v d)))))
  | _ => .stuck := (rfl)
@[simp] theorem atL_def (i : Nat) (c : Env) : atL i c = match c[i]? with | some (some (.lst os)) => some os | _ => none := (rfl)
@[simp] theorem sFz_def (i : Nat) (g : Env → Rs) (c : Env) : sFz i g c = g (fz i c) := (rfl)
@[simp] theorem fz_def (i : Nat) (c : Env) : fz i c = match c[i]? with | some (some o) => c.set i (some (.v o.toD)) | _ => c := (rfl)
@[simp] theorem sFor_def (i : Nat) (gs : Env → R (List D)) (g : Env → Rs) (c : Env) : sFor i gs g c = (gs c).st c fun ds => forL i g ds c := (rfl)
@[simp] theorem toD_v (d : D) : (O.v d).toD = d := by rw [O.toD]
@[simp] theorem toD_lst (os : List O) : (O.lst os).toD = .lst (os.map O.toD) := by rw [O.toD, O.toDs_map]
@[simp] theorem map_toD_v (ds : List D) : (ds.map O.v).map O.toD = ds := by
  rw [List.map_map]
  have h : (O.toD ∘ O.v : D → D) = id := by funext x; rw [Function.comp_apply, O.toD, id]
  rw [h, List.map_id]
@[simp] theorem compToD {α : Type} (f : α → D) : O.toD ∘ (fun x => O.v (f x)) = f := by funext x; simp
@[simp] theorem compToD' : O.toD ∘ O.v = id := by funext x; simp
@[simp] theorem opAdd_int (b1 b2 : Bool) (i j : Int) : opAdd b1 b2 (.int i) (.int j) = some (.int (i + j)) := (rfl)
@[simp] theorem opAdd_str (b1 b2 : Bool) (x y : List Nat) : opAdd b1 b2 (.str x) (.str y) = if x.length + y.length ≤ 16777216 then some (.str (x ++ y)) else none := (rfl)
@[simp] theorem opAdd_lst (b1 b2 : Bool) (x y : List D) : opAdd b1 b2 (.lst x) (.lst y) = if x.length + y.length ≤ 16777216 ∧ okEl b1 x = true ∧ okEl b2 y = true then some (.lst (x ++ y)) else none := (rfl)
@[simp] theorem opSub_int (i j : Int) : opSub (.int i) (.int j) = some (.int (i - j)) := (rfl)
@[simp] theorem opMul_int (i j : Int) : opMul (.int i) (.int j) = if (-(2 ^ 64) < i ∧ i < 2 ^ 64) ∨ (-(2 ^ 64) < j ∧ j < 2 ^ 64) then some (.int (i * j)) else none := (rfl)
@[simp] theorem opMod_int (i j : Int) : opMod (.int i) (.int j) = if 0 < j then some (.int (i % j)) else none := (rfl)
@[simp] theorem opDiv_int (i j : Int) : opDiv (.int i) (.int j) = if 0 < j ∧ j < 1073741824 then some (.int (i / j)) else none := (rfl)
@[simp] theorem opRel_int (f : Int → Int → Bool) (i j : Int) : opRel f (.int i) (.int j) = some (.bl (f i j)) := (rfl)
@[simp] theorem opIs_non (d : D) : opIs d .non = some (.bl d.isNon) := (rfl)
@[simp] theorem opIsnt_non (d : D) : opIsnt d .non = some (.bl (!d.isNon)) := (rfl)
@[simp] theorem isNon_non : D.isNon .non = true := (rfl)
@[simp] theorem isNon_str (l : List Nat) : D.isNon (.str l) = false := (rfl)
@[simp] theorem isNon_int (i : Int) : D.isNon (.int i) = false := (rfl)
@[simp] theorem isNon_bl (i : Bool) : D.isNon (.bl i) = false := (rfl)
@[simp] theorem isNon_tup (i : List D) : D.isNon (.tup i) = false := (rfl)
@[simp] theorem isNon_lst (i : List D) : D.isNon (.lst i) = false := (rfl)
@[simp] theorem fLen_lst (ds : List D) : fLen [.lst ds] = some (.int ds.length) := (rfl)
@[simp] theorem fLen_tup (ds : List D) : fLen [.tup ds] = some (.int ds.length) := (rfl)
@[simp] theorem fLen_str (l : List Nat) : fLen [.str l] = if l.length ≤ 16777216 then some (.int l.length) else none := (rfl)
@[simp] theorem fAbs_int (i : Int) : fAbs [.int i] = some (.int (if i < 0 then -i else i)) := (rfl)
@[simp] theorem fInt_bl (t : Bool) : fInt [.bl t] = some (.int (if t then 1 else 0)) := (rfl)
@[simp] theorem fMin2_int (i j : Int) : fMin2 [.int i, .int j] = some (.int (if j < i then j else i)) := (rfl)
@[simp] theorem fMax2_int (i j : Int) : fMax2 [.int i, .int j] = some (.int (if j > i then j else i)) := (rfl)
@[simp] theorem fTuple_lst (b : Bool) (ds : List D) : fTuple b [.lst ds] = if okEl b ds then some (.tup ds) else none := (rfl)
@[simp] theorem fTuple_tup (b : Bool) (ds : List D) : fTuple b [.tup ds] = if okEl b ds then some (.tup ds) else none := (rfl)
@[simp] theorem fList_lst (b : Bool) (ds : List D) : fList b [.lst ds] = if okEl b ds then some (.lst ds) else none := (rfl)
@[simp] theorem fList_tup (b : Bool) (ds : List D) : fList b [.tup ds] = if okEl b ds then some (.lst ds) else none := (rfl)
@[simp] theorem fSum_lst (ds : List D) : fSum [.lst ds] = (asInts ds).map fun ns => .int ns.sum := (rfl)
@[simp] theorem opIx_lst (b : Bool) (ds : List D) (i : Int) : opIx b (.lst ds) (.int i) = (L2.atI ds i).bind fun d => if okE b d then some d else none := (rfl)
@[simp] theorem opIx_tup (b : Bool) (ds : List D) (i : Int) : opIx b (.tup ds) (.int i) = (L2.atI ds i).bind fun d => if okE b d then some d else none := (rfl)
@[simp] theorem opIx_str (b : Bool) (l : List Nat) (i : Int) : opIx b (.str l) (.int i) = if l.length ≤ 16777216 then (L2.atI l i).map fun x => .str [x] else none := (rfl)
@[simp] theorem opSl_lst (b : Bool) (ds : List D) (lo hi : Option Int) : opSl b (.lst ds) lo hi = if okEl b (cutD ds lo hi) then some (.lst (cutD ds lo hi)) else none := (rfl)
@[simp] theorem opSl_tup (b : Bool) (ds : List D) (lo hi : Option Int) : opSl b (.tup ds) lo hi = if okEl b (cutD ds lo hi) then some (.tup (cutD ds lo hi)) else none := (rfl)
@[simp] theorem opSl_str (b : Bool) (l : List Nat) (lo hi : Option Int) : opSl b (.str l) lo hi = if l.length ≤ 16777216 then some (.str (cutD l lo hi)) else none := (rfl)
@[simp] theorem ixO_lst (os : List O) (k : Int) : ixO (.lst os) (.int k) = (L2.atI os k).bind fun o => match o with | .v d => some d | _ => none := (rfl)
@[simp] theorem ixO_v (d k : D) : ixO (.v d) k = opIx true d k := by cases k <;> rfl
@[simp] theorem fLstO_def (ds : List D) : fLstO ds = if ds.length ≤ 16777216 then some (.lst (ds.map O.v)) else none := (rfl)
@[simp] theorem fLst_def (ds : List D) : fLst ds = if ds.length ≤ 16777216 then some (.lst ds) else none := (rfl)
@[simp] theorem fTup_def (ds : List D) : fTup ds = if ds.length ≤ 16777216 then some (.tup ds) else none := (rfl)
@[simp] theorem asA_lst (b : Bool) (ds : List D) : asA b (.lst ds) = if okEl b ds then some ds else none := (rfl)
@[simp] theorem asA_tup (b : Bool) (ds : List D) : asA b (.tup ds) = if okEl b ds then some ds else none := (rfl)
@[simp] theorem asA_str (b : Bool) (l : List Nat) : asA b (.str l) = if l.length ≤ 16777216 then some (l.map fun x => .str [x]) else none := (rfl)
@[simp] theorem asI_int (i : Int) : asI (.int i) = if -(2 ^ 62) ≤ i ∧ i < 2 ^ 62 then some i else none := (rfl)
@[simp] theorem fJoin_lst (l : List Nat) (ds : List D) : fJoin l [.lst ds] = (asSs ds).bind fun xs => if (xs.map List.length).sum + xs.length * l.length ≤ 16777216 then some (.str (TL.joinL l xs)) else none := (rfl)
@[simp] theorem compL_nil (t : Env → R Bool) (g : Env → R D) (i : Nat) (c : Env) : compL t g i c [] = .ok [] := (rfl)
theorem compL_cons (t : Env → R Bool) (g : Env → R D) (i : Nat) (c : Env) (d : D) (ds : List D) : compL t g i c (d :: ds) = (noX (t (c.set i (some (.v d)))) >>= fun b => if b then noX (g (c.set i (some (.v d)))) >>= fun x => compL t g i c ds >>= fun xs => .ok (x :: xs) else compL t g i c ds) := (rfl)
@[simp] theorem forL_nil (i : Nat) (g : Env → Rs) (c : Env) : forL i g [] c = .ok .nx c := (rfl)
theorem forL_cons (i : Nat) (g : Env → Rs) (d : D) (ds : List D) (c : Env) : forL i g (d :: ds) c = match g (c.set i (some (.v d))) with
    | .ok .nx c' => forL i g ds c'
    | .ok .ct c' => forL i g ds c'
    | .ok .bk c' => .ok .nx c'
    | r => r := (rfl)
theorem runF_def (n : Nat) (body : Env → Rs) (ds : List D) : runF n body ds = match body (ds.map (fun d => some (O.v d)) ++ List.replicate (n - ds.length) none) with
  | .ok (.rt d) _ => .ok d
  | .ok .nx _ => .ok .non
  | .ex e _ => .ex e
  | _ => .stuck := (rfl)

/-! ### places -/
theorem atI_ofNat {α : Type} (xs : List α) (k : Nat) : L2.atI xs (k : Int) = xs[k]? := by
  unfold L2.atI L2.ixN
  rw [if_pos (Int.natCast_nonneg k)]
  by_cases h : (k : Int) < xs.length
  · rw [if_pos h]; rfl
  · rw [if_neg h]
    have : xs.length ≤ k := by omega
    rw [List.getElem?_eq_none this]; rfl
theorem atI_pos {α : Type} (xs : List α) {i : Int} (h : 0 ≤ i) : L2.atI xs i = xs[i.toNat]? := by
  have := atI_ofNat xs i.toNat
  rwa [Int.toNat_of_nonneg h] at this
theorem ixN_pos {n : Nat} {i : Int} (h : 0 ≤ i) (k : i < n) : L2.ixN n i = some i.toNat := by
  unfold L2.ixN
  rw [if_pos h, if_pos k]
theorem sIx_nat' (n d k : Nat) : HT.sIx n d (some (k : Int)) = min k n := HT.sIx_nat n d k
theorem cut_nat {α : Type} (xs : List α) (i j : Nat) : cutD xs (some (i : Int)) (some (j : Int)) = (xs.drop (min i xs.length)).take (min j xs.length - min i xs.length) := by
  unfold cutD
  rw [HT.sIx_nat, HT.sIx_nat]
theorem cut_to {α : Type} (xs : List α) (j : Nat) : cutD xs none (some (j : Int)) = xs.take j := by
  unfold cutD
  rw [HT.sIx_nat, HT.sIx_none]
  simp
theorem cut_from {α : Type} (xs : List α) (i : Nat) : cutD xs (some (i : Int)) none = xs.drop i := by
  unfold cutD
  rw [HT.sIx_nat, HT.sIx_none]
  by_cases h : i ≤ xs.length
  · rw [Nat.min_eq_left h]
    exact List.take_of_length_le (by simp)
  · rw [Nat.min_eq_right (by omega)]
    simp
    omega
theorem rangeD_nat (n : Nat) : rangeD 0 (n : Int) = (List.range n).map fun (k : Nat) => D.int k := by
  unfold rangeD
  simp
/-! ### loops -/
/-- a loop whose turns all go on; slot i apart -/
theorem forL_inv (i : Nat) (g : Env → Rs) (ds : List D) (I : Nat → Env) (h : ∀ j d, ds[j]? = some d → ∃ c', g ((I j).set i (some (.v d))) = .ok .nx c' ∧ ∀ x, c'.set i x = (I (j + 1)).set i x) :
    ∃ x, forL i g ds (I 0) = .ok .nx ((I ds.length).set i x) := by
  have self : ∀ c : Env, ∃ x, c = c.set i x := fun c => by
    by_cases hi : i < c.length
    · exact ⟨c[i], (List.set_getElem_self hi).symm⟩
    · exact ⟨none, (List.set_eq_of_length_le (by omega)).symm⟩
  have main : ∀ (n j : Nat) (c : Env), j + n = ds.length → (∃ x, c = (I j).set i x) → ∃ x, forL i g (ds.drop j) c = .ok .nx ((I ds.length).set i x) := by
    intro n
    induction n with
    | zero =>
      intro j c hj ⟨x, hc⟩
      have : j = ds.length := by omega
      subst this
      rw [List.drop_length, hc]
      exact ⟨x, rfl⟩
    | succ n ih =>
      intro j c hj ⟨x, hc⟩
      have hlt : j < ds.length := by omega
      have hd := List.getElem?_eq_getElem hlt
      rw [drop_cons hd, forL_cons]
      obtain ⟨c', h1, h2⟩ := h j _ hd
      rw [hc, List.set_set, h1]
      obtain ⟨y, hy⟩ := self c'
      exact ih (j + 1) c' (by omega) ⟨y, by rw [← h2 y]; exact hy⟩
  obtain ⟨x, hx⟩ := self (I 0)
  have := main ds.length 0 (I 0) (by omega) ⟨x, hx⟩
  simpa using this
/-- a comprehension without a test -/
theorem compL_map (g : Env → R D) (i : Nat) (c : Env) (f : D → D) : ∀ (ds : List D), (∀ d ∈ ds, g (c.set i (some (.v d))) = .ok (f d)) → compL tYes' g i c ds = .ok (ds.map f)
  | [], _ => rfl
  | d :: ds, h => by
    rw [compL_cons, tYes_def]
    simp only [noX_ok, ok_bind, if_true]
    rw [h d List.mem_cons_self, compL_map g i c f ds fun d hd => h d (List.mem_cons_of_mem _ hd)]
    rfl
/-- .. with one -/
theorem compL_filter (t : Env → R Bool) (g : Env → R D) (i : Nat) (c : Env) (p : D → Bool) (f : D → D) : ∀ (ds : List D), (∀ d ∈ ds, t (c.set i (some (.v d))) = .ok (p d)) → (∀ d ∈ ds, p d = true → g (c.set i (some (.v d))) = .ok (f d)) → compL t g i c ds = .ok ((ds.filter p).map f)
  | [], _, _ => rfl
  | d :: ds, h, k => by
    have ih := compL_filter t g i c p f ds (fun d hd => h d (List.mem_cons_of_mem _ hd)) fun d hd => k d (List.mem_cons_of_mem _ hd)
    rw [compL_cons, h d List.mem_cons_self]
    simp only [noX_ok, ok_bind]
    cases hp : p d with
    | true =>
      rw [if_pos rfl, k d List.mem_cons_self hp, ih, List.filter_cons_of_pos hp]
      rfl
    | false =>
      rw [if_neg (by decide), ih, List.filter_cons_of_neg (by simp [hp])]
end VS

/-! VS: more reckoning. -/
namespace VS
open PySem PySem.Spec PyProof.Rows L2
@[simp] theorem pln_int (n : Nat) (i : Int) : D.pln n (.int i) = true := by cases n <;> simp [D.pln]
@[simp] theorem pln_bl (n : Nat) (i : Bool) : D.pln n (.bl i) = true := by cases n <;> simp [D.pln]
@[simp] theorem pln_non (n : Nat) : D.pln n .non = true := by cases n <;> simp [D.pln]
@[simp] theorem pln_str (n : Nat) (l : List Nat) : D.pln n (.str l) = l.all (· < 0x110000) := by cases n <;> simp [D.pln]
@[simp] theorem pln_lst (n : Nat) (l : List D) : D.pln (n + 1) (.lst l) = D.plns n l := by simp [D.pln]
@[simp] theorem pln_tup (n : Nat) (l : List D) : D.pln (n + 1) (.tup l) = D.plns n l := by simp [D.pln]
@[simp] theorem eqv_int (i j : Int) : D.eqv (.int i) (.int j) = (i == j) := by simp [D.eqv]
@[simp] theorem eqv_str (i j : List Nat) : D.eqv (.str i) (.str j) = (i == j) := by simp [D.eqv]
mutual
theorem eqv_self : ∀ (n : Nat) (d : D), D.pln n d = true → D.eqv d d = true
  | n, .non, _ => by simp [D.eqv]
  | n, .bl _, _ => by simp [D.eqv]
  | n, .int _, _ => by simp [D.eqv]
  | n, .str _, _ => by simp [D.eqv]
  | 0, .tup _, h => by simp [D.pln] at h
  | 0, .lst _, h => by simp [D.pln] at h
  | n + 1, .tup ds, h => by rw [pln_tup] at h; rw [D.eqv]; exact eqvs_self n ds h
  | n + 1, .lst ds, h => by rw [pln_lst] at h; rw [D.eqv]; exact eqvs_self n ds h
  | n, .dic _ _, h => by simp [D.pln] at h
  | n, .dlk _ _, h => by simp [D.pln] at h
  | n, .ndk _ _, h => by simp [D.pln] at h
  | n, .nlk _ _, h => by simp [D.pln] at h
  | n, .rng _ _, h => by simp [D.pln] at h
  | n, .obj _ _ _, h => by simp [D.pln] at h
theorem eqvs_self : ∀ (n : Nat) (ds : List D), D.plns n ds = true → D.eqvs ds ds = true
  | n, [], _ => by simp [D.eqvs]
  | n, d :: ds, h => by
    rw [D.plns, Bool.and_eq_true] at h
    rw [D.eqvs, eqv_self n d h.1, eqvs_self n ds h.2]; rfl
end
@[simp] theorem opEq_int (i j : Int) : opEq (.int i) (.int j) = some (.bl (i == j)) := by simp [opEq]
@[simp] theorem opNe_int (i j : Int) : opNe (.int i) (.int j) = some (.bl (!(i == j))) := by simp [opNe]
@[simp] theorem opNe_bl (i j : Bool) : opNe (.bl i) (.bl j) = some (.bl (!(i == j))) := by simp [opNe, D.eqv]
@[simp] theorem opEq_bl (i j : Bool) : opEq (.bl i) (.bl j) = some (.bl (i == j)) := by simp [opEq, D.eqv]
theorem opEq_self {d : D} (h : D.pln 64 d = true) : opEq d d = some (.bl true) := by simp [opEq, h, eqv_self 64 d h]
/-- a loop all of whose turns go on -/
theorem forL_ex (i : Nat) (g : Env → Rs) (P : Nat → Env → Prop) : ∀ (ds : List D) (c : Env), (∀ j d c, ds[j]? = some d → P j c → ∃ c', g (c.set i (some (.v d))) = .ok .nx c' ∧ P (j + 1) c') → P 0 c → ∃ c', forL i g ds c = .ok .nx c' ∧ P ds.length c' := by
  intro ds c h p
  have main : ∀ (n j : Nat) (c : Env), j + n = ds.length → P j c → ∃ c', forL i g (ds.drop j) c = .ok .nx c' ∧ P ds.length c' := by
    intro n
    induction n with
    | zero =>
      intro j c hj pc
      have : j = ds.length := by omega
      subst this
      rw [List.drop_length]
      exact ⟨c, rfl, pc⟩
    | succ n ih =>
      intro j c hj pc
      have hlt : j < ds.length := by omega
      have hd := List.getElem?_eq_getElem hlt
      rw [drop_cons hd, forL_cons]
      obtain ⟨c', h1, h2⟩ := h j _ c hd pc
      rw [h1]
      exact ih (j + 1) c' (by omega) h2
  simpa using main ds.length 0 c (by omega) p
/-- .. over a range from 0 -/
theorem forL_rg (i : Nat) (g : Env → Rs) (n : Int) (P : Nat → Env → Prop) (c : Env) (h : ∀ (j : Nat) (c : Env), (j : Int) < n → P j c → ∃ c', g (c.set i (some (.v (.int (j : Int))))) = .ok .nx c' ∧ P (j + 1) c') (p : P 0 c) : ∃ c', forL i g (rangeD 0 n) c = .ok .nx c' ∧ P n.toNat c' := by
  have := forL_ex i g P (rangeD 0 n) c (fun j d c hd pc => by
    unfold rangeD at hd
    rw [List.getElem?_map] at hd
    rcases Option.map_eq_some_iff.mp hd with ⟨k, hk, rfl⟩
    rcases List.getElem?_eq_some_iff.mp hk with ⟨hl, rfl⟩
    simp at hl
    simp
    exact h j c (by omega) pc) p
  simpa [rangeD] using this
/-- a while loop all of whose turns go on; m bounds the turns left -/
theorem whileL_ex (t : Env → R Bool) (g : Env → Rs) (P : Nat → Env → Prop) (Q : Env → Prop) (h : ∀ m c, P m c → (t c = .ok false ∧ Q c) ∨ (t c = .ok true ∧ ∃ m' c', m' < m ∧ g c = .ok .nx c' ∧ P m' c')) : ∀ (f m : Nat) (c : Env), m < f → P m c → ∃ c', whileL t g f c = .ok .nx c' ∧ Q c' := by
  intro f
  induction f with
  | zero => intro m c hm; omega
  | succ f ih =>
    intro m c hm p
    rw [whileL]
    rcases h m c p with ⟨ht, q⟩ | ⟨ht, m', c', hlt, hg, p'⟩
    · rw [ht]; exact ⟨c, rfl, q⟩
    · rw [ht, st_ok, if_pos rfl, hg]
      exact ih m' c' (by omega) p'
@[simp] theorem atI_map_int (ns : List Int) (k : Nat) : atI (ns.map D.int) (k : Int) = (ns[k]?).map D.int := by
  rw [atI_ofNat, List.getElem?_map]
theorem rangeD_get {lo hi : Int} {j : Nat} (h : lo + j < hi) : (rangeD lo hi)[j]? = some (.int (lo + j)) := by
  unfold rangeD
  rw [List.getElem?_map, List.getElem?_range (by omega)]
  rfl
end VS
namespace VS
/-- what two equal plain things are, to the laws' own sameness -/
inductive Sm : Nat → D → Prop
  | non {n} : Sm n .non
  | bl {n} (t : Bool) : Sm n (.bl t)
  | int {n} (i : Int) : Sm n (.int i)
  | str {n} (l : List Nat) (h : l.all (· < 0x110000) = true) : Sm n (.str l)
  | lst {n} (ds : List D) (h : (ds.length : Int) < 4611686018427387904) (k : ∀ d ∈ ds, Sm n d) : Sm (n + 1) (.lst ds)
  | tup {n} (ds : List D) (h : (ds.length : Int) < 4611686018427387904) (k : ∀ d ∈ ds, Sm n d) : Sm (n + 1) (.tup ds)
theorem asI_small {i : Int} (h : 0 ≤ i) (k : i < 4611686018427387904) : asI (.int i) = some i := by
  rw [asI_int, if_pos ⟨by omega, by omega⟩]
theorem asI_zero : asI (.int 0) = some 0 := (rfl)
@[simp] theorem runF_def' (n : Nat) (body : Env → Rs) (ds : List D) : runF n body ds = match body (ds.map (fun d => some (O.v d)) ++ List.replicate (n - ds.length) none) with
  | .ok (.rt d) _ => .ok d
  | .ok .nx _ => .ok .non
  | .ex e _ => .ex e
  | _ => .stuck := (rfl)
@[simp] theorem asInts_ints (ns : List Int) : asInts (ns.map D.int) = some ns := by
  induction ns with
  | nil => rfl
  | cons n ns ih => rw [List.map_cons, asInts_cons, ih]; rfl
@[simp] theorem asSs_strs (ns : List (List Nat)) : asSs (ns.map D.str) = some ns := by
  induction ns with
  | nil => rfl
  | cons n ns ih => rw [List.map_cons, asSs_cons, ih]; rfl
end VS

/-! VS: a body told step by step. -/
namespace VS
open PySem PySem.Spec PyProof.Rows L2
/-- from c the text comes to its end with d -/
def Ret (g : Env → Rs) (c : Env) (d : D) : Prop := ∃ c', g c = .ok (.rt d) c'
/-- from c the text goes on at c' -/
def Nx (g : Env → Rs) (c c' : Env) : Prop := g c = .ok .nx c'
theorem ret_of {n : Nat} {body : Env → Rs} {ds : List D} {d : D} (h : Ret body (ds.map (fun d => some (O.v d)) ++ List.replicate (n - ds.length) none) d) : runF n body ds = .ok d := by
  obtain ⟨c', h⟩ := h
  rw [runF_def, h]
theorem Ret.seq {g k : Env → Rs} {c c' : Env} {d : D} (h : Nx g c c') (r : Ret k c' d) : Ret (sSeq g k) c d := by
  obtain ⟨c2, r⟩ := r
  exact ⟨c2, by rw [sSeq_def, h]; exact r⟩
theorem Ret.fst {g k : Env → Rs} {c : Env} {d : D} (r : Ret g c d) : Ret (sSeq g k) c d := by
  obtain ⟨c2, r⟩ := r
  exact ⟨c2, by rw [sSeq_def, r]⟩
theorem Ret.ret {g : Env → R D} {c : Env} {d : D} (h : g c = .ok d) : Ret (sRet g) c d := ⟨c, by rw [sRet_def, h]; rfl⟩
theorem Ret.fz {g : Env → Rs} {c : Env} {d : D} {i : Nat} (h : Ret g (fz i c) d) : Ret (sFz i g) c d := h
theorem Ret.yes {t : Env → R Bool} {g k : Env → Rs} {c : Env} {d : D} (h : t c = .ok true) (r : Ret g c d) : Ret (sIf t g k) c d := by
  obtain ⟨c2, r⟩ := r
  exact ⟨c2, by rw [sIf_def, h]; exact r⟩
theorem Ret.no {t : Env → R Bool} {g k : Env → Rs} {c : Env} {d : D} (h : t c = .ok false) (r : Ret k c d) : Ret (sIf t g k) c d := by
  obtain ⟨c2, r⟩ := r
  exact ⟨c2, by rw [sIf_def, h]; exact r⟩
theorem Nx.seq {g k : Env → Rs} {c c' c2 : Env} (h : Nx g c c') (r : Nx k c' c2) : Nx (sSeq g k) c c2 := by
  unfold Nx at *
  rw [sSeq_def, h]; exact r
theorem Nx.yes {t : Env → R Bool} {g k : Env → Rs} {c c' : Env} (h : t c = .ok true) (r : Nx g c c') : Nx (sIf t g k) c c' := by
  unfold Nx at *
  rw [sIf_def, h]; exact r
theorem Nx.no {t : Env → R Bool} {g k : Env → Rs} {c c' : Env} (h : t c = .ok false) (r : Nx k c c') : Nx (sIf t g k) c c' := by
  unfold Nx at *
  rw [sIf_def, h]; exact r
theorem Nx.nil {c : Env} : Nx sNil c c := rfl
theorem Nx.set {g : Env → R D} {c : Env} {d : D} {i : Nat} (h : g c = .ok d) : Nx (sSet i g) c (c.set i (some (.v d))) := by
  unfold Nx
  rw [sSet_def, h]; rfl
theorem Nx.setO {g : Env → R O} {c : Env} {d : O} {i : Nat} (h : g c = .ok d) : Nx (sSetO i g) c (c.set i (some d)) := by
  unfold Nx
  rw [sSetO_def, h]; rfl
theorem Nx.fz {g : Env → Rs} {c c' : Env} {i : Nat} (h : Nx g (fz i c) c') : Nx (sFz i g) c c' := h
theorem Nx.to {g : Env → Rs} {c c' c2 : Env} (h : Nx g c c') (e : c' = c2) : Nx g c c2 := e ▸ h
theorem Nx.for {i : Nat} {gs : Env → R (List D)} {g : Env → Rs} {c c' : Env} {ds : List D} (h : gs c = .ok ds) (k : forL i g ds c = .ok .nx c') : Nx (sFor i gs g) c c' := by
  unfold Nx
  rw [sFor_def, h]; exact k
theorem Nx.expr {g : Env → R D} {c : Env} {d : D} (h : g c = .ok d) : Nx (sExpr g) c c := by
  unfold Nx
  rw [sExpr_def, h]; rfl
end VS

/-! VS: several names at once; sorted texts. -/
namespace VS
open PySem PySem.Spec PyProof.Rows L2
/-! ### a, b = e -/
def setAll : List Nat → List D → Env → Env
  | i :: is, d :: ds, c => setAll is ds (c.set i (some (.v d)))
  | _, _, c => c
def sTup (is : List Nat) (g : Env → R D) : Env → Rs := fun c => (g c).st c fun d => match d with
  | .tup ds => if ds.length = is.length then .ok .nx (setAll is ds c) else .stuck
  | _ => .stuck
def gNs : List Nat → TGs
  | [] => gNil
  | i :: is => gCons (gName i) (gNs is)
theorem gNs_run {E : Wd} {B : Bs} {G H : Hp} {pn : List Nat} (P : PinOk pn B) : ∀ (is : List Nat) (ds : List D) (vs : List V) (c : Env) (σ : L2.St) (fp : List Addr) (Q : L2.St → Hp → Prop), (∀ i ∈ is, i ∉ pn) → RpL E G vs ds → ds.length = is.length → Abs E B G H c σ fp →
    (∀ σ' fp', Abs E B G H (setAll is ds c) σ' fp' → Q σ' H) → gNs is vs σ H Q
  | [], [], _, c, σ, fp, Q, _, r, _, A, q => by
    cases r
    exact ⟨rfl, q σ fp A⟩
  | [], _ :: _, _, _, _, _, _, _, _, e, _, _ => by simp at e
  | _ :: _, [], _, _, _, _, _, _, _, e, _, _ => by simp at e
  | i :: is, d :: ds, _, c, σ, fp, Q, hi, r, e, A, q => by
    cases r with
    | cons r rs =>
      obtain ⟨fr, A2⟩ := A.setV (i := i) r (P.ne (hi i List.mem_cons_self))
      exact ⟨_, _, rfl, gNs_run P is ds _ _ _ fr Q (fun j hj => hi j (List.mem_cons_of_mem _ hj)) rs (by simpa using e) A2 q⟩
section
variable {X : Cx} {W : WX} {pn : List Nat} {e : Expr} {pos : Pos}
theorem pxs_tup {es : List Expr} {k : Nat} {p : Pos} (is : List Nat) {g : Env → R D} (h : PX X W true e g) (hc : X.calm = true) (ht : PGs X es (gNs is)) (hi : ∀ i ∈ is, i ∉ pn := by decide)
    (hn : (assignEach es X.env).length = is.length := by rfl) (hst : (assignEach es X.env).findIdx? (·.1) = none := by rfl)
    (hs : swapsWithSole [.Tuple es k p] e pos.line X.env = pure false := by rfl) (hw : swappedStores [.Tuple es k p] e X.env = pure none := by rfl)
    (h1 : (assignEach [.Tuple es k p] X.env).map (·.2) = [assign (.Tuple es k p) X.env] := by rfl) : PXS X W pn (.Assign [.Tuple es k p] e pos) (sTup is g) :=
  ps_mono (ps_asg h (pg_tup hc ht hn hst) hs hw h1) fun Dn σ H ⟨B, G, c, fp, A, P, q⟩ => tx_st A q fun d e v G1 H1 s1 t1 A1 r1 q1 => by
    cases d with
    | tup ds =>
      simp only at q1
      split at q1
      · rename_i hl
        obtain ⟨a, vs, rfl, h2, r2⟩ := r1.tupH (b := true) A1.fine.le
        exact ⟨a, vs, rfl, h2, by rw [r2.length, hl], gNs_run P is ds vs c σ fp Dn.nx hi r2 hl A1 fun σ' fp' A2 => q1 σ' G1 H1 fp' (Same.refl _) A2⟩
      · exact q1.elim
    | _ => exact False.elim q1
end
@[simp] theorem sTup_def (is : List Nat) (g : Env → R D) (c : Env) : sTup is g c = (g c).st c fun d => match d with
  | .tup ds => if ds.length = is.length then .ok .nx (setAll is ds c) else .stuck
  | _ => .stuck := (rfl)
@[simp] theorem setAll_cons (i : Nat) (is : List Nat) (d : D) (ds : List D) (c : Env) : setAll (i :: is) (d :: ds) c = setAll is ds (c.set i (some (.v d))) := (rfl)
@[simp] theorem setAll_nil (c : Env) : setAll [] [] c = c := (rfl)
/-! ### sorted texts -/
theorem lt_self : ∀ x : List Nat, ltCps x x = false
  | [] => rfl
  | a :: x => by simp [ltCps, lt_self x]
theorem lt_anti : ∀ x y : List Nat, ltCps x y = false → ltCps y x = false → x = y
  | [], [], _, _ => rfl
  | [], _ :: _, h, _ => by simp [ltCps] at h
  | _ :: _, [], _, h => by simp [ltCps] at h
  | a :: x, b :: y, h, k => by
    simp [ltCps] at h k
    have e : a = b := by omega
    subst e
    rw [lt_anti x y (by simpa using h.2) (by simpa using k.2)]
theorem le_trans' : ∀ x y z : List Nat, ltCps y x = false → ltCps z y = false → ltCps z x = false
  | [], [], [], _, _ => rfl
  | [], [], _ :: _, _, _ => rfl
  | [], _ :: _, [], _, h => by simp [ltCps] at h
  | [], _ :: _, _ :: _, _, _ => rfl
  | _ :: _, [], _, h, _ => by simp [ltCps] at h
  | _ :: _, _ :: _, [], _, h => by simp [ltCps] at h
  | a :: x, b :: y, c :: z, h, k => by
    simp [ltCps] at h k ⊢
    refine ⟨by omega, fun e => ?_⟩
    subst e
    have e : b = c := by omega
    subst e
    exact le_trans' x y z (by simpa using h.2) (by simpa using k.2)
def rL : List Nat → List (List Nat) → Bool
  | _, [] => true
  | p, x :: r => !ltCps x p && rL x r
def sL : List (List Nat) → Bool
  | [] => true
  | x :: r => rL x r
theorem rL_all : ∀ (p : List Nat) (r : List (List Nat)), rL p r = true → (∀ x ∈ r, ltCps x p = false) ∧ sL r = true
  | _, [], _ => ⟨fun x h => (nomatch h), rfl⟩
  | p, x :: r, h => by
    rw [rL, Bool.and_eq_true] at h
    have ih := rL_all x r h.2
    have hx : ltCps x p = false := by simpa using h.1
    refine ⟨fun y hy => ?_, h.2⟩
    rcases List.mem_cons.mp hy with rfl | hy
    · exact hx
    · exact le_trans' p x y hx (ih.1 y hy)
theorem sL_uniq : ∀ (xs ys : List (List Nat)), xs.Perm ys → sL xs = true → sL ys = true → xs = ys
  | [], ys, h, _, _ => h.nil_eq
  | x :: xs, [], h, _, _ => h.eq_nil
  | x :: xs, y :: ys, h, hx, hy => by
    obtain ⟨a1, a2⟩ := rL_all x xs hx
    obtain ⟨b1, b2⟩ := rL_all y ys hy
    have e : x = y := by
      have m1 : y ∈ x :: xs := h.mem_iff.mpr List.mem_cons_self
      have m2 : x ∈ y :: ys := h.mem_iff.mp List.mem_cons_self
      rcases List.mem_cons.mp m1 with e | m1
      · exact e.symm
      · rcases List.mem_cons.mp m2 with e | m2
        · exact e
        · exact lt_anti x y (b1 x m2) (a1 y m1)
    subst e
    rw [sL_uniq xs ys h.cons_inv a2 b2]
open Classical in
noncomputable def sortS (xs : List (List Nat)) : List (List Nat) := if h : ∃ ys, ys.Perm xs ∧ sL ys = true then h.choose else []
theorem sortS_eq {xs ys : List (List Nat)} (h : ys.Perm xs) (k : sL ys = true) : sortS xs = ys := by
  have e : ∃ ys, ys.Perm xs ∧ sL ys = true := ⟨ys, h, k⟩
  unfold sortS
  rw [dif_pos e]
  exact sL_uniq _ _ (e.choose_spec.1.trans h.symm) e.choose_spec.2 k
theorem sortS_perm {xs ys : List (List Nat)} (h : xs.Perm ys) : sortS xs = sortS ys := by
  by_cases e : ∃ zs, zs.Perm xs ∧ sL zs = true
  · obtain ⟨zs, h1, h2⟩ := e
    rw [sortS_eq h1 h2, sortS_eq (h1.trans h) h2]
  · have e' : ¬ ∃ zs, zs.Perm ys ∧ sL zs = true := fun ⟨zs, h1, h2⟩ => e ⟨zs, h1.trans h.symm, h2⟩
    unfold sortS
    rw [dif_neg e, dif_neg e']
noncomputable def fSortS : List D → Option D
  | [.lst ds] => (asSs ds).bind fun xs => if xs.length < 64 then some (.lst ((sortS xs).map D.str)) else none
  | _ => none
theorem rS_S : ∀ (p : List Nat) (xs : List (List Nat)), risingS (S p) (xs.map S) = rL p xs
  | _, [] => rfl
  | p, x :: xs => by rw [List.map_cons, risingS, rL, rS_S x xs, S_list, S_list]
theorem sS_S (xs : List (List Nat)) : sortedS (xs.map S) = sL xs := by
  cases xs with
  | nil => rfl
  | cons x xs => exact rS_S x xs
theorem RpL.ofStr {E : Wd} {G : Hp} : ∀ xs : List (List Nat), RpL E G ((xs.map S).map V.str) (xs.map D.str)
  | [] => .nil
  | x :: xs => .cons (.str x) (RpL.ofStr xs)
variable {X : Cx} {b : Bool} in
theorem ok_sortS : CallOk ⟨X.K, X.mg, X.w⟩ (rSortedS X.K) b true fSortS := by
  intro B G H c σ fp vs ds d Q A r e p
  unfold fSortS at e
  split at e
  · obtain ⟨xs, e1, e2⟩ := Option.bind_eq_some_iff.mp e
    split at e2
    · rename_i hl
      cases e2
      obtain ⟨v, rfl, rv⟩ := r.one
      obtain ⟨a, vs, rfl, h1, r1⟩ := rv.lstH A.fine.le
      rw [asSs_rp r1 e1] at h1
      refine ⟨a, xs.map S, rfl, h1, by simpa using hl, fun ys q hp hs hq => ?_⟩
      obtain ⟨zs, rfl⟩ : ∃ zs : List (List Nat), ys = zs.map S := by
        refine ⟨ys.map fun s => s.cps.toList, ?_⟩
        rw [List.map_map]
        conv => lhs; rw [← List.map_id ys]
        refine List.map_congr_left fun y hy => ?_
        obtain ⟨x, _, rfl⟩ := List.mem_map.mp (hp.mem_iff.mp hy)
        rfl
      have hpl : zs.Perm xs := by
        have := hp.map fun s : Str => s.cps.toList
        rw [List.map_map, List.map_map] at this
        have e : ((fun s : Str => s.cps.toList) ∘ S) = id := by funext x; rfl
        rwa [e, List.map_id, List.map_id] at this
      rw [sS_S] at hs
      rw [sortS_eq hpl hs] at p
      exact p.new A hq fun s => .lst (.inl (.inl upd_same)) (RpL.ofStr _)
    · cases e2
  · cases e
@[simp] theorem fSortS_lst (ds : List D) : fSortS [.lst ds] = (asSs ds).bind fun xs => if xs.length < 64 then some (.lst ((sortS xs).map D.str)) else none := (rfl)
end VS

/-! VS: the place of a text in a list of texts. -/
namespace VS
open PySem PySem.Spec PyProof.Rows L2
def fLIx (ds : List D) : List D → Option D
  | [.str k] => (asSs ds).bind fun xs => if xs.idxOf k < xs.length then some (.int (xs.idxOf k : Nat)) else none
  | _ => none
def eLIx (g : Env → R D) (gs : Env → R (List D)) : Env → R D := fun c => g c >>= fun d => match d with
  | .lst ds => gs c >>= fun es => lift (fLIx ds es)
  | _ => .stuck
@[simp] theorem eLIx_def (g : Env → R D) (gs : Env → R (List D)) (c : Env) : eLIx g gs c = g c >>= fun d => match d with
  | .lst ds => gs c >>= fun es => lift (fLIx ds es)
  | _ => .stuck := (rfl)
theorem eqS (a b : List Nat) : eqV (.str (S a)) (.str (S b)) = (a == b) := by
  show (S a == S b) = (a == b)
  rw [Bool.eq_iff_iff, beq_iff_eq, beq_iff_eq]
  constructor
  · intro h
    have := congrArg (fun s : Str => s.cps.toList) h
    simpa using this
  · intro h; rw [h]
section
variable {X : Cx} {W : WX} {b b1 b' : Bool}
theorem px_li {o e : Expr} {es : List Expr} {g : Env → R D} {gs : Env → R (List D)} {apos cpos : Pos}
    (ho : PX X W b1 o g) (ha : PXA X W b (e :: es) gs)
    (hbase : attributeBase o "index" X.env (eval o X.env) = eval o X.env := by rfl)
    (hfew : ((backTo cpos (starEach (e :: es) X.env)).all (fun x => !x.1) && (backToKw cpos (keywordEach [] X.env)).all (fun x => x.1.isSome)
      && decide ((e :: es).length + ([] : List Keyword).length + (if ([] : List Keyword).isEmpty then 0 else 1) < 30)) = true := by rfl)
    (hline : (apos.endLine == cpos.line) = true := by rfl) (hs : starEach (e :: es) X.env = (false, eval e X.env) :: starEach es X.env := by rfl) (hplain : (backTo cpos (starEach es X.env)).any (·.1) = false := by rfl) :
    PX X W b' (.Call (.Attribute o "index" apos) (e :: es) [] cpos) (eLIx g gs) :=
  pe_mono (pe_bm PySem.F.plainAttrs_list PySem.F.slot_list_index PySem.F.type_list_index mt_index ho ha hbase hfew hline hs hplain) fun σ H Q ⟨B, G, c, fp, A, q⟩ => tx_seq A q fun d e v G1 H1 s1 t1 A1 r1 q1 => by
    cases d with
    | lst ds =>
      obtain ⟨a, vs, rfl, h2, r2⟩ := r1.lstH A1.fine.le
      refine ⟨.inl ⟨rfl, _, h2⟩, txa_seq A1 q1 fun es e2 ws G2 H2 s2 t2 A2 r3 q2 => ?_⟩
      obtain ⟨d3, e3, p3⟩ := Res.lift q2
      unfold fLIx at e3
      split at e3
      · rename_i k
        obtain ⟨xs, e4, e5⟩ := Option.bind_eq_some_iff.mp e3
        split at e5
        · rename_i hlt
          cases e5
          obtain ⟨v, rfl, rv⟩ := r3.one
          cases rv.strH
          have hv := asSs_rp r2 e4
          subst hv
          refine ⟨a, _, _, xs.idxOf k, .str (S k), rfl, rfl, Same.sqL t2 h2, rfl, by simp [flatV], ?_, by rw [eqS]; simp, ?_, ?_⟩
          · rw [List.map_map, List.getElem?_map, List.getElem?_eq_getElem hlt, List.getElem_idxOf hlt]; rfl
          · intro m z hm hz
            rw [List.map_map, List.getElem?_map] at hz
            obtain ⟨y, hy, rfl⟩ := Option.map_eq_some_iff.mp hz
            show eqV (.str (S y)) (.str (S k)) = false
            rw [eqS]
            obtain ⟨hml, rfl⟩ := List.getElem?_eq_some_iff.mp hy
            have := List.not_of_lt_findIdx (p := (· == k)) (xs := xs) (i := m) hm
            simpa using this
          · exact (p3.grow (s1.trans s2) (t1.trans t2)).here A2 (.int _)
        · cases e5
      · cases e3
    | _ => exact False.elim q1
end
end VS

/-! VS: owned dicts. -/
namespace VS
open PySem PySem.Spec PyProof.Rows L2
/-- the items, those of the key anew -/
def rep : List D → List O → Key → D → List O
  | x :: ks, o :: os, kk, d => (if D.key x = some kk then .v d else o) :: rep ks os kk d
  | _, _, _, _ => []
theorem OwnL.rep {E : Wd} {G H : Hp} {v : V} {d : D} {kk : Key} (r : Rp E G v d) : ∀ {kvs : List (Key × V)} {ks : List D} {os : List O} {fp : List Addr}, ks.map D.key = kvs.map (fun p => some p.1) → OwnL E G H (kvs.map (·.2)) os fp → fp.Nodup →
    ∃ fq, OwnL E G H ((kvs.map fun kv => if kv.1 = kk then (kv.1, v) else kv).map (·.2)) (VS.rep ks os kk d) fq ∧ fq.Nodup ∧ ∀ p ∈ fq, p ∈ fp
  | [], ks, os, fp, e, h, n => by
    cases h
    cases ks with
    | nil => exact ⟨[], .nil, List.nodup_nil, fun p hp => hp⟩
    | cons x ks => simp at e
  | (k, w) :: kvs, ks, os, fp, e, h, n => by
    cases ks with
    | nil => simp at e
    | cons x ks =>
      have e1 : D.key x = some k := by simpa using (List.cons.inj e).1
      have e2 : ks.map D.key = kvs.map (fun p => some p.1) := (List.cons.inj e).2
      cases h with
      | @cons _ _ o os f1 f2 h hs =>
        obtain ⟨n1, n2, n3⟩ := List.nodup_append.mp n
        obtain ⟨fq, k1, k2, k3⟩ := OwnL.rep r e2 hs n2
        by_cases g : k = kk
        · refine ⟨[] ++ fq, ?_, by simpa using k2, fun p hp => List.mem_append_right _ (k3 p (by simpa using hp))⟩
          rw [VS.rep, if_pos (by rw [e1, g])]
          simp only [List.map_cons, if_pos g]
          exact .cons (.v r) k1
        · refine ⟨f1 ++ fq, ?_, List.nodup_append.mpr ⟨n1, k2, fun a ha b hb => n3 a ha b (k3 b hb)⟩, fun p hp => ?_⟩
          · rw [VS.rep, if_neg (by rw [e1]; exact fun z => g (Option.some.inj z))]
            simp only [List.map_cons, if_neg g]
            exact .cons h k1
          · rcases List.mem_append.mp hp with hp | hp
            · exact List.mem_append_left _ hp
            · exact List.mem_append_right _ (k3 p hp)
def atD (i : Nat) (c : Env) : Option (List D × List O) := match c[i]? with
  | some (some (.dic ks os)) => some (ks, os)
  | _ => none
theorem atD_eq {i : Nat} {c : Env} {q : List D × List O} (h : atD i c = some q) : c[i]? = some (some (.dic q.1 q.2)) := by
  unfold atD at h
  split at h
  · cases h; assumption
  · cases h
def hasK (ks : List D) (kk : Key) : Bool := ks.any fun x => decide (D.key x = some kk)
/-- d[k] = e -/
def dPut (ks : List D) (os : List O) (k : D) (kk : Key) (d : D) : Option O :=
  if ks.length < 16777216 then some (if hasK ks kk then .dic ks (rep ks os kk d) else .dic (ks ++ [k]) (os ++ [.v d])) else none
def sDSet (i : Nat) (gi g : Env → R D) : Env → Rs := fun c => (g c).st c fun d => (lift (atD i c)).st c fun q => (gi c).st c fun k => (lift (D.key k)).st c fun kk => (lift (dPut q.1 q.2 k kk d)).st c fun o => .ok .nx (c.set i (some o))
theorem hasK_kvs {ks : List D} {kvs : List (Key × V)} (e : ks.map D.key = kvs.map (fun p => some p.1)) (kk : Key) : hasK ks kk = kvs.any fun kv => decide (kv.1 = kk) := by
  have : hasK ks kk = (ks.map D.key).any fun x => decide (x = some kk) := by unfold hasK; rw [List.any_map]; rfl
  rw [this, e, List.any_map]
  congr 1
  funext p
  simp
theorem rp_key {E : Wd} {G : Hp} {v : V} {k : D} {kk : Key} (r : Rp E G v k) (e : D.key k = some kk) : v = kV kk := by
  cases k <;> simp [D.key] at e
  · subst e; exact r.intH
  · subst e; exact r.strH
section
variable {X : Cx} {W : WX} {b : Bool} {pn : List Nat} {e : Expr} {pos : Pos}
theorem pxs_dset {x : Str} {ei : Expr} {p p2 : Pos} (i : Nat) {gi g : Env → R D} (hu : X.A.units + 1 < cLine) (h : PX X W true e g) (hi : PX X W b ei gi) (hN : X.N[i]? = some x := by rfl) (hv : Vis X.env.scope x := by first | exact Or.inl rfl | exact Or.inr (Or.inl rfl) | exact Or.inr (Or.inr rfl)) (hd : (x == ("__debug__" : Str)) = false := by decide) (hcd : (x == ("__classdict__" : Str)) = false := by decide)
    (hs : swapsWithSole [.Subscript (.Name x p) ei p2] e pos.line X.env = pure false := by rfl) (hw : swappedStores [.Subscript (.Name x p) ei p2] e X.env = pure none := by rfl)
    (h1 : (assignEach [.Subscript (.Name x p) ei p2] X.env).map (·.2) = [assign (.Subscript (.Name x p) ei p2) X.env] := by rfl)
    (ha : ∀ v, assign (.Subscript (.Name x p) ei p2) X.env v = (do
      let ov ← holding [v] (eval (.Name x p) X.env)
      let iv ← holding [v, ov] (eval ei X.env)
      standAt p2
      holding [v, ov, iv] (setItem ov iv v)
      release [v, ov, iv] []) := by intro _; rfl) : PXS X W pn (.Assign [.Subscript (.Name x p) ei p2] e pos) (sDSet i gi g) :=
  ps_mono (ps_asg h (pg_sub (pe_var hN hv hd hcd) hi (set_dict hu) ha) hs hw h1) fun Dn σ H ⟨B, G, c, fp, A, P, q⟩ => tx_st A q fun d e w G1 H1 s1 t1 A1 r1 q1 => by
    obtain ⟨⟨ks, os⟩, e0, q1⟩ := lift_st q1
    have e1 := atD_eq e0
    obtain ⟨v, fq, h1, h2, _, _, _⟩ := A1.poke e1
    cases h2 with
    | @dic a kvs _ _ fq ha hk ho =>
      refine ⟨_, h1, tx_st A1 q1 fun k e3 w2 G2 H2 s2 t2 A2 r2 q2 => ?_⟩
      obtain ⟨kk, ek, q3⟩ := lift_st q2
      obtain ⟨o, eo, q4⟩ := lift_st q3
      obtain ⟨v, fq, h1', h2, n, hin, hpk⟩ := A2.poke e1
      rw [h1] at h1'
      cases h1'
      cases h2 with
      | @dic _ kvs _ _ fq ha hk ho =>
        have hw2 := rp_key r2 ek
        have hh := hasK_kvs hk kk
        have hkl : ks.length = kvs.length := by simpa using congrArg List.length hk
        have nn := List.nodup_cons.mp n
        have ho2 := ho.upd (p := a) (u := .dK (putK kvs kk w)) nn.1
        unfold dPut at eo
        split at eo
        · rename_i hl
          cases eo
          refine ⟨a, _, rfl, .inl ⟨kvs, kk, ha, hw2, by rw [← hkl, sizeLine_eq]; exact hl, rfl⟩, ?_⟩
          cases hb : hasK ks kk with
          | true =>
            rw [hb] at q4
            have hb2 : (kvs.any fun kv => decide (kv.1 = kk)) = true := by rw [← hh]; exact hb
            have hput : putK kvs kk w = kvs.map (fun kv => if kv.1 = kk then (kv.1, w) else kv) := by unfold putK; rw [if_pos hb2]
            obtain ⟨fr, k1, k2, k3⟩ := ho2.rep (kk := kk) (r1.mono s2) hk nn.2
            have hk' : ks.map D.key = (putK kvs kk w).map (fun p => some p.1) := by
              rw [hk, hput, List.map_map]
              apply List.map_congr_left
              intro p _
              simp only [Function.comp_def]
              split <;> rfl
            rw [← hput] at k1
            obtain ⟨fp', A3⟩ := hpk List.mem_cons_self (u := .dK (putK kvs kk w)) rfl (.dic upd_same hk' k1) (List.nodup_cons.mpr ⟨fun z => nn.1 (k3 a z), k2⟩) (fun q hq => by
              rcases List.mem_cons.mp hq with z | z
              · rw [z]; exact List.mem_cons_self
              · exact List.mem_cons_of_mem _ (k3 q z))
            exact q4 σ G2 _ fp' (Same.refl _) A3
          | false =>
            rw [hb] at q4
            have hb2 : ¬ (kvs.any fun kv => decide (kv.1 = kk)) = true := by rw [← hh, hb]; exact Bool.false_ne_true
            have hput : putK kvs kk w = kvs ++ [(kk, w)] := by unfold putK; rw [if_neg hb2]
            have hk' : (ks ++ [k]).map D.key = (putK kvs kk w).map (fun p => some p.1) := by
              rw [hput, List.map_append, List.map_append, hk]
              simp [ek]
            have ho' : OwnL ⟨X.K, X.mg, X.w⟩ G2 (upd H2 a (.dK (putK kvs kk w))) ((putK kvs kk w).map (·.2)) (os ++ [.v d]) (fq ++ ([] ++ [])) := by
              rw [hput, List.map_append]
              rw [hput] at ho2
              exact ho2.append (.cons (.v (r1.mono s2)) .nil)
            obtain ⟨fp', A3⟩ := hpk List.mem_cons_self (u := .dK (putK kvs kk w)) rfl (.dic upd_same hk' ho') (by simpa using n) (fun q hq => by simpa using hq)
            exact q4 σ G2 _ fp' (Same.refl _) A3
        · cases eo
/-! ### reading -/
def dGet : List D → List O → Key → Option O
  | x :: ks, o :: os, kk => if D.key x = some kk then some o else dGet ks os kk
  | _, _, _ => none
theorem dGet_own {E : Wd} {G H : Hp} {kk : Key} : ∀ {kvs : List (Key × V)} {ks : List D} {os : List O} {fp : List Addr}, ks.map D.key = kvs.map (fun p => some p.1) → OwnL E G H (kvs.map (·.2)) os fp →
    (∀ o, dGet ks os kk = some o → ∃ v fq, valV kvs kk = some v ∧ Own E G H v o fq) ∧ (dGet ks os kk = none → valV kvs kk = none)
  | [], ks, os, fp, e, h => by
    cases h
    cases ks with
    | nil => exact ⟨fun o z => by simp [dGet] at z, fun _ => rfl⟩
    | cons x ks => simp at e
  | (k, w) :: kvs, ks, os, fp, e, h => by
    cases ks with
    | nil => simp at e
    | cons x ks =>
      have e1 : D.key x = some k := by simpa using (List.cons.inj e).1
      have e2 : ks.map D.key = kvs.map (fun p => some p.1) := (List.cons.inj e).2
      cases h with
      | @cons _ _ o os f1 f2 h hs =>
        have ih := dGet_own (kk := kk) e2 hs
        by_cases g : k = kk
        · rw [dGet, if_pos (by rw [e1, g])]
          refine ⟨fun o' z => ?_, fun z => nomatch z⟩
          cases z
          exact ⟨w, f1, valV_pos g, h⟩
        · rw [dGet, if_neg (by rw [e1]; exact fun z => g (Option.some.inj z)), valV_neg g]
          exact ih
/-- a dict at a name, owned or known -/
def atDk (i : Nat) (c : Env) : Option (List D × List O) := match c[i]? with
  | some (some (.dic ks os)) => some (ks, os)
  | some (some (.v (.dic ks ds))) => some (ks, ds.map .v)
  | some (some (.v (.dlk ks ds))) => some (ks, ds.map .v)
  | _ => none
theorem Abs.dict {E : Wd} {B : Bs} {G H : Hp} {c : Env} {σ : L2.St} {fp : List Addr} {i : Nat} {q : List D × List O} (A : Abs E B G H c σ fp) (h : atDk i c = some q) :
    ∃ a kvs fq, σ[i]? = some (some (.ref a)) ∧ Rd H a (.dK kvs) ∧ q.1.map D.key = kvs.map (fun p => some p.1) ∧ OwnL E G H (kvs.map (·.2)) q.2 fq := by
  unfold atDk at h
  split at h
  · rename_i ks os e1
    cases h
    obtain ⟨v, fq, h1, h2, _⟩ := A.cells.get e1
    cases h2 with
    | @dic a kvs _ _ fq ha hk ho => exact ⟨a, kvs, fq, h1, .inl ha, hk, ho⟩
  · rename_i ks ds e1
    cases h
    obtain ⟨v, fq, h1, h2, _⟩ := A.cells.get e1
    cases h2 with
    | v r =>
      cases r with
      | @dic a kvs _ _ hr hk ho => exact ⟨a, kvs, [], h1, Same.rd A.fine.le hr, hk, ownL_v ho⟩
  · rename_i ks ds e1
    cases h
    obtain ⟨v, fq, h1, h2, _⟩ := A.cells.get e1
    cases h2 with
    | v r =>
      cases r with
      | @dlk a o kvs _ _ hr hk ho => exact ⟨a, kvs, [], h1, .inr ⟨o, A.fine.le _ _ hr⟩, hk, ownL_v ho⟩
  · cases h
theorem dget_rd {H : Hp} {a : Addr} {kvs : List (Key × V)} {k : Key} (h : Rd H a (.dK kvs)) : DGet H a (kV k) (valV kvs k) := .inl ⟨kvs, k, h, rfl, rfl⟩
/-- d[k] of an owned dict whose items are values -/
def eDIx (i : Nat) (gk : Env → R D) : Env → R D := fun c => match atDk i c with
  | some q => gk c >>= fun k => lift (D.key k) >>= fun kk => lift ((dGet q.1 q.2 kk).bind fun o => match o with | .v d => some d | _ => none)
  | none => .stuck
theorem px_dix {x : Str} {p : Pos} (i : Nat) {eb : Expr} {gb : Env → R D} (hu : X.A.units + 1 < cLine) (hb : PX X W b eb gb) (hN : X.N[i]? = some x := by rfl) (hv : Vis X.env.scope x := by first | exact Or.inl rfl | exact Or.inr (Or.inl rfl) | exact Or.inr (Or.inr rfl)) (hd : (x == ("__debug__" : Str)) = false := by decide)
    (hcd : (x == ("__classdict__" : Str)) = false := by decide) (hs : NoSl eb := by exact fun _ _ => rfl) : PX X W true (.Subscript (.Name x p) eb pos) (eDIx i gb) :=
  pe_mono (pe_dget hu (pe_var hN hv hd hcd) hb hs) fun σ H Q ⟨B, G, c, fp, A, q⟩ => by
    unfold eDIx at q
    split at q
    · rename_i ko e0
      obtain ⟨a0, kvs0, fq0, h1, _, _, _⟩ := A.dict e0
      refine ⟨_, h1, tx_seq A q fun k e3 w G1 H1 s1 t1 A1 r1 q1 => ?_⟩
      cases hk : D.key k with
      | none => rw [hk] at q1; exact q1.elim
      | some kk =>
        rw [hk] at q1
        obtain ⟨d, e4, p4⟩ := Res.lift q1
        obtain ⟨a, kvs, fq, h1', ha, hk', ho⟩ := A1.dict e0
        rw [h1] at h1'
        cases h1'
        obtain ⟨o, e5, e6⟩ := Option.bind_eq_some_iff.mp e4
        obtain ⟨v8, f8, e9, e10⟩ := (dGet_own (kk := kk) hk' ho).1 o e5
        cases o with
        | v d' =>
          cases e6
          cases e10 with
          | v rv =>
            have hw := rp_key r1 hk
            subst hw
            exact ⟨_, v8, rfl, by rw [← e9]; exact dget_rd ha, p4 _ G1 H1 s1 t1 A1 rv⟩
        | _ => cases e6
    · exact q.elim
/-- k in d, of an owned dict -/
def eDIn (neg : Bool) (i : Nat) (gk : Env → R D) : Env → R D := fun c => match atDk i c with
  | some q => gk c >>= fun k => lift (D.key k) >>= fun kk => .ok (.bl (cond neg (!hasK q.1 kk) (hasK q.1 kk)))
  | none => .stuck
theorem TXin {i : Nat} {gb : Env → R D} {neg : Bool} {td : TE} {σ : L2.St} {H : Hp} {Q : VK} (hv : ∀ (σ : L2.St) (H : Hp) (Q : VK) (v : V), σ[i]? = some (some v) → Q v H → td σ H Q)
    (q : TX ⟨X.K, X.mg, X.w⟩ W true (eDIn neg i gb) σ H Q) : TX ⟨X.K, X.mg, X.w⟩ W b gb σ H fun y H1 => td σ H1 fun x H2 => ∃ a o, x = .ref a ∧ DGet H2 a y o ∧ Q (.bl (cond neg (!o.isSome) o.isSome)) H2 := by
  obtain ⟨B, G, c, fp, A, q⟩ := q
  unfold eDIn at q
  split at q
  · rename_i ko e0
    obtain ⟨a0, kvs0, fq0, h1, _, _, _⟩ := A.dict e0
    refine tx_seq A q fun k e3 w G1 H1 s1 t1 A1 r1 q1 => hv σ H1 _ _ h1 ?_
    cases hk : D.key k with
    | none => rw [hk] at q1; exact q1.elim
    | some kk =>
      rw [hk] at q1
      obtain ⟨a, kvs, fq, h1', ha, hk', ho⟩ := A1.dict e0
      rw [h1] at h1'
      cases h1'
      have hw := rp_key r1 hk
      subst hw
      refine ⟨_, _, rfl, dget_rd ha, ?_⟩
      rw [← valV_any, ← hasK_kvs hk' kk]
      exact q1 _ G1 H1 s1 t1 A1 (.bl _)
  · exact q.elim
theorem px_din {x : Str} {p : Pos} (i : Nat) {eb : Expr} {gb : Env → R D} (hu : X.A.units + 1 < cLine) (hb : PX X W b eb gb) (hN : X.N[i]? = some x := by rfl) (hv : Vis X.env.scope x := by first | exact Or.inl rfl | exact Or.inr (Or.inl rfl) | exact Or.inr (Or.inr rfl)) (hd : (x == ("__debug__" : Str)) = false := by decide)
    (hcd : (x == ("__classdict__" : Str)) = false := by decide) : PX X W true (.Compare eb [.In] [.Name x p] pos) (eDIn false i gb) :=
  pe_mono (pe_cmp (pc_din hu hb (pe_var hN hv hd hcd)) rfl) fun σ H Q q => TXin (neg := false) (fun σ H Q v e q => ⟨v, e, q⟩) q
theorem px_dnotin {x : Str} {p : Pos} (i : Nat) {eb : Expr} {gb : Env → R D} (hu : X.A.units + 1 < cLine) (hb : PX X W b eb gb) (hN : X.N[i]? = some x := by rfl) (hv : Vis X.env.scope x := by first | exact Or.inl rfl | exact Or.inr (Or.inl rfl) | exact Or.inr (Or.inr rfl)) (hd : (x == ("__debug__" : Str)) = false := by decide)
    (hcd : (x == ("__classdict__" : Str)) = false := by decide) : PX X W true (.Compare eb [.NotIn] [.Name x p] pos) (eDIn true i gb) :=
  pe_mono (pe_cmp (pc_dnotin hu hb (pe_var hN hv hd hcd)) rfl) fun σ H Q q => TXin (neg := true) (fun σ H Q v e q => ⟨v, e, q⟩) q
theorem pxt_din {x : Str} {p : Pos} (i : Nat) {eb : Expr} {gb : Env → R D} (hu : X.A.units + 1 < cLine) (hb : PX X W b eb gb) (hN : X.N[i]? = some x := by rfl) (hv : Vis X.env.scope x := by first | exact Or.inl rfl | exact Or.inr (Or.inl rfl) | exact Or.inr (Or.inr rfl)) (hd : (x == ("__debug__" : Str)) = false := by decide)
    (hcd : (x == ("__classdict__" : Str)) = false := by decide) : PXT X W (.Compare eb [.In] [.Name x p] pos) (eB (eDIn false i gb)) :=
  pt_mono (pt_cmp (pc_din hu hb (pe_var hN hv hd hcd)) rfl) fun σ H Q q => TXin (neg := false) (fun σ H Q v e q => ⟨v, e, q⟩) (tx_test (b := true) σ H Q q)
theorem pxt_dnotin {x : Str} {p : Pos} (i : Nat) {eb : Expr} {gb : Env → R D} (hu : X.A.units + 1 < cLine) (hb : PX X W b eb gb) (hN : X.N[i]? = some x := by rfl) (hv : Vis X.env.scope x := by first | exact Or.inl rfl | exact Or.inr (Or.inl rfl) | exact Or.inr (Or.inr rfl)) (hd : (x == ("__debug__" : Str)) = false := by decide)
    (hcd : (x == ("__classdict__" : Str)) = false := by decide) : PXT X W (.Compare eb [.NotIn] [.Name x p] pos) (eB (eDIn true i gb)) :=
  pt_mono (pt_cmp (pc_dnotin hu hb (pe_var hN hv hd hcd)) rfl) fun σ H Q q => TXin (neg := true) (fun σ H Q v e q => ⟨v, e, q⟩) (tx_test (b := true) σ H Q q)
/-! ### a new dict -/
def eDNew : Env → R O := fun _ => .ok (.dic [] [])
theorem pf_dnew : PF X W (.Dict [] [] pos) eDNew :=
  pe_mono pe_dnewK fun σ H Q ⟨B, G, c, fp, A, q⟩ => fun p hp => by
    have q' : PostF ⟨X.K, X.mg, X.w⟩ B c σ fp G H Q (.dic [] []) := q
    refine q' (.ref p) G _ [p] (Same.refl _) (same_upd hp) (A.newO hp rfl) (.dic (kvs := []) upd_same rfl .nil) (by simp) fun q hq => ?_
    have : q = p := by simpa using hq
    subst this
    exact ⟨hp, A.fine.fresh hp⟩
/-- {k: v} of constants -/
def eD1 (k d : D) : Env → R O := fun _ => .ok (.dic [k] [.v d])
theorem pf_d1 {ke ve : Expr} {k d : D} {kk : Key} {w : V} (hk : PE X ke fun _ H Q => Q (kV kk) H) (hv : PE X ve fun _ H Q => Q w H) (ek : D.key k = some kk) (hd : ∀ G : Hp, Rp ⟨X.K, X.mg, X.w⟩ G w d) : PF X W (.Dict [some ke] [ve] pos) (eD1 k d) :=
  pe_mono (pe_disp (pps_cons hk hv pps_nil) rfl rfl (by simp) (by simp)) fun σ H Q ⟨B, G, c, fp, A, q⟩ => fun p hp => by
    have q' : PostF ⟨X.K, X.mg, X.w⟩ B c σ fp G H Q (.dic [k] [.v d]) := q
    refine ⟨upd_same, [(kk, w)], rfl, by simp, ?_⟩
    have e : upd (upd H p (.dK [])) p (.dK (mergeK [] [(kk, w)])) = upd H p (.dK [(kk, w)]) := by
      funext a
      by_cases ha : a = p
      · subst ha; rw [upd_same, upd_same]; rfl
      · rw [upd_ne ha, upd_ne ha, upd_ne ha]
    rw [e]
    refine q' (.ref p) G _ [p] (Same.refl _) (same_upd hp) (A.newO hp rfl) (.dic (kvs := [(kk, w)]) upd_same (by simp [ek]) (.cons (.v (hd G)) .nil)) (by simp) fun q hq => ?_
    have : q = p := by simpa using hq
    subst this
    exact ⟨hp, A.fine.fresh hp⟩
theorem kc_int {i : Int} {j : Nat} : PE X (.Constant (.int i) j pos) fun _ H Q => Q (kV (.inl i)) H := pe_mono pe_int fun _ _ _ q => q
theorem kc_str {x : Str} {j : Nat} (l : List Nat) (h : x = S l := by decide +kernel) : PE X (.Constant (.str x) j pos) fun _ H Q => Q (kV (.inr (S l))) H := by
  subst h
  exact pe_mono pe_str fun _ _ _ q => q
theorem vc_int {i : Int} {j : Nat} : PE X (.Constant (.int i) j pos) fun _ H Q => Q (.int i) H := pe_mono pe_int fun _ _ _ q => q
theorem vc_bl {t : Bool} {j : Nat} : PE X (.Constant (.bool t) j pos) fun _ H Q => Q (.bl t) H := pe_mono pe_bl fun _ _ _ q => q
theorem vc_str {x : Str} {j : Nat} (l : List Nat) (h : x = S l := by decide +kernel) : PE X (.Constant (.str x) j pos) fun _ H Q => Q (.str (S l)) H := by
  subst h
  exact pe_mono pe_str fun _ _ _ q => q
/-! ### list(d), the keys -/
def fListD : List D → Option D
  | [.dic ks _] => some (.lst ks)
  | _ => none
theorem ok_listD : CallOk ⟨X.K, X.mg, X.w⟩ (fun xs H Q => ∃ (a : Addr) (kvs : List (Key × V)), xs = [.ref a] ∧ Rd H a (.dK kvs) ∧ ∀ p, H p = none → Q (.ref p) (upd H p (.lst (kvs.map fun kv => kV kv.1)))) b true fListD := by
  intro B G H c σ fp vs ds d Q A r e p
  unfold fListD at e
  split at e
  · cases e
    obtain ⟨v, rfl, rv⟩ := r.one
    cases rv with
    | dic h hk hr => exact ⟨_, _, rfl, Same.rd (same_vw b A.fine.le) h, fun q hq => p.new A hq fun s => .lst (.inl (.inl upd_same)) (keys_rp hk)⟩
  · cases e
/-! ### d.get(k, e) of an owned dict whose items are values -/
def eDGt (i : Nat) (gk ge : Env → R D) : Env → R D := fun c => match atDk i c with
  | some q => gk c >>= fun k => lift (D.key k) >>= fun kk => ge c >>= fun d => lift (match dGet q.1 q.2 kk with | some (.v e) => some e | some _ => none | none => some d)
  | none => .stuck
theorem px_dgt {x : Str} {p apos cpos : Pos} (i : Nat) {eb ef : Expr} {gb ge : Env → R D} (hu : X.A.units + 1 < cLine) (hb : PX X W b eb gb) (he : PX X W true ef ge) (m : M2 X (.Name x p) "get" apos eb ef cpos) (hN : X.N[i]? = some x := by rfl) (hv : Vis X.env.scope x := by first | exact Or.inl rfl | exact Or.inr (Or.inl rfl) | exact Or.inr (Or.inr rfl)) (hd : (x == ("__debug__" : Str)) = false := by decide)
    (hcd : (x == ("__classdict__" : Str)) = false := by decide) : PX X W true (.Call (.Attribute (.Name x p) "get" apos) [eb, ef] [] cpos) (eDGt i gb ge) :=
  pe_mono (pe_dget2 hu (pe_var hN hv hd hcd) hb he m) fun σ H Q ⟨B, G, c, fp, A, q⟩ => by
    unfold eDGt at q
    split at q
    · rename_i ko e0
      obtain ⟨a, kvs, fq, h1, ha, hk', ho⟩ := A.dict e0
      · refine ⟨_, h1, a, rfl, .inl ⟨kvs, ha⟩, tx_seq A q fun k e3 w G1 H1 s1 t1 A1 r1 q1 => ?_⟩
        cases hk : D.key k with
        | none => rw [hk] at q1; exact q1.elim
        | some kk =>
          rw [hk] at q1
          refine tx_seq A1 q1 fun d e4 w2 G2 H2 s2 t2 A2 r2 q2 => ?_
          obtain ⟨d3, e5, p4⟩ := Res.lift q2
          obtain ⟨a', kvs, fq, h1', ha, hk', ho⟩ := A2.dict e0
          rw [h1] at h1'
          cases h1'
          · have g := dGet_own (kk := kk) hk' ho
            have hw := rp_key r1 hk
            subst hw
            refine ⟨valV kvs kk, dget_rd ha, ?_⟩
            split at e5
            · rename_i e6
              cases e5
              obtain ⟨v8, f8, e9, e10⟩ := g.1 _ e6
              rw [e9]
              cases e10 with
              | v rv => exact p4 _ G2 H2 (s1.trans s2) (t1.trans t2) A2 rv
            · cases e5
            · rename_i e6
              cases e5
              rw [g.2 e6]
              exact p4 _ G2 H2 (s1.trans s2) (t1.trans t2) A2 r2
    · exact q.elim
end
end VS

/-! VS: a range downward. -/
namespace VS
open PySem PySem.Spec PyProof.Rows L2
def rangeN (i j : Int) : List D := (List.range (i - j).toNat).map fun (k : Nat) => .int (i + (k : Int) * (-1))
def eItN (ga gb gc : Env → R D) : Env → R (List D) := fun c => ga c >>= fun d => lift (asI d) >>= fun lo => gb c >>= fun d2 => lift (asI d2) >>= fun hi => gc c >>= fun d3 => match d3 with
  | .int s => if s = -1 then .ok (rangeN lo hi) else .stuck
  | _ => .stuck
theorem wk_rngN {E : Wd} {Hs G : Hp} {i j : Int} : Wk E (Itc i (-1) (i - j).toNat) Hs G (rangeN i j) := by
  have hl : (rangeN i j).length = (i - j).toNat := by simp [rangeN]
  refine ⟨fun k H s hk => ?_, fun k H x H' s y => ⟨y.1, fun d e => ?_⟩, fun k H s hk => ?_⟩
  · rw [hl] at hk; exact hk
  · unfold rangeN at e
    rw [List.getElem?_map] at e
    obtain ⟨m, hm, rfl⟩ := Option.map_eq_some_iff.mp e
    obtain ⟨hk, rfl⟩ := List.getElem?_eq_some_iff.mp hm
    rw [List.getElem_range, y.2]
    exact .int _
  · rw [hl] at hk; exact hk
section
variable {X : Cx} {W : WX} {b b2 b3 b' : Bool} {tg : Expr}
theorem src_rn {a a2 a3 : Expr} {ga gb gc : Env → R D} {p2 p3 : Pos} (hm : X.mg "range" = none) (h : PX X W b a ga) (h2 : PX X W b2 a2 gb) (h3 : PX X W b3 a3 gc) (hg : Gl X "range" := by rfl)
    (hs1 : starEach [a3] X.env = (false, eval a3 X.env) :: starEach [] X.env := by rfl) (hs2 : starEach [a2, a3] X.env = (false, eval a2 X.env) :: starEach [a3] X.env := by rfl)
    (hs3 : starEach [a, a2, a3] X.env = (false, eval a X.env) :: starEach [a2, a3] X.env := by rfl) (hpl : (backTo p3 (starEach [a2, a3] X.env)).any (·.1) = false := by rfl) :
    PSrc X W b' tg (.Call (.Name "range" p2) [a, a2, a3] [] p3) (iRng3 (tCons (TX ⟨X.K, X.mg, X.w⟩ W b ga) (tCons (TX ⟨X.K, X.mg, X.w⟩ W b2 gb) (tCons (TX ⟨X.K, X.mg, X.w⟩ W b3 gc) tNil)))) (eItN ga gb gc) :=
  ⟨pi_range3 hg hm (pa_cons h (pa_cons h2 (pa_cons h3 pa_nil hs1) hs2) hs3) hs3 hpl, fun {B G H c σ fp P R} A q k => by
    refine tx_seq A q fun d e v G1 H1 s1 t1 A1 r1 q1 => ?_
    cases hd : asI d with
    | none => rw [hd] at q1; exact q1.elim
    | some lo =>
      rw [hd] at q1
      obtain ⟨rfl, h1, h2⟩ := asI_rp r1 hd
      refine tx_seq A1 q1 fun d2 e2 v2 G2 H2 s2 t2 A2 r2 q2 => ?_
      cases hd2 : asI d2 with
      | none => rw [hd2] at q2; exact q2.elim
      | some hi =>
        rw [hd2] at q2
        obtain ⟨rfl, h3, h4⟩ := asI_rp r2 hd2
        refine tx_seq A2 q2 fun d3 e3 v3 G3 H3 s3 t3 A3 r3 q3 => ?_
        cases d3 with
        | int s =>
          by_cases hs : s = -1
          · subst hs
            have q4 : Res ⟨X.K, X.mg, X.w⟩ W B c σ fp G3 H3 (if (-1 : Int) = -1 then VS.R.ok (rangeN lo hi) else .stuck) P := q3
            rw [if_pos rfl] at q4
            refine ⟨lo, hi, -1, _, by rw [r3.intH], RgC.neg h1 h2 h3 h4, k _ G3 H3 _ ?_ ((s1.trans s2).trans s3) ((t1.trans t2).trans t3) A3 wk_rngN q4⟩
            unfold eItN
            rw [e]
            simp only [ok_bind, hd, lift_some, e2, hd2, e3]
            rfl
          · have q4 : Res ⟨X.K, X.mg, X.w⟩ W B c σ fp G3 H3 (if s = -1 then VS.R.ok (rangeN lo hi) else .stuck) P := q3
            rw [if_neg hs] at q4
            exact q4.elim
        | _ => exact q3.elim⟩
end
end VS

/-! VS: lists of owned lists. -/
namespace VS
open PySem PySem.Spec PyProof.Rows L2

def compLO (t : Env → R Bool) (g : Env → R O) (i : Nat) (c : Env) : List D → R (List O)
  | [] => .ok []
  | d :: ds => noX (t (c.set i (some (.v d)))) >>= fun b => if b then noX (g (c.set i (some (.v d)))) >>= fun x => compLO t g i c ds >>= fun xs => .ok (x :: xs) else compLO t g i c ds
def eLcsO (gs : Env → R (List D)) (t : Env → R Bool) (g : Env → R O) (i : Nat) : Env → R (List O) := fun c => gs c >>= fun ds => compLO t g i c ds >>= fun es => if es.length ≤ 16777216 then .ok es else .stuck
def eLcOO (gs : Env → R (List D)) (t : Env → R Bool) (g : Env → R O) (i : Nat) : Env → R O := fun c => eLcsO gs t g i c >>= fun es => .ok (.lst es)
/-- what stands between two turns of a comprehension of new things -/
structure LcAtO (E : Wd) (B : Bs) (c : Env) (σ : L2.St) (fp : List Addr) (H1 G1 : Hp) (p : Addr) (os : List O) (H : Hp) : Prop where
  ex : ∃ G' vs fq, Same G1 G' ∧ Abs E B G' H c σ fp ∧ H p = some (.lst vs) ∧ G' p = none ∧ OwnL E G' H vs os fq ∧ fq.Nodup ∧ p ∉ fq ∧ ∀ q ∈ fq, H1 q = none ∧ G' q = none
theorem OwnL.there {E : Wd} {G H : Hp} : ∀ {vs : List V} {os : List O} {fp : List Addr}, OwnL E G H vs os fp → ∀ p ∈ fp, H p ≠ none
  | _, [], _, h, p, hp => by cases h; cases hp
  | _, o :: os, _, h, p, hp => by
    cases h with
    | cons h r => exact (List.mem_append.mp hp).elim (fun z => h.there p z) fun z => r.there p z
section
variable {X : Cx} {W : WX} {pn : List Nat} {e elt : Expr} {ifs : List Expr} {pos : Pos} {wi : TI} {gs : Env → R (List D)} {t : Env → R Bool} {g : Env → R O} {i : Nat}
theorem compLO_ex : ∀ ds x (c : Env), compLO t g i c ds ≠ .ex x := by
  intro ds
  induction ds with
  | nil => intro x c z; cases z
  | cons d ds ih =>
    intro x c z
    rw [compLO] at z
    cases ht : t (c.set i (some (.v d))) with
    | ok b =>
      rw [ht] at z
      simp only [noX_ok, ok_bind] at z
      split at z
      · cases hg : g (c.set i (some (.v d))) with
        | ok y =>
          rw [hg] at z
          simp only [noX_ok, ok_bind] at z
          cases hc : compLO t g i c ds with
          | ok ys => rw [hc] at z; cases z
          | ex y => exact ih y _ hc
          | stuck => rw [hc] at z; cases z
        | ex y => rw [hg] at z; cases z
        | stuck => rw [hg] at z; cases z
      · exact ih x _ z
    | ex y => rw [ht] at z; cases z
    | stuck => rw [ht] at z; cases z
theorem tlc_ofO (K : PySem.W.Frag) (mg : Str → Option Value) (hX : X.K = K) (hmg : X.mg = mg) {tg : Expr} {b : Bool} (ha : PSrc X W b tg e wi gs) {B : Bs} {G H : Hp} {c : Env} {σ : L2.St} {fp : List Addr} {Q : VK} {P : List O → Prop} (A : Abs ⟨X.K, X.mg, X.w⟩ B G H c σ fp) (q : Res ⟨X.K, X.mg, X.w⟩ W B c σ fp G H (eLcsO gs t g i c) P)
    (k : ∀ es G1 H1 H2 p, Same G G1 → Same H H1 → Same H H2 → H p = none → p ∉ fp → B.H0 p = none → LcAtO ⟨X.K, X.mg, X.w⟩ B c σ fp H1 G1 p es H2 → P es → Q (.ref p) H2) : tLc wi (gName i) (TXT ⟨X.K, X.mg, X.w⟩ W0 t) (TF ⟨X.K, X.mg, X.w⟩ W0 g) [i] σ H Q := by
  refine ha.run (P := fun ds => Res ⟨X.K, X.mg, X.w⟩ W B c σ fp G H (compLO t g i c ds >>= fun es => if es.length ≤ 16777216 then R.ok es else .stuck) P) A ?_ fun ds G1 H1 J eds s1 t1 A1 w q1 => ?_
  · unfold eLcsO at q
    cases h : gs c with
    | ok ds => rw [h] at q; exact q
    | ex x => rw [h] at q; exact q
    | stuck => rw [h] at q; exact q
  · intro p hp
    cases hes : compLO t g i c ds with
    | stuck => rw [hes] at q1; exact q1.elim
    | ex x => exact (compLO_ex ds x c hes).elim
    | ok tot =>
      rw [hes] at q1
      by_cases hl : tot.length ≤ 16777216
      · have q2 : Res ⟨X.K, X.mg, X.w⟩ W B c σ fp G H (if tot.length ≤ 16777216 then R.ok tot else .stuck) P := q1
        rw [if_pos hl] at q2
        have pf : p ∉ fp := fun z => A1.cells.there p z hp
        have p0 : B.H0 p = none := A1.fine.there p hp
        refine ⟨fun j m H => m = ds.length - j ∧ j ≤ ds.length ∧ Same H1 (fun a => if a = p then H1 a else H a) ∧ ∃ es rest, LcAtO ⟨X.K, X.mg, X.w⟩ B c σ fp H1 G1 p es H ∧ compLO t g i c (ds.drop j) = .ok rest ∧ es ++ rest = tot,
          ⟨ds.length, by simp, Nat.zero_le _, fun a o e => ?_, [], tot, ⟨G1, [], [], Same.refl _, A1.newO hp rfl, upd_same, A1.fine.fresh hp, .nil, List.nodup_nil, (fun z => nomatch z), (fun q hq => nomatch hq)⟩, hes, rfl⟩, ?_⟩
        · have hne : a ≠ p := ne_of_none e hp
          show (if a = p then H1 a else upd H1 p (.lst []) a) = some o
          rw [if_neg hne, upd_ne hne]; exact e
        · rintro j m H2 ⟨rfl, hj, sm, es, rest, ⟨G2, vs, fq, s2, A2, hD, gD, r2, n2, d2, f2⟩, hc, htot⟩
          have ws : Same (vw b G1 H1) H2 := by
            cases b with
            | true => exact s2.trans A2.fine.le
            | false =>
              intro a o e
              have e : H1 a = some o := e
              have z := sm a o e
              have z : (if a = p then H1 a else H2 a) = some o := z
              rw [if_neg (ne_of_none e hp)] at z
              exact z
          by_cases hlt : j < ds.length
          · refine .inr ⟨w.go j H2 ws hlt, fun H' => j + 1 ≤ ds.length ∧ Same H1 (fun a => if a = p then H1 a else H' a) ∧ ∃ es rest, LcAtO ⟨X.K, X.mg, X.w⟩ B c σ fp H1 G1 p es H' ∧ compLO t g i c (ds.drop (j + 1)) = .ok rest ∧ es ++ rest = tot, fun H' ⟨h1, h2, h3⟩ => ⟨_, by omega, rfl, h1, h2, h3⟩, fun x H3 y => ?_⟩
            obtain ⟨rfl, hr⟩ := w.yl j H2 x H3 ws y
            have hd := List.getElem?_eq_getElem hlt
            rw [drop_cons hd, compLO] at hc
            obtain ⟨tb, ht, hc⟩ := bind_ok_eq hc
            have ht := noX_eq ht
            have hsig : (wipe σ [i]).set i (some x) = σ.set i (some x) := by rw [wipe1, List.set_set]
            show (fun σ2 H2 => wipe σ2 [i] = wipe σ [i] ∧ _) ((wipe σ [i]).set i (some x)) H3
            rw [hsig]
            refine ⟨by rw [wipe1, wipe1, List.set_set], ?_⟩
            obtain ⟨B', fr, A3, back⟩ := A2.enter (i := i) ((hr _ hd).mono s2)
            refine ⟨B', G2, _, fr, A3, ?_⟩
            rw [ht]
            intro G4 H4 s4 t4 A4
            have smn : ∀ {Hx Hy : Hp}, Same H1 (fun a => if a = p then H1 a else Hx a) → Same Hx Hy → Same H1 (fun a => if a = p then H1 a else Hy a) := fun {Hx Hy} h1 h2 a o e => by
              have z := h1 a o e
              by_cases hap : a = p
              · show (if a = p then H1 a else Hy a) = some o
                rw [if_pos hap]; exact e
              · have z : (if a = p then H1 a else Hx a) = some o := z
                rw [if_neg hap] at z
                show (if a = p then H1 a else Hy a) = some o
                rw [if_neg hap]; exact h2 a o z
            cases tb with
            | false =>
              rw [if_neg (by decide)]
              have hc : compLO t g i c (ds.drop (j + 1)) = .ok rest := hc
              obtain ⟨A5, gr⟩ := back G4 H4 _ _ _ s4 t4 A4
              exact ⟨hlt, smn sm t4, es, rest, ⟨G4, vs, fq, s2.trans s4, A5, t4 p _ hD, gr p (by rw [hD]; exact fun z => nomatch z) gD, r2.keep s4 (fun q hq u e => t4 q u e), n2, d2, fun q hq => ⟨(f2 q hq).1, gr q (r2.there q hq) (f2 q hq).2⟩⟩, hc, htot⟩
            | true =>
              rw [if_pos rfl]
              have hc : (noX (g (c.set i (some (.v ds[j])))) >>= fun x => compLO t g i c (ds.drop (j + 1)) >>= fun xs => R.ok (x :: xs)) = .ok rest := hc
              obtain ⟨x1, hg, hc⟩ := bind_ok_eq hc
              have hg := noX_eq hg
              obtain ⟨xs, hxs, hc⟩ := bind_ok_eq hc
              cases hc
              refine ⟨B', G4, _, fr, A4, ?_⟩
              rw [hg]
              intro v5 G5 H5 fn s5 t5 A5 w5 n5 d5
              obtain ⟨A6, gr⟩ := back G5 H5 _ _ _ (s4.trans s5) (t4.trans t5) A5
              have hD5 : H5 p = some (.lst vs) := t5 p _ (t4 p _ hD)
              have g5 : G5 p = none := gr p (by rw [hD]; exact fun z => nomatch z) gD
              have hvl : vs.length = es.length := r2.length
              have hle : es.length < tot.length := by rw [← htot]; simp
              have pn5 : p ∉ fn := fun z => by
                have := (d5 p z).1
                rw [t4 p _ hD] at this; cases this
              have h1n : ∀ q, H4 q = none → H1 q = none := fun q e => by
                cases h : H1 q with
                | none => rfl
                | some o =>
                  have z := smn sm t4 q o h
                  have z : (if q = p then H1 q else H4 q) = some o := z
                  rw [if_neg (ne_of_none h hp), e] at z
                  cases z
              have upk : ∀ {q : Addr} {u : HO}, q ≠ p → H5 q = some u → upd H5 p (.lst (vs ++ [v5])) q = some u := fun hq e => by rw [upd_ne hq]; exact e
              refine ⟨vs, hD5, by rw [hvl, sizeLine_eq]; omega, hlt, fun a o e => ?_, es ++ [x1], xs, ⟨G5, vs ++ [v5], fq ++ (fn ++ []), s2.trans (s4.trans s5), A6.pokeOut pf g5 p0 rfl, upd_same, g5, ?_, ?_, ?_, ?_⟩, hxs, by rw [← htot]; simp⟩
              · have z := smn (smn sm t4) t5 a o e
                by_cases hap : a = p
                · show (if a = p then H1 a else _) = some o
                  rw [if_pos hap]; exact e
                · have z : (if a = p then H1 a else H5 a) = some o := z
                  rw [if_neg hap] at z
                  show (if a = p then H1 a else upd H5 p _ a) = some o
                  rw [if_neg hap, upd_ne hap]; exact z
              · refine (r2.keep (s4.trans s5) fun q hq u e => upk (fun z => d2 (z ▸ hq)) (t5 q u (t4 q u e))).append (.cons ?_ .nil)
                exact w5.keep (Same.refl _) fun q hq u e => upk (fun z => pn5 (z ▸ hq)) e
              · rw [List.append_nil]
                refine List.nodup_append.mpr ⟨n2, n5, fun a ha b hb e => ?_⟩
                subst e
                have z1 := r2.there a ha
                cases hh : H3 a with
                | none => exact z1 hh
                | some o =>
                  have := (d5 a hb).1
                  rw [t4 a o hh] at this
                  cases this
              · rw [List.append_nil]
                exact fun z => (List.mem_append.mp z).elim d2 pn5
              · rw [List.append_nil]
                intro q hq
                rcases List.mem_append.mp hq with z | z
                · exact ⟨(f2 q z).1, gr q (r2.there q z) (f2 q z).2⟩
                · exact ⟨h1n q (d5 q z).1, (d5 q z).2⟩
          · have ej : j = ds.length := by omega
            subst ej
            rw [List.drop_length] at hc
            cases hc
            rw [List.append_nil] at htot
            subst htot
            have smH : Same H H2 := fun a o e => by
              have e1 := t1 a o e
              have z := sm a o e1
              have z : (if a = p then H1 a else H2 a) = some o := z
              rw [if_neg (ne_of_none e1 hp)] at z
              exact z
            exact .inl ⟨w.st _ H2 ws (Nat.le_refl _), k es G1 H1 H2 p s1 t1 smH (t1.free hp) pf p0 ⟨G2, vs, fq, s2, A2, hD, gD, r2, n2, d2, f2⟩ q2⟩
      · have q2 : Res ⟨X.K, X.mg, X.w⟩ W B c σ fp G H (if tot.length ≤ 16777216 then R.ok tot else .stuck) P := q1
        rw [if_neg hl] at q2
        exact q2.elim
theorem tlc_oo {tg : Expr} {b : Bool} (ha : PSrc X W b tg e wi gs) : ∀ σ H Q, TF ⟨X.K, X.mg, X.w⟩ W (eLcOO gs t g i) σ H Q → tLc wi (gName i) (TXT ⟨X.K, X.mg, X.w⟩ W0 t) (TF ⟨X.K, X.mg, X.w⟩ W0 g) [i] σ H Q := fun σ H Q ⟨B, G, c, fp, A, q⟩ => by
  refine tlc_ofO X.K X.mg rfl rfl ha A (P := fun es => PostF ⟨X.K, X.mg, X.w⟩ B c σ fp G H Q (.lst es)) ?_ fun es G1 H1 H2 p s1 t1 t2 hp pf p0 l q1 => ?_
  · unfold eLcOO at q
    cases h : eLcsO gs t g i c with
    | ok es => rw [h] at q; exact q
    | ex x => rw [h] at q; exact q
    | stuck => rw [h] at q; exact q
  · obtain ⟨G2, vs, fq, s2, A2, hD, gD, r2, n2, d2, f2⟩ := l
    refine q1 _ _ _ (p :: fq) (s1.trans s2) t2 A2 (.lst hD r2) (List.nodup_cons.mpr ⟨d2, n2⟩) fun a ha => ?_
    rcases List.mem_cons.mp ha with z | z
    · subst z; exact ⟨hp, gD⟩
    · exact ⟨t1.free (f2 a z).1, (f2 a z).2⟩
section
variable {x y : Str} {p py : Pos} {scope : Scope} {spos : Pos}
theorem pf_lcO (i : Nat) (hc : X.calm = true) (hN : X.N.Nodup) {b : Bool} (ha : PSrc X W b (.Name x p) e wi gs) (ok : BlkOk X.N X.env.scope scope [(x, i)])
    (hg : ∀ (s : Shared) (H : Hp) (C : Addr) (cl : List (Str × Addr)) (fp : List Addr), PG (X.blk s H scope (compEnvC scope cl C X.env) fp) (.Name x p) (gName i)) (ht : ∀ (s : Shared) (H : Hp) (C : Addr) (cl : List (Str × Addr)) (fp : List Addr), PXTs (X.blk s H scope (compEnvC scope cl C X.env) fp) ifs t)
    (he : ∀ (s : Shared) (H : Hp) (C : Addr) (cl : List (Str × Addr)) (fp : List Addr), PF (X.blk s H scope (compEnvC scope cl C X.env) fp) W0 elt g) (hs : ∀ z, foldedSetIterable e X.env z = pure z := by intro _; rfl) :
    PF X W (.ListComp elt [⟨.Name x p, e, ifs, 0⟩] scope pos) (eLcOO gs t g i) := pe_mono (pe_lc (own := [(x, i)]) (tt := TXT ⟨X.K, X.mg, X.w⟩ W0 t) (te := TF ⟨X.K, X.mg, X.w⟩ W0 g) hc hN ha.pi ok hg ht he hs) (tlc_oo ha)
theorem pxs_setLcOO (k i : Nat) (hc : X.calm = true) (hN : X.N.Nodup) (hsw : swapsWith (.ListComp elt [⟨.Name x p, e, ifs, 0⟩] scope pos) (some (.Name y py)) spos.line X.env = pure true) {b : Bool} (ha : PSrc X W b (.Name x p) e wi gs) (ok : BlkOk X.N X.env.scope scope [(x, i)])
    (hg : ∀ (s : Shared) (H : Hp) (C : Addr) (cl : List (Str × Addr)) (fp : List Addr), PG (X.blk s H scope (compEnvC scope cl C X.env) fp) (.Name x p) (gName i)) (ht : ∀ (s : Shared) (H : Hp) (C : Addr) (cl : List (Str × Addr)) (fp : List Addr), PXTs (X.blk s H scope (compEnvC scope cl C X.env) fp) ifs t)
    (he : ∀ (s : Shared) (H : Hp) (C : Addr) (cl : List (Str × Addr)) (fp : List Addr), PF (X.blk s H scope (compEnvC scope cl C X.env) fp) W0 elt g) (hy : X.N[k]? = some y := by rfl) (hyl : X.env.scope.names.lookup y = some .local := by rfl) (hi : k ∉ pn := by decide) (hs : ∀ z, foldedSetIterable e X.env z = pure z := by intro _; rfl) :
    PXS X W pn (.Assign [.Name y py] (.ListComp elt [⟨.Name x p, e, ifs, 0⟩] scope pos) spos) (sSetO k (eLcOO gs t g i)) :=
  ps_mono (ps_setLc (own := [(x, i)]) (tt := TXT ⟨X.K, X.mg, X.w⟩ W0 t) (te := TF ⟨X.K, X.mg, X.w⟩ W0 g) hc hN hy hyl hsw ha.pi ok hg ht he hs) fun Dn σ H ⟨B, G, c, fp, A, P, q⟩ => tlc_oo ha σ H _ (tf_st A q fun o e v G1 H1 fq s1 t1 A1 w n d q1 => by
    obtain ⟨fr, A2⟩ := set_fresh A1 (A.cells.there) A.fine.there w n d P hi
    exact q1 _ G1 H1 fr (Same.refl _) A2)
end
end
/-! ### x[i][j] = e -/
/-- an own list that stands in an own list -/
theorem OwnL.poke {E : Wd} {G H : Hp} : ∀ {vs : List V} {os : List O} {fp : List Addr} {j : Nat} {os2 : List O}, OwnL E G H vs os fp → fp.Nodup → os[j]? = some (.lst os2) →
    ∃ (a : Addr) (ws : List V) (f2 : List Addr), vs[j]? = some (.ref a) ∧ H a = some (.lst ws) ∧ OwnL E G H ws os2 f2 ∧ f2.Nodup ∧ a ∉ f2 ∧ (∀ p ∈ a :: f2, p ∈ fp) ∧
      ∀ {ws' : List V} {os' : List O} {f' : List Addr}, OwnL E G (L2.upd H a (.lst ws')) ws' os' f' → f'.Nodup → (∀ p ∈ f', p ∈ f2) → ∃ fq, OwnL E G (L2.upd H a (.lst ws')) vs (os.set j (.lst os')) fq ∧ fq.Nodup ∧ ∀ p ∈ fq, p ∈ fp
  | _, [], _, j, os2, h, n, e => by simp at e
  | _, o :: os, _, 0, os2, h, n, e => by
    cases h with
    | @cons v vs _ _ f1 fr h k =>
      simp at e
      subst e
      cases h with
      | @lst a ws _ f2 ha ho =>
        obtain ⟨n1, n2, n3⟩ := List.nodup_append.mp n
        have nn := List.nodup_cons.mp n1
        refine ⟨a, ws, f2, rfl, ha, ho, nn.2, nn.1, fun p hp => List.mem_append_left _ hp, fun {ws' os' f'} h' m d => ?_⟩
        have ka := k.upd (p := a) (u := .lst ws') (fun z => n3 a List.mem_cons_self a z rfl)
        have d' : ∀ p ∈ a :: f', p ∈ a :: f2 := fun p hp => (List.mem_cons.mp hp).elim (fun z => z ▸ List.mem_cons_self) fun z => List.mem_cons_of_mem _ (d p z)
        refine ⟨_, .cons (.lst upd_same h') ka, List.nodup_append.mpr ⟨List.nodup_cons.mpr ⟨fun z => nn.1 (d a z), m⟩, n2, fun p hp b hb => n3 p (d' p hp) b hb⟩, fun p hp => ?_⟩
        exact (List.mem_append.mp hp).elim (fun z => List.mem_append_left _ (d' p z)) fun z => List.mem_append_right _ z
  | _, o :: os, _, j + 1, os2, h, n, e => by
    cases h with
    | @cons v vs _ _ f1 fr h k =>
      obtain ⟨n1, n2, n3⟩ := List.nodup_append.mp n
      obtain ⟨a, ws, f2, e1, ha, ho, m2, na, hin, hp⟩ := OwnL.poke k n2 (j := j) (by simpa using e)
      refine ⟨a, ws, f2, by simpa using e1, ha, ho, m2, na, fun p hp => List.mem_append_right _ (hin p hp), fun {ws' os' f'} h' m d => ?_⟩
      obtain ⟨fq, k1, k2, k3⟩ := hp h' m d
      have hk := h.keep (H' := L2.upd H a (.lst ws')) (Same.refl _) fun q hq u e => by
        have hne : q ≠ a := fun z => n3 q hq a (hin a List.mem_cons_self) z
        rw [upd_ne hne]; exact e
      exact ⟨_, .cons hk k1, List.nodup_append.mpr ⟨n1, k2, fun p hp b hb => n3 p hp b (k3 b hb)⟩, fun p hp => (List.mem_append.mp hp).elim (fun z => List.mem_append_left _ z) fun z => List.mem_append_right _ (k3 p z)⟩
def atLL (os : List O) (j : Nat) : Option (List O) := match os[j]? with
  | some (.lst os2) => some os2
  | _ => none
theorem atLL_eq {os : List O} {j : Nat} {os2 : List O} (h : atLL os j = some os2) : os[j]? = some (.lst os2) := by
  unfold atLL at h
  split at h
  · cases h; assumption
  · cases h
def sIxSet2 (i : Nat) (gj gk g : Env → R D) : Env → Rs := fun c => (g c).st c fun d => (lift (atL i c)).st c fun os => (gj c).st c fun dj => (lift (asI dj)).st c fun ij => (lift (ixN os.length ij)).st c fun j => (lift (atLL os j)).st c fun os2 =>
  (gk c).st c fun dk => (lift (asI dk)).st c fun ik => (lift (ixN os2.length ik)).st c fun k => .ok .nx (c.set i (some (.lst (os.set j (.lst (os2.set k (.v d)))))))
section
variable {X : Cx} {W : WX} {b : Bool} {pn : List Nat} {e : Expr} {pos : Pos}
theorem pxs_ixset2 {x : Str} {ej ek : Expr} {p p1 p2 : Pos} {b1 b2 : Bool} (i : Nat) {gj gk g : Env → R D} (h : PX X W true e g) (hj : PX X W b1 ej gj) (hk : PX X W b2 ek gk) (hN : X.N[i]? = some x := by rfl) (hv : Vis X.env.scope x := by first | exact Or.inl rfl | exact Or.inr (Or.inl rfl) | exact Or.inr (Or.inr rfl)) (hd : (x == ("__debug__" : Str)) = false := by decide) (hcd : (x == ("__classdict__" : Str)) = false := by decide)
    (hpl : PlainIx ej := by exact fun _ _ => rfl)
    (hs : swapsWithSole [.Subscript (.Subscript (.Name x p) ej p1) ek p2] e pos.line X.env = pure false := by rfl) (hw : swappedStores [.Subscript (.Subscript (.Name x p) ej p1) ek p2] e X.env = pure none := by rfl)
    (h1 : (assignEach [.Subscript (.Subscript (.Name x p) ej p1) ek p2] X.env).map (·.2) = [assign (.Subscript (.Subscript (.Name x p) ej p1) ek p2) X.env] := by rfl)
    (ha : ∀ v, assign (.Subscript (.Subscript (.Name x p) ej p1) ek p2) X.env v = (do
      let ov ← holding [v] (eval (.Subscript (.Name x p) ej p1) X.env)
      let iv ← holding [v, ov] (eval ek X.env)
      standAt p2
      holding [v, ov, iv] (setItem ov iv v)
      release [v, ov, iv] []) := by intro _; rfl) : PXS X W pn (.Assign [.Subscript (.Subscript (.Name x p) ej p1) ek p2] e pos) (sIxSet2 i gj gk g) :=
  ps_mono (ps_asg h (pg_sub (pe_ix ix_list (pe_var hN hv hd hcd) hj hpl) hk set_list ha) hs hw h1) fun Dn σ H ⟨B, G, c, fp, A, P, q⟩ => tx_st A q fun d e w G1 H1 s1 t1 A1 r1 q1 => by
    obtain ⟨os, e0, q1⟩ := lift_st q1
    have e1 := atL_eq e0
    obtain ⟨v, fq, h1, h2, _, _, _⟩ := A1.poke e1
    cases h2 with
    | @lst a vs _ fq ha ho =>
      refine ⟨_, h1, tx_st A1 q1 fun dj e3 w2 G2 H2 s2 t2 A2 r2 q2 => ?_⟩
      obtain ⟨ij, ej, q3⟩ := lift_st q2
      obtain ⟨j, ej2, q3⟩ := lift_st q3
      obtain ⟨os2, e2, q3⟩ := lift_st q3
      have e2 := atLL_eq e2
      have r2 := (asI_rp r2 ej).1
      subst r2
      obtain ⟨v, fq, h1', h2, n, hin, hpk⟩ := A2.poke e1
      rw [h1] at h1'
      cases h1'
      cases h2 with
      | @lst _ vs _ fq ha ho =>
        have nn := List.nodup_cons.mp n
        have haH := ha
        obtain ⟨a2, ws, f2, y1, _, _, _, _, _, _⟩ := ho.poke nn.2 e2
        have hat : atI vs ij = some (.ref a2) := by
          unfold atI
          rw [ho.length, ej2]
          exact y1
        refine ⟨a, vs, ij, _, rfl, rfl, .inl (.inl ha), hat, tx_st A2 q3 fun dk e4 w3 G3 H3 s3 t3 A3 r3 q4 => ?_⟩
        obtain ⟨ik, ek, q4⟩ := lift_st q4
        obtain ⟨k, ek2, q4⟩ := lift_st q4
        have r3 := (asI_rp r3 ek).1
        subst r3
        obtain ⟨v, fq, h1', h2, n, hin, hpk⟩ := A3.poke e1
        rw [h1] at h1'
        cases h1'
        cases h2 with
        | @lst _ vs _ fq ha ho =>
          have nn := List.nodup_cons.mp n
          have ha' := t3 a _ haH
          obtain ⟨a3, ws, f2, y1', y2, y3, y4, y5, y6, y7⟩ := ho.poke nn.2 e2
          have : (V.ref a3) = .ref a2 := by
            rw [ha] at ha'
            cases ha'
            rw [y1] at y1'
            exact (Option.some.inj y1').symm
          cases this
          refine ⟨a2, ws, ik, k, rfl, rfl, y2, by rw [y3.length]; exact ek2, ?_⟩
          have ho2 := y3.upd (p := a2) (u := .lst (ws.set k w)) y5
          obtain ⟨fr, k1, k2, k3⟩ := ho2.setV k (r1.mono (s2.trans s3)) y4
          obtain ⟨fs, z1, z2, z3⟩ := y7 k1 k2 k3
          have hne : a ≠ a2 := fun z => nn.1 (by rw [z]; exact y6 a2 List.mem_cons_self)
          obtain ⟨fp', A4⟩ := hpk (p := a2) (List.mem_cons_of_mem _ (y6 a2 List.mem_cons_self)) (u := .lst (ws.set k w)) rfl (.lst (by rw [upd_ne hne]; exact ha) z1) (List.nodup_cons.mpr ⟨fun z => nn.1 (z3 a z), z2⟩) (fun q hq => by
            rcases List.mem_cons.mp hq with z | z
            · rw [z]; exact List.mem_cons_self
            · exact List.mem_cons_of_mem _ (z3 q z))
          exact q4 σ G3 _ fp' (Same.refl _) A4
end
/-! ### a dict of constants, and .get of a known dict -/
section
variable {X : Cx} {W : WX} {b : Bool} {pos : Pos}
theorem px_dc {keys : List (Option Expr)} {values : List Expr} {trs : List (TE × TE)} (kvs : List (Key × V)) (ks ds : List D) (h : PPs X pos keys values trs) (hc : ∀ σ H R, R (kvs.map fun kv => (kV kv.1, kv.2)) H → tPairs trs σ H R := by exact fun _ _ _ q => q)
    (hm : mergeK [] kvs = kvs := by rfl) (hk : ks.map D.key = kvs.map (fun p => some p.1) := by rfl) (hd : ∀ G : Hp, RpL ⟨X.K, X.mg, X.w⟩ G (kvs.map (·.2)) ds) (hall : keys.all (·.isSome) = true := by rfl) (hl : keys.length = values.length := by rfl) (h0 : keys ≠ [] := by simp) (h15 : keys.length ≤ 15 := by decide) (h16 : kvs.length ≤ 15 := by decide) :
    PX X W true (.Dict keys values pos) (eC (.dic ks ds)) :=
  pe_mono (pe_disp h hall hl h0 h15) fun σ H Q ⟨B, G, c, fp, A, q⟩ => fun p hp => hc _ _ _ (by
    have q' : Post ⟨X.K, X.mg, X.w⟩ B c σ fp G H true Q (.dic ks ds) := q
    refine ⟨upd_same, kvs, rfl, h16, ?_⟩
    have e : upd (upd H p (.dK [])) p (.dK (mergeK [] kvs)) = upd H p (.dK kvs) := by
      rw [hm]
      funext a
      by_cases ha : a = p
      · subst ha; rw [upd_same, upd_same]
      · rw [upd_ne ha, upd_ne ha, upd_ne ha]
    rw [e]
    exact q'.new A hp fun s => .dic (.inl upd_same) hk (hd _))
def eDGe (gd gk ge : Env → R D) : Env → R D := fun c => gd c >>= fun dd => match dd with
  | .dic ks ds => gk c >>= fun k => lift (D.key k) >>= fun kk => ge c >>= fun d => lift (match dGet ks (ds.map .v) kk with | some (.v e) => some e | some _ => none | none => some d)
  | _ => .stuck
theorem px_dge {o eb ef : Expr} {apos cpos : Pos} {gd gb ge : Env → R D} (hu : X.A.units + 1 < cLine) (hd : PX X W true o gd) (hb : PX X W b eb gb) (he : PX X W true ef ge) (m : M2 X o "get" apos eb ef cpos) : PX X W true (.Call (.Attribute o "get" apos) [eb, ef] [] cpos) (eDGe gd gb ge) :=
  pe_mono (pe_dget2 hu hd hb he m) fun σ H Q ⟨B, G, c, fp, A, q⟩ => tx_seq A q fun dd e0 v0 G0 H0 s0 t0 A0 r0 q0 => by
    cases r0 with
    | @dic a kvs ks ds hr hk' ho =>
      have q0 : Res ⟨X.K, X.mg, X.w⟩ W B c σ fp G0 H0 (gb c >>= fun k => lift (D.key k) >>= fun kk => ge c >>= fun d => lift (match dGet ks (ds.map .v) kk with | some (.v e) => some e | some _ => none | none => some d)) (Post ⟨X.K, X.mg, X.w⟩ B c σ fp G H true Q) := q0
      refine ⟨a, rfl, .inl ⟨kvs, Same.rd A0.fine.le hr⟩, tx_seq A0 q0 fun k e3 w G1 H1 s1 t1 A1 r1 q1 => ?_⟩
      cases hk : D.key k with
      | none => rw [hk] at q1; exact q1.elim
      | some kk =>
        rw [hk] at q1
        refine tx_seq A1 q1 fun d e4 w2 G2 H2 s2 t2 A2 r2 q2 => ?_
        obtain ⟨d3, e5, p4⟩ := Res.lift q2
        have g := dGet_own (E := ⟨X.K, X.mg, X.w⟩) (G := G2) (H := H2) (kk := kk) hk' (ownL_v (ho.mono (s1.trans s2)))
        have hw := rp_key r1 hk
        subst hw
        refine ⟨valV kvs kk, dget_rd (Same.rd (s1.trans (s2.trans A2.fine.le)) hr), ?_⟩
        split at e5
        · rename_i e6
          cases e5
          obtain ⟨v8, f8, e9, e10⟩ := g.1 _ e6
          rw [e9]
          cases e10 with
          | v rv => exact p4 _ G2 H2 (s0.trans (s1.trans s2)) (t0.trans (t1.trans t2)) A2 rv
        · cases e5
        · rename_i e6
          cases e5
          rw [g.2 e6]
          exact p4 _ G2 H2 (s0.trans (s1.trans s2)) (t0.trans (t1.trans t2)) A2 r2
    | _ => exact q0.elim
end
end VS

/-! VS: dicts that are locked from when they are known: walked, made by comprehensions; min of a list; xs[::-1]. -/
namespace VS
open PySem PySem.Spec PyProof.Rows L2

/-! ### locking -/
theorem ps_lockIn {X : Cx} {st : Stmt} {t : TS} (h : PS X st t) : PS X st (fun Dn σ H => t Dn σ H ∨ ∃ d u, H d = some u ∧ Mut (some u) ∧ ∀ od, t Dn σ (upd H d (.frz od u))) := by
  refine ⟨fun pins s σ H D I hw => ?_⟩
  rcases hw with hw | ⟨d, u, hd, mu, hw⟩
  · exact h.run pins s σ H D I hw
  · obtain ⟨od, I1⟩ := I.lock hd mu
    exact h.run pins s σ _ _ I1 (hw od)
theorem pe_lockOut {X : Cx} {e : Expr} {t : TE} (h : PE X e t) : PE X e (fun σ H Q => t σ H fun v H' => ∃ d u, H' d = some u ∧ Mut (some u) ∧ ∀ od, Q v (upd H' d (.frz od u))) := by
  refine ⟨fun pins s σ H Q I hw => ?_⟩
  refine thn (h.run pins s σ H _ I hw) fun v s1 ⟨x, H1, I1, r, d, u, hd, mu, q⟩ => ?_
  obtain ⟨od, I2⟩ := I1.lock hd mu
  exact ⟨x, _, I2, r, q od⟩
def vals : List O → Option (List D)
  | [] => some []
  | .v d :: os => (vals os).map (d :: ·)
  | _ :: _ => none
theorem vals_own {E : Wd} {G H : Hp} : ∀ {vs : List V} {os : List O} {fp : List Addr} {ds : List D}, OwnL E G H vs os fp → vals os = some ds → RpL E G vs ds ∧ fp = []
  | _, [], _, ds, h, e => by cases h; cases e; exact ⟨.nil, rfl⟩
  | _, .v d :: os, _, ds, h, e => by
    cases h with
    | cons h r =>
      obtain ⟨es, e1, rfl⟩ := Option.map_eq_some_iff.mp e
      obtain ⟨h1, h2⟩ := vals_own r e1
      cases h with
      | v rv => subst h2; exact ⟨.cons rv h1, rfl⟩
  | _, .lst _ :: os, _, ds, h, e => by cases e
  | _, .dic _ _ :: os, _, ds, h, e => by cases e
  | _, .ndc _ _ :: os, _, ds, h, e => by cases e
  | _, .obj _ _ _ :: os, _, ds, h, e => by cases e
def fzK (i : Nat) (c : Env) : Option Env := match c[i]? with
  | some (some (.dic ks os)) => (vals os).map fun ds => c.set i (some (.v (.dlk ks ds)))
  | _ => none
def sFzK (i : Nat) (g : Env → Rs) : Env → Rs := fun c => match fzK i c with
  | some c' => g c'
  | none => .stuck
theorem Abs.fzK {E : Wd} {B : Bs} {G H : Hp} {c c' : Env} {σ : L2.St} {fp : List Addr} (A : Abs E B G H c σ fp) (nb : ∀ a, ¬ B.br a) {i : Nat} (h : VS.fzK i c = some c') : ∃ d u, H d = some u ∧ Mut (some u) ∧ ∀ od, ∃ G' fp', Same G G' ∧ Abs E B G' (upd H d (.frz od u)) c' σ fp' := by
  unfold VS.fzK at h
  split at h
  · rename_i ks os e
    obtain ⟨ds, ev, rfl⟩ := Option.map_eq_some_iff.mp h
    obtain ⟨v, fq, h1, h2, h3, h4, h5⟩ := A.cells.poke A.nd e
    cases h2 with
    | @dic a kvs _ _ f1 ha hk ho =>
      obtain ⟨hr, rfl⟩ := vals_own ho ev
      obtain ⟨ga, a2⟩ := A.fresh a (h4 a List.mem_cons_self)
      have h0 : B.H0 a = none := a2.elim id fun z => (nb a z).elim
      refine ⟨a, _, ha, True.intro, fun od => ?_⟩
      have s : Same G (upd G a (.frz od (.dK kvs))) := same_upd ga
      have ne : ∀ b ∈ fp, b ∉ [a] → b ≠ a := fun b _ hn z => hn (by rw [z]; exact List.mem_cons_self)
      obtain ⟨fp', k1, k2, k3⟩ := h5 (G' := upd G a (.frz od (.dK kvs))) (H' := upd H a (.frz od (.dK kvs))) (o' := .v (.dlk ks ds)) (fr := []) s (fun p hp hn u e => by rw [upd_ne (ne p hp hn)]; exact e) (.v (.dlk upd_same hk (hr.mono s))) List.nodup_nil (fun p hp => nomatch hp)
      have k4 : ∀ p ∈ fp', p ∈ fp ∧ p ≠ a := fun p hp => by
        obtain ⟨z, w⟩ : p ∈ fp ∧ p ∉ [a] := (k3 p hp).elim id fun z => nomatch z
        exact ⟨z, ne p z w⟩
      refine ⟨_, fp', s, ⟨⟨fun b o e n => ?_, fun b e => ?_, fun b e1 e2 => ?_, fun b u e => ?_, fun b u e k => ?_⟩, k1, k2, fun p hp => ⟨by rw [upd_ne (k4 p hp).2]; exact (A.fresh p (k4 p hp).1).1, (A.fresh p (k4 p hp).1).2⟩, A.pin⟩⟩
      · have hb : b ≠ a := fun z => by subst z; rw [h0] at e; cases e
        rw [upd_ne hb]; exact A.fine.base b o e n
      · by_cases hb : b = a
        · rw [hb]; exact h0
        · rw [upd_ne hb] at e; exact A.fine.there b e
      · have hb : b ≠ a := fun z => e1 (by rw [z]; exact h0)
        rw [upd_ne hb]; exact A.fine.x b e1 e2
      · by_cases hb : b = a
        · subst hb; rw [upd_same] at e ⊢; exact e
        · rw [upd_ne hb] at e ⊢; exact A.fine.le b u e
      · by_cases hb : b = a
        · subst hb; rw [upd_same] at e ⊢; exact e
        · rw [upd_ne hb] at e ⊢; exact A.fine.tup b u e k
  · cases h
section
variable {X : Cx} {W : WX} {b b' b1 b2 : Bool} {pn : List Nat} {e : Expr} {pos : Pos} {g : Env → Rs}
theorem pxs_fzK {st : Stmt} (i : Nat) (h : PXS X W [] st g) : PXS X W [] st (sFzK i g) := ps_mono (ps_lockIn h) fun Dn σ H ⟨B, G, c, fp, A, P, q⟩ => by
  unfold sFzK at q
  cases hf : fzK i c with
  | none => rw [hf] at q; exact q.elim
  | some c' =>
    rw [hf] at q
    obtain ⟨d, u, hd, mu, k⟩ := A.fzK (P.2 rfl) hf
    refine .inr ⟨d, u, hd, mu, fun od => ?_⟩
    obtain ⟨G', fp', s, A'⟩ := k od
    exact ⟨B, G', c', fp', A', P, ResS.grow (r := g c') q s⟩
/-! ### {} as a known thing -/
theorem px_dnewK : PX X W true (.Dict [] [] pos) (eC (.dlk [] [])) :=
  pe_mono (pe_lockOut pe_dnewK) fun σ H Q ⟨B, G, c, fp, A, q⟩ => fun p hp => by
    have q' : Post ⟨X.K, X.mg, X.w⟩ B c σ fp G H true Q (.dlk [] []) := q
    refine ⟨p, _, upd_same, True.intro, fun od => ?_⟩
    have e : upd (upd H p (.dK [])) p (.frz od (.dK [])) = upd H p (.frz od (.dK [])) := by
      funext a
      by_cases ha : a = p
      · subst ha; rw [upd_same, upd_same]
      · rw [upd_ne ha, upd_ne ha, upd_ne ha]
    rw [e]
    exact q'.new A hp fun s => .dlk (kvs := []) upd_same rfl .nil
/-! ### for k in d -/
def eItK (g : Env → R D) : Env → R (List D) := fun c => g c >>= fun d => match d with
  | .dlk ks _ => .ok ks
  | _ => .stuck
theorem wk_keys {E : Wd} {Hs G : Hp} {a : Addr} {o : Obj} {kvs : List (Key × V)} {ks : List D} (h : Hs a = some (.frz o (.dK kvs))) (hk : ks.map D.key = kvs.map (fun p => some p.1)) : Wk E (Itk a o kvs) Hs G ks := by
  have hl : ks.length = kvs.length := by simpa using congrArg List.length hk
  refine ⟨fun j H s hj => ⟨s a _ h, by rw [← hl]; exact hj⟩, fun j H x H' s y => ⟨y.1, fun d e => ?_⟩, fun j H s hj => ⟨s a _ h, by rw [← hl]; exact hj⟩⟩
  obtain ⟨k, v, e1, rfl⟩ := y.2
  have e2 : (ks.map D.key)[j]? = some (some k) := by rw [hk, List.getElem?_map, e1]; rfl
  rw [List.getElem?_map, e] at e2
  have e2 : D.key d = some k := by simpa using e2
  cases d <;> simp [D.key] at e2
  · subst e2; exact .int _
  · subst e2; exact .str _
theorem src_keys {tg : Expr} {ga : Env → R D} (h : PX X W true e ga) : PSrc X W b tg e (iKeys (TX ⟨X.K, X.mg, X.w⟩ W true ga)) (eItK ga) :=
  ⟨pi_keys h, fun {B G H c σ fp P R} A q k => tx_seq A q fun d e0 v G1 H1 s1 t1 A1 r1 q1 => by
    cases r1 with
    | @dlk a o kvs ks ds hr hk ho =>
      have hr : G1 a = some (.frz o (.dK kvs)) := hr
      have hh := A1.fine.le a _ hr
      refine ⟨a, o, rfl, .inl ⟨kvs, hh, k ks G1 H1 _ (by unfold eItK; rw [e0]; rfl) s1 t1 A1 (wk_keys ?_ hk) q1⟩⟩
      cases b with
      | true => exact hr
      | false => exact hh
    | _ => exact q1.elim⟩
/-! ### e[k], e a known dict -/
def dkv : D → Option (List D × List D)
  | .dic ks ds => some (ks, ds)
  | .dlk ks ds => some (ks, ds)
  | _ => none
theorem dkv_rp {E : Wd} {G : Hp} {v : V} {d : D} {q : List D × List D} (r : Rp E G v d) (h : dkv d = some q) : ∃ a kvs, v = .ref a ∧ Rd G a (.dK kvs) ∧ q.1.map D.key = kvs.map (fun p => some p.1) ∧ RpL E G (kvs.map (·.2)) q.2 := by
  cases r <;> simp [dkv] at h
  · subst h; exact ⟨_, _, rfl, ‹_›, ‹_›, ‹_›⟩
  · rename_i hr hk ho; subst h; exact ⟨_, _, rfl, .inr ⟨_, hr⟩, hk, ho⟩
def eDIxE (ga gk : Env → R D) : Env → R D := fun c => ga c >>= fun d => lift (dkv d) >>= fun q => gk c >>= fun k => lift (D.key k) >>= fun kk => lift ((dGet q.1 (q.2.map .v) kk).bind fun o => match o with | .v d => some d | _ => none)
theorem px_dixE {o eb : Expr} {ga gb : Env → R D} (hu : X.A.units + 1 < cLine) (ha : PX X W true o ga) (hb : PX X W b eb gb) (hs : NoSl eb := by exact fun _ _ => rfl) : PX X W true (.Subscript o eb pos) (eDIxE ga gb) :=
  pe_mono (pe_dget hu ha hb hs) fun σ H Q ⟨B, G, c, fp, A, q⟩ => tx_seq A q fun d0 e0 v0 G0 H0 s0 t0 A0 r0 q0 => by
    cases hd : dkv d0 with
    | none => rw [hd] at q0; exact q0.elim
    | some q' =>
      rw [hd] at q0
      obtain ⟨a, kvs, rfl, hr, hk', ho⟩ := dkv_rp (show Rp _ G0 v0 d0 from r0) hd
      refine tx_seq A0 q0 fun k e3 w G1 H1 s1 t1 A1 r1 q1 => ?_
      cases hk : D.key k with
      | none => rw [hk] at q1; exact q1.elim
      | some kk =>
        rw [hk] at q1
        obtain ⟨d, e4, p4⟩ := Res.lift q1
        obtain ⟨o, e5, e6⟩ := Option.bind_eq_some_iff.mp e4
        obtain ⟨v8, f8, e9, e10⟩ := (dGet_own (E := ⟨X.K, X.mg, X.w⟩) (G := G1) (H := H1) (kk := kk) hk' (ownL_v (ho.mono s1))).1 o e5
        cases o with
        | v d' =>
          cases e6
          cases e10 with
          | v rv =>
            have hw := rp_key r1 hk
            subst hw
            exact ⟨_, v8, rfl, by rw [← e9]; exact dget_rd (Same.rd (s1.trans A1.fine.le) hr), p4 _ G1 H1 (s0.trans s1) (t0.trans t1) A1 rv⟩
        | _ => cases e6
/-! ### min of a list of ints -/
def minI : List Int → Option Int
  | [] => none
  | i :: is => some (is.foldl min i)
theorem foldl_min : ∀ (is : List Int) (i : Int), (is.foldl min i ∈ i :: is) ∧ ∀ y ∈ i :: is, is.foldl min i ≤ y
  | [], i => ⟨by simp, fun y hy => by rw [List.mem_singleton.mp hy]; exact Int.le_refl _⟩
  | j :: is, i => by
    obtain ⟨h1, h2⟩ := foldl_min is (min i j)
    refine ⟨?_, fun y hy => ?_⟩
    · show (is.foldl min (min i j)) ∈ _
      rcases List.mem_cons.mp h1 with h | h
      · rw [h]
        rcases Int.min_def i j ▸ (by split <;> simp : (if i ≤ j then i else j) = i ∨ (if i ≤ j then i else j) = j) with z | z
        · rw [show min i j = i from (Int.min_def i j).trans z]; exact List.mem_cons_self
        · rw [show min i j = j from (Int.min_def i j).trans z]; exact List.mem_cons_of_mem _ List.mem_cons_self
      · exact List.mem_cons_of_mem _ (List.mem_cons_of_mem _ h)
    · show is.foldl min (min i j) ≤ y
      have h0 := h2 _ List.mem_cons_self
      rcases List.mem_cons.mp hy with h | h
      · subst h; omega
      · rcases List.mem_cons.mp h with h | h
        · subst h; omega
        · exact h2 y (List.mem_cons_of_mem _ h)
def fMinL : List D → Option D
  | [.lst ds] => (asInts ds).bind fun ns => (minI ns).map .int
  | _ => none
theorem ok_minL : CallOk ⟨X.K, X.mg, X.w⟩ (rMin X.K) b true fMinL := by
  intro B G H c σ fp vs ds d Q A r e p
  unfold fMinL at e
  split at e
  · rename_i ds
    obtain ⟨ns, e1, e2⟩ := Option.bind_eq_some_iff.mp e
    obtain ⟨m, e3, rfl⟩ := Option.map_eq_some_iff.mp e2
    obtain ⟨v, rfl, rv⟩ := r.one
    obtain ⟨a, vs, rfl, h1, r1⟩ := rv.lstH A.fine.le
    have hv : vs = ns.map V.int := asInts_rp r1 e1
    subst hv
    cases ns with
    | nil => cases e3
    | cons i is =>
      cases e3
      obtain ⟨f1, f2⟩ := foldl_min is i
      refine ⟨a, i :: is, rfl, h1, by simp, fun m hm hle => ?_⟩
      have : m = is.foldl min i := Int.le_antisymm (hle _ f1) (f2 m hm)
      subst this
      exact p.here A (.int _)
  · cases e
/-! ### e[::-1] -/
def eRev (ga : Env → R D) : Env → R D := fun c => ga c >>= fun d => match d with
  | .lst ds => .ok (.lst ds.reverse)
  | _ => .stuck
theorem px_revL {ga : Env → R D} {k : Nat} {p1 p2 p3 : Pos} (h : PX X W true e ga) : PX X W true (.Subscript e (.Slice none none (some (.UnaryOp .USub (.Constant (.int 1) k p1) p2)) p3) pos) (eRev ga) :=
  pe_mono (pe_revL h) fun σ H Q ⟨B, G, c, fp, A, q⟩ => tx_seq A q fun d e0 v G1 H1 s1 t1 A1 r1 q1 => by
    cases r1 with
    | @lst a vs ds hs r =>
      have q1 : Post ⟨X.K, X.mg, X.w⟩ B c σ fp G H true Q (.lst ds.reverse) := q1
      exact ⟨a, vs, rfl, Same.sqL A1.fine.le hs, fun p hp => (q1.grow s1 t1).new A1 hp fun s => .lst (.inl (.inl upd_same)) (RpL.reverse (r.mono s))⟩
    | _ => exact q1.elim
end
end VS

/-! VS: dict comprehensions. -/
namespace VS
open PySem PySem.Spec PyProof.Rows L2
def compD (t : Env → R Bool) (gk gv : Env → R D) (i : Nat) (c : Env) : List D → List D × List O → R (List D × List O)
  | [], a => .ok a
  | d :: ds, a => noX (t (c.set i (some (.v d)))) >>= fun b => if b then noX (gk (c.set i (some (.v d)))) >>= fun k => lift (D.key k) >>= fun kk => noX (gv (c.set i (some (.v d)))) >>= fun x =>
      if a.1.length < 16777216 then compD t gk gv i c ds (if hasK a.1 kk then (a.1, rep a.1 a.2 kk x) else (a.1 ++ [k], a.2 ++ [.v x])) else .stuck
    else compD t gk gv i c ds a
def eDcO (gs : Env → R (List D)) (t : Env → R Bool) (gk gv : Env → R D) (i : Nat) : Env → R O := fun c => gs c >>= fun ds => compD t gk gv i c ds ([], []) >>= fun a => .ok (.dic a.1 a.2)
/-- what stands between two turns -/
structure DcAt (E : Wd) (B : Bs) (c : Env) (σ : L2.St) (fp : List Addr) (G1 : Hp) (p : Addr) (a : List D × List O) (H : Hp) : Prop where
  ex : ∃ G' kvs, Same G1 G' ∧ Abs E B G' H c σ fp ∧ H p = some (.dK kvs) ∧ G' p = none ∧ a.1.map D.key = kvs.map (fun p => some p.1) ∧ OwnL E G' H (kvs.map (·.2)) a.2 []
section
variable {X : Cx} {W : WX} {pn : List Nat} {e kx vx : Expr} {ifs : List Expr} {pos : Pos} {wi : TI} {gs : Env → R (List D)} {t : Env → R Bool} {gk gv : Env → R D} {i : Nat}
theorem compD_ex : ∀ ds x a (c : Env), compD t gk gv i c ds a ≠ .ex x := by
  intro ds
  induction ds with
  | nil => intro x a c z; cases z
  | cons d ds ih =>
    intro x a c z
    rw [compD] at z
    cases ht : t (c.set i (some (.v d))) with
    | ok b =>
      rw [ht] at z
      simp only [noX_ok, ok_bind] at z
      split at z
      · cases hg : gk (c.set i (some (.v d))) with
        | ok y =>
          rw [hg] at z
          simp only [noX_ok, ok_bind] at z
          cases hk : D.key y with
          | none => rw [hk] at z; cases z
          | some kk =>
            rw [hk] at z
            simp only [lift_some, ok_bind] at z
            cases hv : gv (c.set i (some (.v d))) with
            | ok w =>
              rw [hv] at z
              simp only [noX_ok, ok_bind] at z
              by_cases hl : a.1.length < 16777216
              · rw [if_pos hl] at z; exact ih x _ _ z
              · rw [if_neg hl] at z; cases z
            | ex y => rw [hv] at z; cases z
            | stuck => rw [hv] at z; cases z
        | ex y => rw [hg] at z; cases z
        | stuck => rw [hg] at z; cases z
      · exact ih x _ _ z
    | ex y => rw [ht] at z; cases z
    | stuck => rw [ht] at z; cases z
theorem tdc_of (K : PySem.W.Frag) (mg : Str → Option Value) (hX : X.K = K) (hmg : X.mg = mg) {tg : Expr} {b bk : Bool} (ha : PSrc X W b tg e wi gs) {B : Bs} {G H : Hp} {c : Env} {σ : L2.St} {fp : List Addr} {Q : VK} (A : Abs ⟨X.K, X.mg, X.w⟩ B G H c σ fp) (q : Res ⟨X.K, X.mg, X.w⟩ W B c σ fp G H (eDcO gs t gk gv i c) (PostF ⟨X.K, X.mg, X.w⟩ B c σ fp G H Q)) :
    tDc wi (gName i) (TXT ⟨X.K, X.mg, X.w⟩ W0 t) (TX ⟨X.K, X.mg, X.w⟩ W0 bk gk) (TX ⟨X.K, X.mg, X.w⟩ W0 true gv) [i] σ H Q := by
  refine ha.run (P := fun ds => Res ⟨X.K, X.mg, X.w⟩ W B c σ fp G H (compD t gk gv i c ds ([], []) >>= fun a => R.ok (O.dic a.1 a.2)) (PostF ⟨X.K, X.mg, X.w⟩ B c σ fp G H Q)) A ?_ fun ds G1 H1 J eds s1 t1 A1 w q1 => ?_
  · unfold eDcO at q
    cases h : gs c with
    | ok ds => rw [h] at q; exact q
    | ex x => rw [h] at q; exact q
    | stuck => rw [h] at q; exact q
  · intro p hp
    cases hes : compD t gk gv i c ds ([], []) with
    | stuck => rw [hes] at q1; exact q1.elim
    | ex x => exact (compD_ex ds x _ c hes).elim
    | ok tot =>
      rw [hes] at q1
      have q2 : PostF ⟨X.K, X.mg, X.w⟩ B c σ fp G H Q (.dic tot.1 tot.2) := q1
      have pf : p ∉ fp := fun z => A1.cells.there p z hp
      have p0 : B.H0 p = none := A1.fine.there p hp
      refine ⟨fun j m H => m = ds.length - j ∧ j ≤ ds.length ∧ Same H1 (fun a => if a = p then H1 a else H a) ∧ ∃ a, DcAt ⟨X.K, X.mg, X.w⟩ B c σ fp G1 p a H ∧ compD t gk gv i c (ds.drop j) a = .ok tot,
        ⟨ds.length, by simp, Nat.zero_le _, fun a o e => ?_, ([], []), ⟨G1, [], Same.refl _, A1.newO hp rfl, upd_same, A1.fine.fresh hp, rfl, .nil⟩, hes⟩, ?_⟩
      · have hne : a ≠ p := ne_of_none e hp
        show (if a = p then H1 a else upd H1 p (.dK []) a) = some o
        rw [if_neg hne, upd_ne hne]; exact e
      · rintro j m H2 ⟨rfl, hj, sm, a, ⟨G2, kvs, s2, A2, hD, gD, hkk, r2⟩, hc⟩
        have ws : Same (vw b G1 H1) H2 := by
          cases b with
          | true => exact s2.trans A2.fine.le
          | false =>
            intro a o e
            have e : H1 a = some o := e
            have z := sm a o e
            have z : (if a = p then H1 a else H2 a) = some o := z
            rw [if_neg (ne_of_none e hp)] at z
            exact z
        by_cases hlt : j < ds.length
        · refine .inr ⟨w.go j H2 ws hlt, fun H' => j + 1 ≤ ds.length ∧ Same H1 (fun a => if a = p then H1 a else H' a) ∧ ∃ a, DcAt ⟨X.K, X.mg, X.w⟩ B c σ fp G1 p a H' ∧ compD t gk gv i c (ds.drop (j + 1)) a = .ok tot, fun H' ⟨h1, h2, h3⟩ => ⟨_, by omega, rfl, h1, h2, h3⟩, fun x H3 y => ?_⟩
          obtain ⟨rfl, hr⟩ := w.yl j H2 x H3 ws y
          have hd := List.getElem?_eq_getElem hlt
          rw [drop_cons hd, compD] at hc
          obtain ⟨tb, ht, hc⟩ := bind_ok_eq hc
          have ht := noX_eq ht
          have hsig : (wipe σ [i]).set i (some x) = σ.set i (some x) := by rw [wipe1, List.set_set]
          show (fun σ2 H2 => wipe σ2 [i] = wipe σ [i] ∧ _) ((wipe σ [i]).set i (some x)) H3
          rw [hsig]
          refine ⟨by rw [wipe1, wipe1, List.set_set], ?_⟩
          obtain ⟨B', fr, A3, back⟩ := A2.enter (i := i) ((hr _ hd).mono s2)
          refine ⟨B', G2, _, fr, A3, ?_⟩
          rw [ht]
          intro G4 H4 s4 t4 A4
          have smn : ∀ {Hx Hy : Hp}, Same H1 (fun a => if a = p then H1 a else Hx a) → Same Hx Hy → Same H1 (fun a => if a = p then H1 a else Hy a) := fun {Hx Hy} h1 h2 a o e => by
            have z := h1 a o e
            by_cases hap : a = p
            · show (if a = p then H1 a else Hy a) = some o
              rw [if_pos hap]; exact e
            · have z : (if a = p then H1 a else Hx a) = some o := z
              rw [if_neg hap] at z
              show (if a = p then H1 a else Hy a) = some o
              rw [if_neg hap]; exact h2 a o z
          cases tb with
          | false =>
            rw [if_neg (by decide)]
            have hc : compD t gk gv i c (ds.drop (j + 1)) a = .ok tot := hc
            obtain ⟨A5, gr⟩ := back G4 H4 _ _ _ s4 t4 A4
            exact ⟨hlt, smn sm t4, a, ⟨G4, kvs, s2.trans s4, A5, t4 p _ hD, gr p (by rw [hD]; exact fun z => nomatch z) gD, hkk, r2.keep s4 (fun q hq => nomatch hq)⟩, hc⟩
          | true =>
            rw [if_pos rfl]
            have hc : (noX (gk (c.set i (some (.v ds[j])))) >>= fun k => lift (D.key k) >>= fun kk => noX (gv (c.set i (some (.v ds[j])))) >>= fun x =>
              if a.1.length < 16777216 then compD t gk gv i c (ds.drop (j + 1)) (if hasK a.1 kk then (a.1, rep a.1 a.2 kk x) else (a.1 ++ [k], a.2 ++ [.v x])) else .stuck) = .ok tot := hc
            obtain ⟨k1, hg, hc⟩ := bind_ok_eq hc
            have hg := noX_eq hg
            cases hkey : D.key k1 with
            | none => rw [hkey] at hc; cases hc
            | some kk =>
              rw [hkey] at hc
              have hc : (noX (gv (c.set i (some (.v ds[j])))) >>= fun x =>
                if a.1.length < 16777216 then compD t gk gv i c (ds.drop (j + 1)) (if hasK a.1 kk then (a.1, rep a.1 a.2 kk x) else (a.1 ++ [k1], a.2 ++ [.v x])) else .stuck) = .ok tot := hc
              obtain ⟨x1, hv, hc⟩ := bind_ok_eq hc
              have hv := noX_eq hv
              by_cases hl : a.1.length < 16777216
              · rw [if_pos hl] at hc
                refine ⟨B', G4, _, fr, A4, ?_⟩
                rw [hg]
                intro y5 G5 H5 s5 t5 A5 r5
                refine ⟨B', G5, _, fr, A5, ?_⟩
                rw [hv]
                intro v6 G6 H6 s6 t6 A6 r6
                obtain ⟨A7, gr⟩ := back G6 H6 _ _ _ (s4.trans (s5.trans s6)) (t4.trans (t5.trans t6)) A6
                have hD6 : H6 p = some (.dK kvs) := t6 p _ (t5 p _ (t4 p _ hD))
                have g6 : G6 p = none := gr p (by rw [hD]; exact fun z => nomatch z) gD
                have hy := rp_key r5 hkey
                have hll : a.1.length = kvs.length := by simpa using congrArg List.length hkk
                have hh := hasK_kvs hkk kk
                have r3 : OwnL ⟨X.K, X.mg, X.w⟩ G6 (upd H6 p (.dK (putK kvs kk v6))) (kvs.map (·.2)) a.2 [] := r2.keep (s4.trans (s5.trans s6)) (fun q hq => nomatch hq)
                refine ⟨kvs, kk, hy, hD6, by rw [← hll, sizeLine_eq]; exact hl, hlt, fun a' o e => ?_, _, ⟨G6, putK kvs kk v6, s2.trans (s4.trans (s5.trans s6)), A7.pokeOut pf g6 p0 rfl, upd_same, g6, ?_⟩, hc⟩
                · have z := smn (smn (smn sm t4) t5) t6 a' o e
                  by_cases hap : a' = p
                  · show (if a' = p then H1 a' else _) = some o
                    rw [if_pos hap]; exact e
                  · have z : (if a' = p then H1 a' else H6 a') = some o := z
                    rw [if_neg hap] at z
                    show (if a' = p then H1 a' else upd H6 p _ a') = some o
                    rw [if_neg hap, upd_ne hap]; exact z
                · cases hb : hasK a.1 kk with
                  | true =>
                    rw [if_pos rfl]
                    have hb2 : (kvs.any fun kv => decide (kv.1 = kk)) = true := by rw [← hh]; exact hb
                    have hput : putK kvs kk v6 = kvs.map (fun kv => if kv.1 = kk then (kv.1, v6) else kv) := by unfold putK; rw [if_pos hb2]
                    obtain ⟨fr', z1, z2, z3⟩ := r3.rep (kk := kk) r6 hkk List.nodup_nil
                    have hf : fr' = [] := List.eq_nil_iff_forall_not_mem.mpr fun q hq => nomatch z3 q hq
                    subst hf
                    rw [← hput] at z1
                    refine ⟨?_, z1⟩
                    show a.1.map D.key = _
                    rw [hkk, hput, List.map_map]
                    apply List.map_congr_left
                    intro p _
                    simp only [Function.comp_def]
                    split <;> rfl
                  | false =>
                    rw [if_neg (by decide)]
                    have hb2 : ¬ (kvs.any fun kv => decide (kv.1 = kk)) = true := by rw [← hh, hb]; exact Bool.false_ne_true
                    have hput : putK kvs kk v6 = kvs ++ [(kk, v6)] := by unfold putK; rw [if_neg hb2]
                    refine ⟨?_, ?_⟩
                    · show (a.1 ++ [k1]).map D.key = _
                      rw [hput, List.map_append, List.map_append, hkk]
                      simp [hkey]
                    · show OwnL _ _ _ _ (a.2 ++ [.v x1]) ([] ++ ([] ++ []))
                      have r3' := r3
                      rw [hput] at r3'
                      rw [hput, List.map_append]
                      exact r3'.append (.cons (.v r6) .nil)
              · rw [if_neg hl] at hc; cases hc
        · have ej : j = ds.length := by omega
          subst ej
          rw [List.drop_length] at hc
          cases hc
          have smH : Same H H2 := fun a o e => by
            have e1 := t1 a o e
            have z := sm a o e1
            have z : (if a = p then H1 a else H2 a) = some o := z
            rw [if_neg (ne_of_none e1 hp)] at z
            exact z
          refine .inl ⟨w.st _ H2 ws (Nat.le_refl _), q2 _ G2 H2 [p] (s1.trans s2) smH A2 (.dic hD hkk r2) (by simp) fun a' ha' => ?_⟩
          have : a' = p := by simpa using ha'
          subst this
          exact ⟨t1.free hp, gD⟩
section
variable {x y : Str} {p py : Pos} {scope : Scope} {spos : Pos}
theorem pf_dc (i : Nat) (hc : X.calm = true) (hN : X.N.Nodup) {b bk : Bool} (ha : PSrc X W b (.Name x p) e wi gs) (ok : BlkOk X.N X.env.scope scope [(x, i)])
    (hg : ∀ (s : Shared) (H : Hp) (C : Addr) (cl : List (Str × Addr)) (fp : List Addr), PG (X.blk s H scope (compEnvC scope cl C X.env) fp) (.Name x p) (gName i)) (ht : ∀ (s : Shared) (H : Hp) (C : Addr) (cl : List (Str × Addr)) (fp : List Addr), PXTs (X.blk s H scope (compEnvC scope cl C X.env) fp) ifs t)
    (hk : ∀ (s : Shared) (H : Hp) (C : Addr) (cl : List (Str × Addr)) (fp : List Addr), PX (X.blk s H scope (compEnvC scope cl C X.env) fp) W0 bk kx gk)
    (he : ∀ (s : Shared) (H : Hp) (C : Addr) (cl : List (Str × Addr)) (fp : List Addr), PX (X.blk s H scope (compEnvC scope cl C X.env) fp) W0 true vx gv) (hs : ∀ z, foldedSetIterable e X.env z = pure z := by intro _; rfl) :
    PF X W (.DictComp kx vx [⟨.Name x p, e, ifs, 0⟩] scope pos) (eDcO gs t gk gv i) := pe_mono (pe_dc (own := [(x, i)]) (tt := TXT ⟨X.K, X.mg, X.w⟩ W0 t) (tk := TX ⟨X.K, X.mg, X.w⟩ W0 bk gk) (tv := TX ⟨X.K, X.mg, X.w⟩ W0 true gv) hc hN ha.pi ok hg ht hk he hs) fun σ H Q ⟨B, G, c, fp, A, q⟩ => tdc_of X.K X.mg rfl rfl ha A q
end
end
end VS
namespace L2
open PySem PySem.Spec PyProof.Rows
section
variable {X : Cx}
/-- name = {..} on one line, the name a local -/
theorem ps_setDc {i : Nat} {y : Str} {py : Pos} {kx vx tg iter : Expr} {ifs : List Expr} {scope : Scope} {own : List (Str × Nat)} {pos spos : Pos} {wi : TI} {g : TG} {tt : TT} {tk tv : TE} (hc : X.calm = true) (hN : X.N.Nodup) (hy : X.N[i]? = some y) (hyl : X.env.scope.names.lookup y = some .local)
    (hsw : swapsWith (.DictComp kx vx [⟨tg, iter, ifs, 0⟩] scope pos) (some (.Name y py)) spos.line X.env = pure true) (hi : PI X tg iter wi) (ok : BlkOk X.N X.env.scope scope own)
    (hg : ∀ (s : Shared) (H : Hp) (C : Addr) (cl : List (Str × Addr)) (fp : List Addr), PG (X.blk s H scope (compEnvC scope cl C X.env) fp) tg g) (ht : ∀ (s : Shared) (H : Hp) (C : Addr) (cl : List (Str × Addr)) (fp : List Addr), PTs (X.blk s H scope (compEnvC scope cl C X.env) fp) ifs tt)
    (hk : ∀ (s : Shared) (H : Hp) (C : Addr) (cl : List (Str × Addr)) (fp : List Addr), PE (X.blk s H scope (compEnvC scope cl C X.env) fp) kx tk)
    (he : ∀ (s : Shared) (H : Hp) (C : Addr) (cl : List (Str × Addr)) (fp : List Addr), PE (X.blk s H scope (compEnvC scope cl C X.env) fp) vx tv) (hs : ∀ x, foldedSetIterable iter X.env x = pure x := by intro _; rfl) :
    PS X (.Assign [.Name y py] (.DictComp kx vx [⟨tg, iter, ifs, 0⟩] scope pos) spos) (tAsg (tDc wi g tt tk tv (own.map (·.2))) (gName i)) := by
  refine ⟨fun pins s σ H D I h => ?_⟩
  rw [exec_Assign_Name_used _ _ _ _ hsw]
  refine wpAny_bind (wpAny_standAt (wpAny_bind ?_))
  show wpAny _ X.A (do let _ ← comprehension (.DictComp kx vx [⟨tg, iter, ifs, 0⟩] scope pos) scope X.env (firstIterPos [⟨tg, iter, ifs, 0⟩] pos) newDict false (eval iter X.env) (some (assign (.Name y py) X.env))) _ _ s
  have h : tDc wi g tt tk tv (own.map (·.2)) σ H (fun x H1 => gName i x σ H1 D.nx) := h
  refine wpAny_bind (thn (dc_core (Qf := fun _ s' => SP X pins D .next s') hc hN I hi ok hg ht hk he hs h fun L C s' m H' I' q hn f => ?_) fun _ s' hq => wpAny_pure (wpAny_pure hq))
  show wpAny _ _ (assign (.Name y py) X.env (.ref L)) _ _ _
  refine wpAny_assign_Name (store_ok2 (v := V.ref L) I' hN hy (.inl hyl) rfl (fun s2 I2 ⟨a, sb, ha⟩ => ?_) (.inr hyl))
  obtain ⟨f0, f1, f2, f3, f4, f5⟩ := f
  have haC : C ≠ a := by
    rcases ha with z | z
    · rw [z]; exact f1
    · exact fun e => f4 y a z e.symm
  refine ⟨m, hn.sameBut sb haC, fun h3 sb3 => ?_⟩
  exact ⟨_, H', I2.turned (t' := s2.toks) (fun b o hb e => (sb3.2 b hb).trans e) f0 f1 f3 f4 f5, q⟩
theorem swD_true {kx vx : Expr} {gs : List Comprehension} {scope : Scope} {pos py : Pos} {y : Str} {l : Nat} {env : Env} (hk : env.scope.kind = .function) (hy : env.scope.names.lookup y = some .local) (hl : (py.line == pos.line) = true)
    (ha : (scope.names.any fun (n, k) => n == y && (k == .local || k == .cell)) = false) : swapsWith (.DictComp kx vx gs scope pos) (some (.Name y py)) l env = pure true := by
  have ky : env.kindOf y = some .local := hy
  have hb : env.blockKind = .function := by unfold Env.blockKind; rw [hk]; rfl
  unfold swapsWith
  simp only [hb, ky, ha, Expr.pos, hl]
  rfl
end
end L2
namespace VS
open PySem PySem.Spec PyProof.Rows L2
section
variable {X : Cx} {W : WX} {pn : List Nat} {e kx vx : Expr} {ifs : List Expr} {pos : Pos} {wi : TI} {gs : Env → R (List D)} {t : Env → R Bool} {gk gv : Env → R D} {i : Nat}
variable {x y : Str} {p py : Pos} {scope : Scope} {spos : Pos}
theorem pxs_setDc (k i : Nat) (hc : X.calm = true) (hN : X.N.Nodup) (hsw : swapsWith (.DictComp kx vx [⟨.Name x p, e, ifs, 0⟩] scope pos) (some (.Name y py)) spos.line X.env = pure true) {b bk : Bool} (ha : PSrc X W b (.Name x p) e wi gs) (ok : BlkOk X.N X.env.scope scope [(x, i)])
    (hg : ∀ (s : Shared) (H : Hp) (C : Addr) (cl : List (Str × Addr)) (fp : List Addr), PG (X.blk s H scope (compEnvC scope cl C X.env) fp) (.Name x p) (gName i)) (ht : ∀ (s : Shared) (H : Hp) (C : Addr) (cl : List (Str × Addr)) (fp : List Addr), PXTs (X.blk s H scope (compEnvC scope cl C X.env) fp) ifs t)
    (hk : ∀ (s : Shared) (H : Hp) (C : Addr) (cl : List (Str × Addr)) (fp : List Addr), PX (X.blk s H scope (compEnvC scope cl C X.env) fp) W0 bk kx gk)
    (he : ∀ (s : Shared) (H : Hp) (C : Addr) (cl : List (Str × Addr)) (fp : List Addr), PX (X.blk s H scope (compEnvC scope cl C X.env) fp) W0 true vx gv) (hy : X.N[k]? = some y := by rfl) (hyl : X.env.scope.names.lookup y = some .local := by rfl) (hi : k ∉ pn := by decide) (hs : ∀ z, foldedSetIterable e X.env z = pure z := by intro _; rfl) :
    PXS X W pn (.Assign [.Name y py] (.DictComp kx vx [⟨.Name x p, e, ifs, 0⟩] scope pos) spos) (sSetO k (eDcO gs t gk gv i)) :=
  ps_mono (ps_setDc (own := [(x, i)]) (tt := TXT ⟨X.K, X.mg, X.w⟩ W0 t) (tk := TX ⟨X.K, X.mg, X.w⟩ W0 bk gk) (tv := TX ⟨X.K, X.mg, X.w⟩ W0 true gv) hc hN hy hyl hsw ha.pi ok hg ht hk he hs) fun Dn σ H ⟨B, G, c, fp, A, P, q⟩ => by
    obtain ⟨B', G', c', fp', A', q'⟩ : TF ⟨X.K, X.mg, X.w⟩ W (eDcO gs t gk gv i) σ H (fun x H1 => gName k x σ H1 Dn.nx) := tf_st A q fun o e v G1 H1 fq s1 t1 A1 w n d q1 => by
      obtain ⟨fr, A2⟩ := set_fresh A1 (A.cells.there) A.fine.there w n d P hi
      exact q1 _ G1 H1 fr (Same.refl _) A2
    exact tdc_of X.K X.mg rfl rfl ha A' q'
end
end VS

/-! VS: sorted by a key of the program: (len(word), word). -/
namespace PySem.SkX
open PySem PySem.W PySem.Calls PyProof.Rows
def skA (p : Pos) : Arguments := { posonlyargs := [], args := [{ arg := "word", annotation := none, pos := p }], vararg := none, kwonlyargs := [], kw_defaults := [], kwarg := none, defaults := [] }
def skS : Scope := { kind := .function, names := [(PySem.Str.ofString "word", .local), (PySem.Str.ofString "len", .globalImplicit)], isGenerator := false, isCoroutine := false, more := [] }
def skB (p1 p2 p3 p4 p5 p6 : Pos) (k : Nat) : List Stmt := [.Return (some (.Tuple [.Call (.Name "len" p1) [.Name "word" p2] [] p3, .Name "word" p4] k p5)) p6]
theorem ldC {M : Model} {s : Shared} {name : Str} {scope : Scope} {L a : Addr} {cd : Value} {m : Str → Option Value} {x : Str} {pos : Pos} {v : Value} {Q : Value → Shared → Prop} {A : Around} {E : Value → Shared → Prop} (hn : s.heap.Ns L m) (hv : m x = some v) (h : Q v s)
    (hk : scope.kind = .function := by rfl) (hl : (envOfC name scope L a cd).kindOf x = some .local := by rfl) (hd : (x == ("__debug__" : Str)) = false := by decide) :
    wpAny M A (eval (.Name x pos) (envOfC name scope L a cd)) Q E s := wpAny_Name (wpAny_loadName_local hk hl hn hv h) hd
section
variable {prog : Program} {w : World} {A : Around} {s : Shared} {K : Frag} {mg : Str → Option Value} {base : Heap}
theorem sk_raw {f : Addr} {oc kV doc pm cdv ct : Value} {od an : Option Addr} {osl : Array (Option Value)} {pa p1 p2 p3 p4 p5 p6 : Pos} {kk : Nat}
    (lk : K.lookup f = some ⟨oc, od, .func (fnOf "short_key" "short_key" (skA pa) (skB p1 p2 p3 p4 p5 p6 kk) skS .none kV doc pm an cdv ct), osl⟩) (hcd : codeIn K cdv "short_key" = true)
    (M : L2.Mod K mg base) (hb : ∀ b o, base.get? b = some o → s.heap.get? b = some o) (hz : mg "len" = none) (hroom : A.depth < recursionLimit) (x : Str) (t : Tok) (hx : x.length ≤ sizeLine) :
    wpAny (model prog w) A (call (.ref f) [.str x t]) (KeyPure (.tuple [.int x.length, .str x]) s) (fun _ _ => False) s := by
  have X : K.In s.heap := M.kin.keeps hb
  have hlim : s.heap.NoLimit := M.nolimit.keeps hb
  refine wpAny_call (Att.call_fn (binds := [("word", .str x t)]) X hlim lk hcd hroom (BindsTo.of_eq (by first | rfl | with_unfolding_all rfl)) (by first | rfl | decide | with_unfolding_all rfl) (fun s₁ IC => ?_) rfl rfl rfl)
  obtain ⟨h₁, tk₁, rfl⟩ := IC.toInCall.same
  have k : ∀ b o, s.heap.get? b = some o → h₁.get? b = some o := IC.toInCall.keep
  have hn := IC.toInCall.ns
  obtain ⟨mb, b1, b2⟩ := M.blt
  have kb : ∀ b o, base.get? b = some o → h₁.get? b = some o := fun b o e => k b o (hb b o e)
  show wpAny _ _ (execs (skB p1 p2 p3 p4 p5 p6 kk) _) _ _ _
  refine wpAny_execs_cons (wpAny_Return_some (wpAny_Tuple_spliced ?_))
  show wpAny _ _ (spliced [(false, eval (.Call (.Name "len" p1) [.Name "word" p2] [] p3) _), (false, eval (.Name "word" p4) _)]) _ _ _
  refine spliced_cons ?_
  refine wpAny_Call_Name_kw (Calls.Name_function_global rfl (by first | rfl | with_unfolding_all rfl) (Calls.loadGlobal_builtin (M.glob.keeps kb) hz (b1.keeps kb) ((b2 "len" (by decide)).trans (by decide +kernel : bootBuiltins "len" = some (.builtin "len"))) ?_) (by decide))
  refine PyProof.Rows.callWith_builtin1 ?_ rfl rfl
  show wpAny _ _ (spliced [(false, eval (.Name "word" p2) _)]) _ _ _
  refine spliced_cons (ldC (v := .str x t) hn (by first | rfl | with_unfolding_all rfl | kernel_rfl) (spliced_nil ?_))
  have hn63 := L2.line63
  refine len_str (by omega) ?_
  refine spliced_cons (ldC (v := .str x t) (hn : h₁.Ns _ _) (by first | rfl | with_unfolding_all rfl | kernel_rfl) (spliced_nil ?_))
  refine ⟨by show 2 ≤ sizeLine; rw [sizeLine_eq]; omega, ?_⟩
  refine ⟨_, _, rfl, fun b o e => Heap.get?_push_of_some _ (k b o e), ?_⟩
  exact .tuple (Heap.get?_push_size _ rfl) rfl rfl (.cons (.int _ _) (.cons (.str _ _) .nil))
end
end PySem.SkX
namespace L2
open PySem PySem.Spec PyProof.Rows PySem.W
def skK (x : Str) : PyData := .tuple [.int x.length, .str x]
def skLe : Str → Str → Bool := dataLe false skK
theorem each_strs : ∀ {xs : List Str} {its : List Value}, Vals (xs.map V.str) its → EachIs (fun v x => ∃ t, v = Value.str x t) its xs
  | [], its, r => by cases r; exact .nil
  | x :: xs, its, r => by
    cases r with
    | cons h r =>
      obtain ⟨t, rfl⟩ := h
      exact .cons ⟨t, rfl⟩ (each_strs r)
theorem strs_each : ∀ {xs : List Str} {its : List Value}, EachIs (fun v x => ∃ t, v = Value.str x t) its xs → Vals (xs.map V.str) its
  | [], its, r => by cases r; exact .nil
  | x :: xs, its, r => by
    cases r with
    | cons h r =>
      obtain ⟨t, rfl⟩ := h
      exact .cons ⟨t, rfl⟩ (strs_each r)
/-- the text of short_key -/
structure SkTxt (st : Stmt) : Prop where
  ex : ∃ pa p1 p2 p3 p4 p5 p6 kk, defArgs st = SkX.skA pa ∧ defBody st = SkX.skB p1 p2 p3 p4 p5 p6 kk ∧ defScope st = SkX.skS
section
variable {X : Cx} {k : Nat}
def rSK (K : PySem.W.Frag) (f : Addr) : List V → List V → Hp → VK → Prop := fun vs zs H Q => ∃ (a : Addr) (xs : List Str), vs = [V.ref a] ∧ zs = [V.ref f] ∧ SqL K H a (xs.map V.str) ∧ (∀ x ∈ xs, x.length ≤ sizeLine) ∧ ∀ p, H p = none → Q (.ref p) (upd H p (.lst ((xs.mergeSort skLe).map V.str)))
theorem cr_sortSK {st : Stmt} {f : Addr} {fd : FuncData} (F : Fun X.K "short_key" "short_key" st f fd) (T : SkTxt st) (hz : X.mg "len" = none) (hr : Room k X.A) : CallRK X (.builtin "sorted") [Str.ofString "key"] (rSK X.K f) := by
  intro pins s σ H vs zs us ws Q I rv rz h
  obtain ⟨a, xs, rfl, rfl, hq, hlen, q⟩ := h
  obtain ⟨oc, od, kV, doc, pm, an, cdv, ct, osl, rfl, lk, hcd⟩ := F.ex
  obtain ⟨pa, p1, p2, p3, p4, p5, p6, kk, e1, e2, e3⟩ := T.ex
  rw [e1, e2, e3] at lk
  cases rv with
  | cons h1 h2 =>
    cases h2
    cases h1
    cases rz with
    | cons h3 h4 =>
      cases h4
      cases h3
      obtain ⟨its, ri, pl, hsz⟩ := I.list hq
      have e := each_strs ri
      have hn := sizeLine_eq
      rw [List.length_map] at hsz
      show wpAny _ _ (call (.builtin "sorted") [.ref a] [(Str.ofString "key", .ref f)]) _ _ _
      refine sorted_key_data (b := false) skK pl.isList e (AllAlike.of fun _ _ => by simp [alike, alikeAll, skK]) (Sortable.tuples fun _ => ⟨_, _, rfl⟩) hsz (fun x _ => ?_) (ksk_s1 _ _) (fun _ => ksk_l1 _ _) (fun _ => ksk_t1 _ _)
        (fun v x ⟨t, ev⟩ hx h tk kp => ?_) fun out c h' tk kp fr hD hl eo => ?_
      · have hd : (skK x).depth = 1 := by simp [skK, PyData.depth, PyData.depthAll]
        have := hr.un
        omega
      · subst ev
        refine SkX.sk_raw lk hcd I.ok.mod (fun b o e => kp b o (I.bk b o e)) hz ?_ x t (hlen x hx)
        show X.A.depth < recursionLimit
        have := hr.dp
        omega
      · have ho : H (s.heap.objs.size + 1) = none := I.hok.fresh (Nat.le_succ _)
        refine ⟨.ref (s.heap.objs.size + 1), _, I.laid (t' := tk) (o := .lst ((xs.mergeSort skLe).map V.str)) kp (Nat.le_succ _) ?_, rfl, q _ ho⟩
        refine ⟨by rw [List.length_map, List.length_mergeSort]; exact hsz, out, c, strs_each eo, hD⟩
end
end L2
namespace VS
open PySem PySem.Spec PyProof.Rows L2
theorem rpl_strs {E : Wd} {G : Hp} : ∀ l : List (List Nat), RpL E G (l.map (V.str ∘ S)) (l.map .str)
  | [] => .nil
  | x :: l => .cons (.str x) (rpl_strs l)
def leK (a b : List Nat) : Bool := skLe (S a) (S b)
def fSortK : List D → Option D
  | [.lst es] => (asSs es).bind fun ss => if ss.all (fun s => decide (s.length ≤ 16777216)) then some (.lst ((ss.mergeSort leK).map .str)) else none
  | _ => none
section
variable {X : Cx} {W : WX} {b : Bool} {k : Nat} {pos : Pos}
theorem px_sortK {st : Stmt} {e : Expr} {gs : Env → R (List D)} {p q kpos : Pos} (D0 : Def X.K X.mg "short_key" st) (T : SkTxt st) (hz : X.mg "len" = none) (hr : Room k X.A) (hm : X.mg "sorted" = none) (ha : PXA X W b [e] gs) (hg : Gl X "sorted" := by rfl) (hgk : Gl X "short_key" := by rfl)
    (he : backTo pos (starEach [e] X.env) = (false, eval e X.env) :: backTo pos (starEach [] X.env) := by rfl) (hpl : (backTo pos (starEach [e] X.env)).any (·.1) = false := by rfl)
    (hall : (backToKw pos (keywordEach [⟨some "key", .Name "short_key" q, kpos⟩] X.env)).all (·.1.isSome) = true := by rfl) (hnone : (backToKw pos (keywordEach [⟨some "key", .Name "short_key" q, kpos⟩] X.env)).any (·.1.isNone) = false := by rfl) (hks : (backToKw pos (keywordEach [⟨some "key", .Name "short_key" q, kpos⟩] X.env)).filterMap (·.1) = [Str.ofString "key"] := by rfl) :
    PX X W true (.Call (.Name "sorted" p) [e] [⟨some "key", .Name "short_key" q, kpos⟩] pos) (eFn fSortK gs) := by
  obtain ⟨f, fd, F, hf⟩ := D0.ex
  refine pe_mono (pe_callBK (cr_sortSK F T hz hr) hg hm (by decide +kernel) ha (pk_cons (pe_glob (v := .ref f) hgk hf rfl) pk_nil) (by decide) (by decide) he hpl hall hnone hks) fun σ H Q ⟨B, G, c, fp, A, q⟩ => txa_seq A q fun ds e0 vs G1 H1 s1 t1 A1 r1 q1 => ?_
  obtain ⟨d, e3, p3⟩ := Res.lift q1
  unfold fSortK at e3
  split at e3
  · rename_i es
    obtain ⟨ss, e4, e5⟩ := Option.bind_eq_some_iff.mp e3
    split at e5
    · rename_i hall
      cases e5
      obtain ⟨v, rfl, rv⟩ := r1.one
      obtain ⟨a, vs, rfl, h1, r2⟩ := rv.lstH A1.fine.le
      have hv : vs = (ss.map S).map V.str := asSs_rp r2 e4
      subst hv
      show rSK X.K f [V.ref a] [V.ref f] H1 Q
      refine ⟨a, ss.map S, rfl, rfl, h1, fun x hx => ?_, fun p hp => ?_⟩
      · obtain ⟨s, hs, rfl⟩ := List.mem_map.mp hx
        have := List.all_eq_true.mp hall s hs
        rw [sizeLine_eq]
        show s.toArray.size ≤ _
        simpa using this
      · have : (ss.map S).mergeSort skLe = (ss.mergeSort leK).map S := (List.map_mergeSort (r := leK) (s := skLe) (f := S) (fun _ _ _ _ => rfl)).symm
        rw [this, List.map_map]
        exact (p3.grow s1 t1).new A1 hp fun s => .lst (.inl (.inl upd_same)) (rpl_strs _)
    · cases e5
  · cases e3
end
end VS

/-! VS: xs[::s] where s is 1 or -1. -/
namespace L2
open PySem PySem.Spec PyProof.Rows
theorem pick_one (items : Array Value) : slicePick items none none (some 1) = items := by
  show slicePick items none none none = items
  exact slicePick_all items
def tStepL (K : PySem.W.Frag) (te ts : TE) : TE := fun σ H Q => te σ H fun x H1 => ts σ H1 fun y H2 => ∃ st, y = .int st ∧ ∃ a xs ys, x = .ref a ∧ SqL K H2 a xs ∧ ((st = 1 ∧ ys = xs) ∨ (st = -1 ∧ ys = xs.reverse)) ∧ ∀ p, H2 p = none → Q (.ref p) (upd H2 p (.lst ys))
theorem pe_stepL {X : Cx} {e es : Expr} {te ts : TE} {p3 pos : Pos} (he : PE X e te) (hs : PE X es ts) : PE X (.Subscript e (.Slice none none (some es) p3) pos) (tStepL X.K te ts) := by
  refine ⟨fun pins s σ H Q I h => ?_⟩
  refine Subscript_ (thn (he.run pins s σ H _ I h) fun v s1 ⟨x, H1, I1, r1, q1⟩ => ?_)
  have hst : PO X (some es) (tPart ts) := po_some hs
  refine wpAny_Slice (thn (po_none.run pins s1 σ H1 (fun o H2 => o = none ∧ H2 = H1) I1 ⟨rfl, rfl⟩) fun vl s2 ⟨l, H2, I2, pl, el, e2⟩ => ?_)
  subst el e2
  refine thn (po_none.run pins s2 σ H2 (fun o H3 => o = none ∧ H3 = H2) I2 ⟨rfl, rfl⟩) fun vu s3 ⟨u, H3, I3, pu, eu, e3⟩ => ?_
  subst eu e3
  refine thn (hst.run pins s3 σ H3 (fun o H4 => ∃ st, o = some st ∧ ∃ a xs ys, x = .ref a ∧ SqL X.K H4 a xs ∧ ((st = 1 ∧ ys = xs) ∨ (st = -1 ∧ ys = xs.reverse)) ∧ ∀ p, H4 p = none → Q (.ref p) (upd H4 p (.lst ys))) I3 ?_) fun vs s4 ⟨o, H4, I4, ps, qq⟩ => ?_
  · show ts σ H3 _
    exact (congrArg (ts σ H3) (funext fun y => funext fun H2 => propext ⟨fun ⟨st, e, r⟩ => ⟨st, e, st, rfl, r⟩, fun ⟨i, e, st, e2, r⟩ => ⟨i, e, by cases e2; exact r⟩⟩)).mp q1
  obtain ⟨st, rfl, a, xs, ys, ex, hx, hd, q⟩ := qq
  subst ex
  cases r1
  have I5 : Inv X pins σ H4 { s4 with heap := s4.heap.push { cls := .type "slice", data := .fields #[vl, vu, vs] } } := I4.kept (t' := s4.toks) fun b ob q => Heap.get?_push_of_some _ q
  obtain ⟨its, r, ht, hz⟩ := I5.list hx
  have hlen := r.length
  show wpAny (model X.prog X.w) X.A (subscriptTail e (.Slice none none (some es) p3) (.ref a) (.ref s4.heap.objs.size)) (EP X pins σ Q) X.xe { s4 with heap := s4.heap.push { cls := .type "slice", data := .fields #[vl, vu, vs] } }
  refine tail_any (ops := [.ref a, .ref s4.heap.objs.size]) ht.isList.typeIs (PySem.slot_list_getitem.lookup) ?_ (by with_unfolding_all rfl)
  refine wpAny_getItem_list_slice ht.isList (Heap.IsSliceOf.new _ vl vu vs) pl pu ps (by rcases hd with ⟨rfl, _⟩ | ⟨rfl, _⟩ <;> decide) ?_ (by rw [List.size_toArray]; omega)
  have key : ∃ out : List Value, slicePick its.toArray none none (some st) = out.toArray ∧ Vals ys out ∧ ys.length = xs.length := by
    rcases hd with ⟨rfl, rfl⟩ | ⟨rfl, rfl⟩
    · exact ⟨its, pick_one _, r, rfl⟩
    · exact ⟨its.reverse, by rw [PySem.W.krv_pick], r.reverse, List.length_reverse⟩
  obtain ⟨out, k1, k2, k3⟩ := key
  rw [k1]
  refine ⟨.ref _, _, I5.laid (t' := s4.toks) (o := .lst ys) (fun b ob q => Heap.get?_push_of_some _ q) (Nat.le_refl _) ?_, rfl, q _ (I5.hok.fresh (Nat.le_refl _))⟩
  exact ⟨by rw [k3]; exact hz, _, 0, k2, Heap.get?_push_size _ rfl⟩
end L2
namespace VS
open PySem PySem.Spec PyProof.Rows L2
def stepL (ds : List D) : D → Option D
  | .int i => if i = 1 then some (.lst ds) else if i = -1 then some (.lst ds.reverse) else none
  | _ => none
def eStep (ga gs : Env → R D) : Env → R D := fun c => ga c >>= fun d => gs c >>= fun s => match d with
  | .lst ds => lift (stepL ds s)
  | _ => .stuck
section
variable {X : Cx} {W : WX} {b : Bool} {k : Nat} {pos : Pos}
theorem px_step {e es : Expr} {ga gs : Env → R D} {p3 : Pos} (h : PX X W true e ga) (hs : PX X W b es gs) : PX X W true (.Subscript e (.Slice none none (some es) p3) pos) (eStep ga gs) :=
  pe_mono (pe_stepL h hs) fun σ H Q ⟨B, G, c, fp, A, q⟩ => tx_seq A q fun d e0 v G1 H1 s1 t1 A1 r1 q1 => tx_seq A1 q1 fun s e2 w G2 H2 s2 t2 A2 r2 q2 => by
    cases r1 with
    | @lst a vs ds hq r =>
      obtain ⟨d, e3, p3⟩ := Res.lift q2
      have r2 := r2
      unfold stepL at e3
      split at e3
      · rename_i i r2
        cases r2
        have p3 := p3.grow (s1.trans s2) (t1.trans t2)
        refine ⟨i, rfl, a, vs, if i = 1 then vs else vs.reverse, rfl, Same.sqL A2.fine.le (Same.sqL s2 hq), ?_, fun p hp => ?_⟩
        · split at e3
          · rename_i h; rw [if_pos h]; exact .inl ⟨h, rfl⟩
          · rename_i h
            rw [if_neg h]
            split at e3
            · rename_i h'; exact .inr ⟨h', rfl⟩
            · cases e3
        · split at e3
          · rename_i h; rw [if_pos h]; cases e3
            exact p3.new A2 hp fun s => .lst (.inl (.inl upd_same)) (r.mono (s2.trans s))
          · rename_i h
            rw [if_neg h]
            split at e3
            · cases e3
              exact p3.new A2 hp fun s => .lst (.inl (.inl upd_same)) (RpL.reverse (r.mono (s2.trans s)))
            · cases e3
      · cases e3
    | _ => exact q2.elim
end
/-! ### a tuple of texts, a constant of the module -/
def TextsAre : List Value → List D → Prop
  | [], [] => True
  | .str x _ :: vs, .str l :: ds => x = S l ∧ TextsAre vs ds
  | _, _ => False
theorem tk_nil : TextsAre [] [] := True.intro
theorem tk_cons {x : Str} {t : Tok} {l : List Nat} {vs : List Value} {ds : List D} (h : x = S l) (r : TextsAre vs ds) : TextsAre (.str x t :: vs) (.str l :: ds) := ⟨h, r⟩
theorem texts_vals {E : Wd} {G : Hp} : ∀ {vs : List Value} {ds : List D}, TextsAre vs ds → ∃ xs, Vals xs vs ∧ RpL E G xs ds
  | [], [], _ => ⟨[], .nil, .nil⟩
  | .str x t :: vs, .str l :: ds, h => by
    obtain ⟨h1, h2⟩ := h
    obtain ⟨xs, k1, k2⟩ := texts_vals (E := E) (G := G) h2
    exact ⟨.str (S l) :: xs, .cons ⟨t, by rw [h1]⟩ k1, .cons (.str l) k2⟩
theorem rp_tupK {K : PySem.W.Frag} {mg : Str → Option Value} {w : World} {G : Hp} {a : Addr} {od : Option Addr} {n : Nat} {sl : Array (Option Value)} {its : Array Value} {ds : List D} (h : K.lookup a = some ⟨.type "tuple", od, .seq its n, sl⟩) (hs : its.size ≤ 100) (ht : TextsAre its.toList ds) : Rp ⟨K, mg, w⟩ G (.ref a) (.tup ds) := by
  obtain ⟨xs, k1, k2⟩ := texts_vals (E := ⟨K, mg, w⟩) (G := G) ht
  exact .tup (.inr ⟨_, its, n, h, rfl, rfl, by have := sizeLine_eq; omega, k1⟩) k2
/-! ### is, is not of truth values -/
def opIsB : D → D → Option D
  | .bl a, .bl b => some (.bl (decide (a = b)))
  | _, _ => none
def opIsntB : D → D → Option D
  | .bl a, .bl b => some (.bl (!decide (a = b)))
  | _, _ => none
section
variable {X : Cx} {b1 b2 : Bool}
theorem ok_isB : Op2Ok ⟨X.K, X.mg, X.w⟩ rIsB b1 b2 true opIsB := by
  intro B G H c σ fp x y dx dy d Q A rx ry e p
  unfold opIsB at e
  split at e
  · cases e
    cases rx
    cases ry
    exact ⟨_, _, rfl, rfl, p.here A (.bl _)⟩
  · cases e
theorem ok_isntB : Op2Ok ⟨X.K, X.mg, X.w⟩ rNotB b1 b2 true opIsntB := by
  intro B G H c σ fp x y dx dy d Q A rx ry e p
  unfold opIsntB at e
  split at e
  · cases e
    cases rx
    cases ry
    exact ⟨_, _, rfl, rfl, p.here A (.bl _)⟩
  · cases e
end
end VS

/-! VS: min by a key of the program; short_key(a) < short_key(b); a dict of constants that is walked. -/
namespace PySem.SkX
open PySem PySem.W PySem.Calls PyProof.Rows
/-- the pair of short_key, new in the heap -/
def KeyNew (x : Str) (s₁ : Shared) (v : Value) (s₂ : Shared) : Prop := ∃ h' tk a, s₂ = { s₁ with heap := h', toks := tk } ∧ (∀ b o, s₁.heap.get? b = some o → h'.get? b = some o) ∧ v = .ref a ∧ s₁.heap.get? a = none ∧ Reads h' v (.tuple [.int x.length, .str x]) []
section
variable {prog : Program} {w : World} {A : Around} {s : Shared} {K : Frag} {mg : Str → Option Value} {base : Heap}
theorem sk_new {f : Addr} {oc kV doc pm cdv ct : Value} {od an : Option Addr} {osl : Array (Option Value)} {pa p1 p2 p3 p4 p5 p6 : Pos} {kk : Nat}
    (lk : K.lookup f = some ⟨oc, od, .func (fnOf "short_key" "short_key" (skA pa) (skB p1 p2 p3 p4 p5 p6 kk) skS .none kV doc pm an cdv ct), osl⟩) (hcd : codeIn K cdv "short_key" = true)
    (M : L2.Mod K mg base) (hb : ∀ b o, base.get? b = some o → s.heap.get? b = some o) (hz : mg "len" = none) (hroom : A.depth < recursionLimit) (x : Str) (t : Tok) (hx : x.length ≤ sizeLine) :
    wpAny (model prog w) A (call (.ref f) [.str x t]) (KeyNew x s) (fun _ _ => False) s := by
  have X : K.In s.heap := M.kin.keeps hb
  have hlim : s.heap.NoLimit := M.nolimit.keeps hb
  refine wpAny_call (Att.call_fn (binds := [("word", .str x t)]) X hlim lk hcd hroom (BindsTo.of_eq (by first | rfl | with_unfolding_all rfl)) (by first | rfl | decide | with_unfolding_all rfl) (fun s₁ IC => ?_) rfl rfl rfl)
  obtain ⟨h₁, tk₁, rfl⟩ := IC.toInCall.same
  have k : ∀ b o, s.heap.get? b = some o → h₁.get? b = some o := IC.toInCall.keep
  have hn := IC.toInCall.ns
  obtain ⟨mb, b1, b2⟩ := M.blt
  have kb : ∀ b o, base.get? b = some o → h₁.get? b = some o := fun b o e => k b o (hb b o e)
  show wpAny _ _ (execs (skB p1 p2 p3 p4 p5 p6 kk) _) _ _ _
  refine wpAny_execs_cons (wpAny_Return_some (wpAny_Tuple_spliced ?_))
  show wpAny _ _ (spliced [(false, eval (.Call (.Name "len" p1) [.Name "word" p2] [] p3) _), (false, eval (.Name "word" p4) _)]) _ _ _
  refine spliced_cons ?_
  refine wpAny_Call_Name_kw (Calls.Name_function_global rfl (by first | rfl | with_unfolding_all rfl) (Calls.loadGlobal_builtin (M.glob.keeps kb) hz (b1.keeps kb) ((b2 "len" (by decide)).trans (by decide +kernel : bootBuiltins "len" = some (.builtin "len"))) ?_) (by decide))
  refine PyProof.Rows.callWith_builtin1 ?_ rfl rfl
  show wpAny _ _ (spliced [(false, eval (.Name "word" p2) _)]) _ _ _
  refine spliced_cons (ldC (v := .str x t) hn (by first | rfl | with_unfolding_all rfl | kernel_rfl) (spliced_nil ?_))
  have hn63 := L2.line63
  refine len_str (by omega) ?_
  refine spliced_cons (ldC (v := .str x t) (hn : h₁.Ns _ _) (by first | rfl | with_unfolding_all rfl | kernel_rfl) (spliced_nil ?_))
  refine ⟨by show 2 ≤ sizeLine; rw [sizeLine_eq]; omega, ?_⟩
  refine ⟨_, _, h₁.objs.size, rfl, fun b o e => Heap.get?_push_of_some _ (k b o e), rfl, ?_, ?_⟩
  · cases e : s.heap.get? h₁.objs.size with
    | none => rfl
    | some o => exact absurd (Heap.lt_size (k _ _ e)) (Nat.lt_irrefl _)
  · exact .tuple (Heap.get?_push_size _ rfl) rfl rfl (.cons (.int _ _) (.cons (.str _ _) .nil))
end
end PySem.SkX
namespace L2
open PySem PySem.Spec PyProof.Rows PySem.W
def skLt (xs : List Str) (i j : Nat) : Bool := dataLt (skK (xs.getD i default)) (skK (xs.getD j default))
section
variable {X : Cx} {k : Nat}
def rMinSK (K : PySem.W.Frag) (f : Addr) : List V → List V → Hp → VK → Prop := fun vs zs H Q => ∃ (a : Addr) (xs : List Str) (x : Str), vs = [V.ref a] ∧ zs = [V.ref f] ∧ SqL K H a (xs.map V.str) ∧ (∀ x ∈ xs, x.length ≤ sizeLine) ∧ xs[argBest (skLt xs) (xs.length - 1)]? = some x ∧ Q (.str x) H
theorem vals_get {xs : List V} {its : List Value} (r : Vals xs its) {i : Nat} {v : Value} (h : its[i]? = some v) : ∃ x, xs[i]? = some x ∧ RelV x v := by
  induction r generalizing i with
  | nil => simp at h
  | cons h1 _ ih =>
    cases i with
    | zero => simp at h; subst h; exact ⟨_, rfl, h1⟩
    | succ i => exact ih (by simpa using h)
theorem reads_sk {h : Heap} {v : Value} {x : Str} (r : Reads h v (skK x) []) : ∃ a, v = .ref a ∧ ∃ o, h.get? a = some o ∧ ∀ h' : Heap, h'.get? a = some o → Reads h' v (skK x) [] := by
  generalize e : skK x = d at r
  generalize e2 : ([] : List Addr) = as at r
  cases r <;> simp [skK] at e
  rename_i a o vs n xs h1 h2 h3 h4
  subst e e2
  refine ⟨_, rfl, _, h1, fun h' hh => .tuple hh h2 h3 ?_⟩
  generalize hl : vs.toList = l at h4 ⊢
  generalize e3 : ([] : List Addr) = bs at h4 ⊢
  cases h4 with
  | cons r1 r2 =>
    cases r1
    cases r2 with
    | cons r3 r4 =>
      cases r3
      cases r4
      exact .cons (.int _ _) (.cons (.str _ _) .nil)
theorem cr_minSK {st : Stmt} {f : Addr} {fd : FuncData} (hc : X.calm = true) (F : Fun X.K "short_key" "short_key" st f fd) (T : SkTxt st) (hz : X.mg "len" = none) (hr : Room k X.A) : CallRK X (.builtin "min") [Str.ofString "key"] (rMinSK X.K f) := by
  intro pins s σ H vs zs us ws Q I rv rz h
  obtain ⟨a, xs, x, rfl, rfl, hq, hlen, hx, q⟩ := h
  obtain ⟨oc, od, kV, doc, pm, an, cdv, ct, osl, rfl, lk, hcd⟩ := F.ex
  obtain ⟨pa, p1, p2, p3, p4, p5, p6, kk, e1, e2, e3⟩ := T.ex
  rw [e1, e2, e3] at lk
  cases rv with
  | cons h1 h2 =>
    cases h2
    cases h1
    cases rz with
    | cons h3 h4 =>
      cases h4
      cases h3
      obtain ⟨its, ri, pl, hsz⟩ := I.list hq
      have hn : its.length = xs.length := by rw [← ri.length, List.length_map]
      have hx0 : 0 < xs.length := by
        have := (List.getElem?_eq_some_iff.mp hx).1
        omega
      have h63 := sizeLine_eq
      show wpAny _ _ (call (.builtin "min") [.ref a] [(Str.ofString "key", .ref f)]) _ _ _
      refine call_min_walkK (iter_listW (A := X.A.in1) (I.ok.hd hc) pl.isList fun s₂ e W st hfp hw hk => ?_)
      have hsz2 : its.toArray.size = its.length := by simp
      have ge : ∀ b o, s.heap.get? b = some o → b < s.heap.objs.size := fun b o e => Heap.lt_size e
      have s2n : s₂.heap.objs.size = s.heap.objs.size + 1 := by rw [e]; exact Heap.size_push _ _
      refine ⟨s.heap.objs.size, _, _, _, _, _, _, (fun s' => ∃ h' tk, s' = { s with heap := h', toks := tk } ∧ ∀ b o, s.heap.get? b = some o → h'.get? b = some o),
        (fun i kv s' => ∃ y, xs[i]? = some y ∧ Reads s'.heap kv (skK y) [] ∧ ∀ b, kv = .ref b → b ≠ s₂.heap.objs.size ∧ b ≠ s.heap.objs.size), skLt xs, rfl, W, st, hfp, by omega, ?_, ?_, ?_⟩
      · refine ⟨fun u u' ⟨h', tk, e', k'⟩ m => ?_, fun i kv u u' ⟨y, ey, r, nb⟩ m => ?_, fun i v u o Q' E' hi hP ⟨h', tk, e', k'⟩ hst hS K => ?_, fun i j ki kj u Q' E' _ ⟨y, ey, r1, _⟩ ⟨z, ez, r2, _⟩ hq' => ?_⟩
        · subst e'
          refine ⟨u'.heap, u'.toks, ?_, fun b ob eb => m.heap b ob (fun hb => ?_) (k' b ob eb)⟩
          · obtain ⟨hp, g, d, tk2, os⟩ := u'
            have h1 : g = s.gens := m.gens
            have h2 : d = s.drawn := m.drawn
            have h3 : os = s.os := m.os
            subst h1 h2 h3
            rfl
          · have hlt := ge b ob eb
            rcases List.mem_cons.mp hb with z | z
            · rw [z, s2n] at hlt; exact Nat.not_lt.mpr (Nat.le_succ _) hlt
            · rw [List.mem_singleton.mp z] at hlt; exact Nat.lt_irrefl _ hlt
        · refine ⟨y, ey, ?_, nb⟩
          obtain ⟨b, rfl, o, ho, hall⟩ := reads_sk r
          obtain ⟨n1, n2⟩ := nb b rfl
          exact hall _ (m.heap b o (fun hb => by
            rcases List.mem_cons.mp hb with z | z
            · exact n1 z
            · exact n2 (List.mem_singleton.mp z)) ho)
        · subst e'
          have hP : its[i]? = some v := by simpa using hP
          obtain ⟨y', ey', rv⟩ := vals_get ri hP
          rw [List.getElem?_map] at ey'
          obtain ⟨y, ey, rfl⟩ := Option.map_eq_some_iff.mp ey'
          obtain ⟨t, rfl⟩ := rv
          refine wpAny_mono (SkX.sk_new lk hcd I.ok.mod (fun b o e => k' b o (I.bk b o e)) hz ?_ y t (hlen y (List.mem_of_getElem? ey))) (fun kv u2 hu => ?_) fun _ _ z => z.elim
          · show X.A.depth < recursionLimit
            have := hr.dp
            omega
          · obtain ⟨h2, tk2, b, rfl, k2, rfl, hb, rd⟩ := hu
            have hI := hst.1
            refine K (.ref b) _ ⟨h2, tk2, rfl, fun b o e => k2 b o (k' b o e)⟩ ⟨?_, ?_⟩ (k2 _ _ hS) ⟨y, ey, rd, fun c hc => ?_⟩ fun j kv' ⟨z, ez, r, nb⟩ => ⟨z, ez, Reads.keeps k2 r, nb⟩
            · obtain ⟨o', h1, h3⟩ := hst.1
              exact ⟨o', k2 _ _ h1, h3⟩
            · obtain ⟨o', h1, h3⟩ := hst.2
              exact ⟨o', k2 _ _ h1, h3⟩
            · cases hc
              refine ⟨fun z => ?_, fun z => ?_⟩
              · subst z
                rw [hS] at hb; cases hb
              · obtain ⟨o', h1, h3⟩ := hst.1
                subst z
                rw [h1] at hb; cases hb
        · have gy : xs.getD i default = y := by rw [List.getD_eq_getElem?_getD, ey]; rfl
          have gz : xs.getD j default = z := by rw [List.getD_eq_getElem?_getD, ez]; rfl
          have hb : skLt xs i j = dataLt (skK y) (skK z) := by unfold skLt; rw [gy, gz]
          rw [hb] at hq'
          refine rcLt_alike _ _ _ _ _ _ _ _ r1 r2 (by simp [skK, alike, alikeAll]) (by simp [skK]) ?_ _ _ _ _ hq'
          have hd : (skK y).depth = 1 := by simp [skK, PyData.depth, PyData.depthAll]
          have hd2 : (skK z).depth = 1 := by simp [skK, PyData.depth, PyData.depthAll]
          rw [hd, hd2]
          have := hr.un
          show X.A.units + 1 + _ < _
          omega
      · exact ⟨s₂.heap, s₂.toks, by rw [e], hk⟩
      · rintro v s' hP ⟨h', tk, rfl, k'⟩
        have hP : its[argBest (skLt xs) (its.toArray.size - 1)]? = some v := by simpa using hP
        rw [hsz2, hn] at hP
        obtain ⟨y', ey', rv⟩ := vals_get ri hP
        rw [List.getElem?_map, hx] at ey'
        cases ey'
        exact ⟨.str x, H, I.kept k', rv, q⟩
end
/-! ### short_key(a) < short_key(b) -/
def rLtSK (K : PySem.W.Frag) : R2 := fun x y H Q => ∃ a b i j u v, x = .ref a ∧ y = .ref b ∧ SqT K H a [.int i, .str u] ∧ SqT K H b [.int j, .str v] ∧ Q (.bl (dataLt (.tuple [.int i, .str u]) (.tuple [.int j, .str v]))) H
theorem op_ltSK {X : Cx} (hu : X.A.units + 65 < cLine) : OpR X (compareOp .Lt) (rLtSK X.K) := by
  intro pins s σ H x y v u Q I rx ry h
  obtain ⟨a, b, i, j, p, q, rfl, rfl, ha, hb, hq⟩ := h
  cases rx
  cases ry
  obtain ⟨its, r1, p1, _⟩ := I.tuple ha
  obtain ⟨its2, r2, p2, _⟩ := I.tuple hb
  have rd : ∀ {a : Addr} {its : List Value} {i : Int} {p : Str}, Vals [.int i, .str p] its → IsTup s.heap a its.toArray → Reads s.heap (.ref a) (.tuple [.int i, .str p]) [] := by
    intro a its i p r ⟨o, e, hc, n, hd⟩
    cases r with
    | cons h1 r =>
      cases r with
      | cons h2 r =>
        cases r
        obtain ⟨t1, rfl⟩ := h1
        obtain ⟨t2, rfl⟩ := h2
        exact .tuple e hc hd (.cons (.int _ _) (.cons (.str _ _) .nil))
  refine PySem.W.lt_data (rd r1 p1) (rd r2 p2) (by simp [alike, alikeAll]) (by simp) ?_ ⟨.bl _, H, I, rfl, hq⟩
  have hd : ∀ (i : Int) (p : Str), (PyData.tuple [.int i, .str p]).depth = 1 := fun i p => by simp [PyData.depth, PyData.depthAll]
  rw [hd, hd]
  show _ + 1 < _
  omega
end L2
namespace VS
open PySem PySem.Spec PyProof.Rows L2
def opLtK : D → D → Option D
  | .tup [.int i, .str u], .tup [.int j, .str v] => some (.bl (PySem.W.dataLt (.tuple [.int i, .str (S u)]) (.tuple [.int j, .str (S v)])))
  | _, _ => none
def fMinK : List D → Option D
  | [.lst es] => (asSs es).bind fun ss => if ss.all (fun s => decide (s.length ≤ 16777216)) then (ss[argBest (skLt (ss.map S)) (ss.length - 1)]?).map .str else none
  | _ => none
section
variable {X : Cx} {W : WX} {b b1 b2 : Bool} {k : Nat} {pos : Pos}
theorem rpl_is {E : Wd} {G : Hp} {vs : List V} {i : Int} {u : List Nat} (h : RpL E G vs [.int i, .str u]) : vs = [.int i, .str (S u)] := by
  cases h with
  | cons h1 r =>
    cases r with
    | cons h2 r =>
      cases r
      cases h1
      cases h2
      rfl
theorem ok_ltK : Op2Ok ⟨X.K, X.mg, X.w⟩ (rLtSK X.K) true true true opLtK := by
  intro B G H c σ fp x y dx dy d Q A rx ry e p
  unfold opLtK at e
  split at e
  · cases e
    obtain ⟨a, vs, rfl, h1, r1⟩ := rx.tupH A.fine.le
    obtain ⟨a2, vs2, rfl, h2, r2⟩ := ry.tupH A.fine.le
    rw [rpl_is r1] at h1
    rw [rpl_is r2] at h2
    exact ⟨_, _, _, _, _, _, rfl, rfl, h1, h2, p.here A (.bl _)⟩
  · cases e
theorem px_minK {st : Stmt} {e : Expr} {gs : Env → R (List D)} {p q kpos : Pos} (D0 : Def X.K X.mg "short_key" st) (T : SkTxt st) (hz : X.mg "len" = none) (hc : X.calm = true) (hr : Room k X.A) (hm : X.mg "min" = none) (ha : PXA X W b [e] gs) (hg : Gl X "min" := by rfl) (hgk : Gl X "short_key" := by rfl)
    (he : backTo pos (starEach [e] X.env) = (false, eval e X.env) :: backTo pos (starEach [] X.env) := by rfl) (hpl : (backTo pos (starEach [e] X.env)).any (·.1) = false := by rfl)
    (hall : (backToKw pos (keywordEach [⟨some "key", .Name "short_key" q, kpos⟩] X.env)).all (·.1.isSome) = true := by rfl) (hnone : (backToKw pos (keywordEach [⟨some "key", .Name "short_key" q, kpos⟩] X.env)).any (·.1.isNone) = false := by rfl) (hks : (backToKw pos (keywordEach [⟨some "key", .Name "short_key" q, kpos⟩] X.env)).filterMap (·.1) = [Str.ofString "key"] := by rfl) :
    PX X W true (.Call (.Name "min" p) [e] [⟨some "key", .Name "short_key" q, kpos⟩] pos) (eFn fMinK gs) := by
  obtain ⟨f, fd, F, hf⟩ := D0.ex
  refine pe_mono (pe_callBK (cr_minSK hc F T hz hr) hg hm (by decide +kernel) ha (pk_cons (pe_glob (v := .ref f) hgk hf rfl) pk_nil) (by decide) (by decide) he hpl hall hnone hks) fun σ H Q ⟨B, G, c, fp, A, q⟩ => txa_seq A q fun ds e0 vs G1 H1 s1 t1 A1 r1 q1 => ?_
  obtain ⟨d, e3, p3⟩ := Res.lift q1
  unfold fMinK at e3
  split at e3
  · rename_i es
    obtain ⟨ss, e4, e5⟩ := Option.bind_eq_some_iff.mp e3
    split at e5
    · rename_i hall
      obtain ⟨w, e6, rfl⟩ := Option.map_eq_some_iff.mp e5
      obtain ⟨v, rfl, rv⟩ := r1.one
      obtain ⟨a, vs, rfl, h1, r2⟩ := rv.lstH A1.fine.le
      have hv : vs = (ss.map S).map V.str := asSs_rp r2 e4
      subst hv
      show rMinSK X.K f [V.ref a] [V.ref f] H1 Q
      refine ⟨a, ss.map S, S w, rfl, rfl, h1, fun x hx => ?_, ?_, (p3.grow s1 t1).here A1 (.str _)⟩
      · obtain ⟨s, hs, rfl⟩ := List.mem_map.mp hx
        have := List.all_eq_true.mp hall s hs
        rw [sizeLine_eq]
        show s.toArray.size ≤ _
        simpa using this
      · rw [List.length_map, List.getElem?_map, e6]; rfl
    · cases e5
  · cases e3
/-! ### a dict of constants, locked -/
theorem px_dcK {keys : List (Option Expr)} {values : List Expr} {trs : List (TE × TE)} (kvs : List (Key × V)) (ks ds : List D) (h : PPs X pos keys values trs) (hc : ∀ σ H R, R (kvs.map fun kv => (kV kv.1, kv.2)) H → tPairs trs σ H R := by exact fun _ _ _ q => q)
    (hm : mergeK [] kvs = kvs := by rfl) (hk : ks.map D.key = kvs.map (fun p => some p.1) := by rfl) (hd : ∀ G : Hp, RpL ⟨X.K, X.mg, X.w⟩ G (kvs.map (·.2)) ds) (hall : keys.all (·.isSome) = true := by rfl) (hl : keys.length = values.length := by rfl) (h0 : keys ≠ [] := by simp) (h15 : keys.length ≤ 15 := by decide) (h16 : kvs.length ≤ 15 := by decide) :
    PX X W true (.Dict keys values pos) (eC (.dlk ks ds)) :=
  pe_mono (pe_lockOut (pe_disp h hall hl h0 h15)) fun σ H Q ⟨B, G, c, fp, A, q⟩ => fun p hp => hc _ _ _ (by
    have q' : Post ⟨X.K, X.mg, X.w⟩ B c σ fp G H true Q (.dlk ks ds) := q
    refine ⟨upd_same, kvs, rfl, h16, p, _, upd_same, True.intro, fun od => ?_⟩
    have e : upd (upd (upd H p (.dK [])) p (.dK (mergeK [] kvs))) p (.frz od (.dK (mergeK [] kvs))) = upd H p (.frz od (.dK kvs)) := by
      rw [hm]
      funext a
      by_cases ha : a = p
      · subst ha; rw [upd_same, upd_same]
      · rw [upd_ne ha, upd_ne ha, upd_ne ha, upd_ne ha]
    rw [e]
    exact q'.new A hp fun s => .dlk (kvs := kvs) upd_same hk (hd _))
end
end VS

/-! VS: dicts whose keys are tuples, nested. -/
namespace VS
open PySem PySem.Spec PyProof.Rows L2
section
variable {X : Cx} {pins : List (Addr × Obj)} {σ : L2.St} {H : Hp} {s : Shared}
mutual
theorem nested_of (I : L2.Inv X pins σ H s) : ∀ (d : D) {v : V} {u : Value} {k : NestedKey}, Rp ⟨X.K, X.mg, X.w⟩ H v d → RelV v u → D.nq d = some k → NestedIs s.heap k u
  | .non, v, u, k, r, rv, e => by
    cases r; cases e
    cases (show u = Value.none from rv)
    exact .none
  | .bl b, v, u, k, r, rv, e => by
    cases r; cases e
    cases (show u = Value.bool b from rv)
    exact .bool rfl
  | .int i, v, u, k, r, rv, e => by
    cases r; cases e
    obtain ⟨t, rfl⟩ := rv
    exact .int i t
  | .str l, v, u, k, r, rv, e => by
    cases r; cases e
    obtain ⟨t, rfl⟩ := rv
    exact .text (S l) t
  | .tup ds, v, u, k, r, rv, e => by
    cases r with
    | tup hs rl =>
      rw [D.nq] at e
      obtain ⟨ks, ek, rfl⟩ := Option.map_eq_some_iff.mp e
      cases rv
      obtain ⟨its, r1, ⟨o, h1, h2, n, h3⟩, _⟩ := I.tuple hs
      exact .tup h1 h2 h3 (by simpa using nested_all I ds rl r1 ek)
  | .lst ds, v, u, k, r, rv, e => by simp [D.nq] at e
  | .dic ks ds, v, u, k, r, rv, e => by simp [D.nq] at e
  | .dlk ks ds, v, u, k, r, rv, e => by simp [D.nq] at e
  | .ndk ks ds, v, u, k, r, rv, e => by simp [D.nq] at e
  | .nlk ks ds, v, u, k, r, rv, e => by simp [D.nq] at e
  | .rng lo hi, v, u, k, r, rv, e => by simp [D.nq] at e
  | .obj C fs ds, v, u, k, r, rv, e => by simp [D.nq] at e
theorem nested_all (I : L2.Inv X pins σ H s) : ∀ (ds : List D) {vs : List V} {us : List Value} {ks : List NestedKey}, RpL ⟨X.K, X.mg, X.w⟩ H vs ds → Vals vs us → D.nqs ds = some ks → NestedAll s.heap ks us
  | [], vs, us, ks, r, rv, e => by
    cases r; cases rv
    rw [D.nqs] at e
    cases e
    exact .nil
  | d :: ds, vs, us, ks, r, rv, e => by
    cases r with
    | cons h1 h2 =>
      cases rv with
      | cons r1 r2 =>
        rw [D.nqs] at e
        obtain ⟨k, e1, e2⟩ := Option.bind_eq_some_iff.mp e
        obtain ⟨ks', e3, rfl⟩ := Option.map_eq_some_iff.mp e2
        exact .cons (nested_of I d h1 r1 e1) (nested_all I ds h2 r2 e3)
end
theorem nk_tup {d : D} {k : NestedKey} (e : D.nk d = some k) : ∃ ds, d = .tup ds ∧ D.nq d = some k ∧ k.depth ≤ 8 := by
  cases d <;> simp only [D.nk] at e <;> try cases e
  rename_i ds
  obtain ⟨k', e1, e2⟩ := Option.bind_eq_some_iff.mp e
  split at e2
  · cases e2; exact ⟨ds, rfl, e1, by assumption⟩
  · cases e2
/-- the value of a key -/
theorem key_is (I : L2.Inv X pins σ H s) {d : D} {v : V} {u : Value} {k : NestedKey} (r : Rp ⟨X.K, X.mg, X.w⟩ H v d) (rv : RelV v u) (e : D.nk d = some k) : ∃ b, v = .ref b ∧ u = .ref b ∧ (nestedKind X.prog X.w).is s.heap k b := by
  obtain ⟨ds, rfl, e1, e2⟩ := nk_tup e
  cases r with
  | @tup a vs ds hs rl =>
    cases (show u = Value.ref a from rv)
    exact ⟨a, rfl, rfl, nested_of I (.tup ds) (.tup hs rl) rfl e1, e2⟩
/-- at a stands a dict with these entries; its keys -/
structure ND (E : Wd) (H : Hp) (a : Addr) (xs : List (NestedKey × Addr × Value)) (ks : List D) : Prop where
  rd : Rd H a (dN E.w a xs)
  ky : ks.map D.nk = xs.map (fun x => some x.1)
  nd : (xs.map (·.1)).Nodup
  kr : RpL E H (xs.map fun x => V.ref x.2.1) ks
theorem keys_of {E : Wd} : ∀ {xs : List (NestedKey × Addr × Value)} {ks : List D}, ks.map D.nk = xs.map (fun x => some x.1) → RpL E H (xs.map fun x => V.ref x.2.1) ks → ∀ x ∈ xs, ∃ d, D.nk d = some x.1 ∧ Rp E H (.ref x.2.1) d
  | [], ks, _, _, x, hx => nomatch hx
  | y :: xs, ks, e, r, x, hx => by
    cases ks with
    | nil => simp at e
    | cons d ks =>
      have e1 : D.nk d = some y.1 := by simpa using (List.cons.inj e).1
      have e2 : ks.map D.nk = xs.map (fun x => some x.1) := (List.cons.inj e).2
      cases r with
      | cons h1 h2 =>
        rcases List.mem_cons.mp hx with rfl | z
        · exact ⟨d, e1, h1⟩
        · exact keys_of e2 h2 x z
theorem ND.of {a : Addr} {xs : List (NestedKey × Addr × Value)} {ks : List D} (I : L2.Inv X pins σ H s) (h : ND ⟨X.K, X.mg, X.w⟩ H a xs ks) : (a == sysModules) = false ∧ s.heap.DictOfH (nestedKind X.prog X.w) a xs := by
  have x : ObjOk X.prog X.w H s.heap a (dN X.w a xs) := rd_of I.hok h.rd
  unfold dN at x
  obtain ⟨hs, o, es, ep, h1, h2, h3, h4⟩ := (show _ ∧ _ from x.1)
  refine ⟨hs, o, es, ep, h1, h2, h3, h4, fun y hy => ?_, h.nd⟩
  obtain ⟨d, e1, e2⟩ := keys_of h.ky h.kr y hy
  obtain ⟨b, eb, _, hk⟩ := key_is I e2 (u := .ref y.2.1) rfl e1
  cases eb
  exact hk
theorem dN_ok {P : Program} {w : World} {H' : Hp} {h' : Heap} {a : Addr} {xs : List (NestedKey × Addr × Value)} (hs : (a == sysModules) = false) (dd : h'.DictOfH (nestedKind P w) a xs) : ObjOk P w H' h' a (dN w a xs) := by
  obtain ⟨o, es, ep, h1, h2, h3, h4, _, _⟩ := dd
  unfold dN
  exact ⟨⟨hs, o, es, ep, h1, h2, h3, h4⟩, ⟨o, h1⟩, fun g1 g2 ⟨z, o', es', ep', q1, q2, q3, q4⟩ k => ⟨z, o', es', ep', k _ q1, q2, q3, q4⟩⟩
end
/-! ### the rules, over the heap -/
def tNGet (E : Wd) (td ty : TE) : TE := fun σ H Q => td σ H fun x H1 => ty σ H1 fun y H2 => ∃ a xs ks d k p v, x = .ref a ∧ ND E H2 a xs ks ∧ Rp E H2 y d ∧ D.nk d = some k ∧ atKey xs k = some p ∧ RelV v p.2 ∧ Q v H2
def tNIn (E : Wd) (neg : Bool) (ty td : TE) : TE := fun σ H Q => ty σ H fun y H1 => td σ H1 fun x H2 => ∃ a xs ks d k, x = .ref a ∧ ND E H2 a xs ks ∧ Rp E H2 y d ∧ D.nk d = some k ∧ Q (.bl (cond neg (!(atKey xs k).isSome) (atKey xs k).isSome)) H2
def rSetN (E : Wd) : TSet := fun o i v H Q => ∃ a xs ks d k, o = .ref a ∧ ND E H a xs ks ∧ H a = some (dN E.w a xs) ∧ Rp E H i d ∧ D.nk d = some k ∧ xs.length < sizeLine ∧ ∀ b u, i = .ref b → RelV v u → Q (upd H a (dN E.w a (storedH xs k b u)))
section
variable {X : Cx} {o i e value : Expr} {pos pos' tpos : Pos} {td ty tv : TE}
theorem pe_nget (hu : X.A.units + 9 < cLine) (ho : PE X o td) (hi : PE X i ty) (hs : NoSl i) : PE X (.Subscript o i pos) (tNGet ⟨X.K, X.mg, X.w⟩ td ty) := by
  refine ⟨fun pins s σ H Q I h => ?_⟩
  refine subD_of PySem.F.slot_dict_getitem.lookup hs (thn (ho.run pins s σ H _ I h) fun u s1 ⟨x, H1, I1, rx, q1⟩ => thn (hi.run pins s1 σ H1 _ I1 q1) fun iv s2 ⟨y, H2, I2, ry, a, xs, ks, d, k, p, v, ex, nd, rk, ek, hp, rv, q2⟩ => ?_)
  subst ex
  obtain rfl : u = Value.ref a := rx
  obtain ⟨hsy, hm⟩ := nd.of I2
  obtain ⟨b, rfl, rfl, hk⟩ := key_is I2 rk ry ek
  exact ⟨hm.typeIs, wpAny_getItem_heap (knd := nestedKind X.prog X.w) (by show X.A.units + 1 + 8 < cLine; omega) hk hm hp ⟨v, H2, I2.tok _, rv, q2⟩⟩
theorem pc_nin (hu : X.A.units + 9 < cLine) (hi : PE X i ty) (ho : PE X o td) : PC X .In i o (tNIn ⟨X.K, X.mg, X.w⟩ false ty td) := by
  refine ⟨fun pins s σ H Q I h => ?_⟩
  refine thn (hi.run pins s σ H _ I h) fun iv s1 ⟨y, H1, I1, ry, q1⟩ => thn (ho.run pins s1 σ H1 _ I1 q1) fun u s2 ⟨x, H2, I2, rx, a, xs, ks, d, k, ex, nd, rk, ek, q2⟩ => ?_
  subst ex
  obtain rfl : u = Value.ref a := rx
  obtain ⟨hsy, hm⟩ := nd.of I2
  obtain ⟨b, rfl, rfl, hk⟩ := key_is I2 rk ry ek
  exact wpAny_in_heap (knd := nestedKind X.prog X.w) (by show X.A.units + 1 + 8 < cLine; omega) hk hsy hm ⟨.bl _, H2, I2.tok _, rfl, q2⟩
theorem pc_nnotin (hu : X.A.units + 9 < cLine) (hi : PE X i ty) (ho : PE X o td) : PC X .NotIn i o (tNIn ⟨X.K, X.mg, X.w⟩ true ty td) := by
  refine ⟨fun pins s σ H Q I h => ?_⟩
  refine thn (hi.run pins s σ H _ I h) fun iv s1 ⟨y, H1, I1, ry, q1⟩ => thn (ho.run pins s1 σ H1 _ I1 q1) fun u s2 ⟨x, H2, I2, rx, a, xs, ks, d, k, ex, nd, rk, ek, q2⟩ => ?_
  subst ex
  obtain rfl : u = Value.ref a := rx
  obtain ⟨hsy, hm⟩ := nd.of I2
  obtain ⟨b, rfl, rfl, hk⟩ := key_is I2 rk ry ek
  refine notIn_keyed (knd := nestedKind X.prog X.w) (by show X.A.units + 1 + 8 < cLine; omega) hk hsy ⟨xs, hm, rfl⟩ ⟨.bl _, H2, I2.tok _, rfl, ?_⟩
  rw [valueAt_pairsH, Option.isSome_map]
  exact q2
theorem set_nd (hu : X.A.units + 9 < cLine) : PSet X (rSetN ⟨X.K, X.mg, X.w⟩) := by
  intro pins s σ H o i v ov iv u Q I ro ri rv h
  obtain ⟨a, xs, ks, d, k, rfl, nd, ha, rk, ek, hl, q⟩ := h
  obtain rfl : ov = Value.ref a := ro
  obtain ⟨hsy, hm⟩ := nd.of I
  obtain ⟨b, rfl, rfl, hk⟩ := key_is I rk ri ek
  refine wpAny_setItem_heap (knd := nestedKind X.prog X.w) (by show X.A.units + 1 + 8 < cLine; omega) hk hm (fun h' dd hs => ?_) (Nat.le_of_lt hl)
  have he : ∃ q, h'.get? a = some q := let ⟨q, _, _, hq, _⟩ := dd; ⟨q, hq⟩
  exact ⟨_, d_write I (by rw [ha]; exact True.intro) hs he (dN_ok hsy dd), q b u rfl rv⟩
end
end VS

/-! VS: dicts with nested keys, as the names own them. -/
namespace VS
open PySem PySem.Spec PyProof.Rows L2
theorem Abs.fork {E : Wd} {B : Bs} {c : Env} {σ : L2.St} {fp : List Addr} {G H : Hp} (A : Abs E B G H c σ fp) : ∃ B', B'.H0 = H ∧ Abs E B' G H c σ fp ∧
    ∀ G' H' , Same G G' → Same H H' → Abs E B' G' H' c σ fp → Abs E B G' H' c σ fp ∧ ∀ a, H a ≠ none → G a = none → G' a = none := by
  refine ⟨⟨H, G, [], fun a => a ∈ fp⟩, rfl, ⟨⟨fun a o e _ => e, fun a e => e, fun a _ e => e, A.fine.le, A.fine.tup⟩, A.cells, A.nd, fun p hp => ⟨(A.fresh p hp).1, .inr hp⟩, fun q hq => nomatch hq⟩, fun G' H' s t A2 => ?_⟩
  have gr : ∀ a, H a ≠ none → G a = none → G' a = none := A2.fine.x
  refine ⟨⟨⟨fun a o e n => t a o (A.fine.base a o e n), fun a e => A.fine.there a (t.free e), fun a h1 h2 => gr a (fun z => h1 (A.fine.there a z)) (A.fine.x a h1 h2), A2.fine.le, A2.fine.tup⟩, A.cells.keep s (fun p _ u e => t p u e), A.nd, fun p hp => ⟨gr p (A.cells.there p hp) (A.fresh p hp).1, (A.fresh p hp).2⟩, A.pin⟩, gr⟩
/-! ### reckoning with keys -/
def nHas (ks : List D) (k : NestedKey) : Bool := ks.any fun x => decide (D.nk x = some k)
def nGet : List D → List O → NestedKey → Option O
  | x :: ks, o :: os, k => if D.nk x = some k then some o else nGet ks os k
  | _, _, _ => none
def nRep : List D → List O → NestedKey → D → List O
  | x :: ks, o :: os, k, d => (if D.nk x = some k then .v d else o) :: nRep ks os k d
  | _, _, _, _ => []
def nPut (ks : List D) (os : List O) (kd : D) (k : NestedKey) (d : D) : Option O :=
  if ks.length < 16777216 then some (if nHas ks k then .ndc ks (nRep ks os k d) else .ndc (ks ++ [kd]) (os ++ [.v d])) else none
theorem nHas_at : ∀ {xs : List (NestedKey × Addr × Value)} {ks : List D} (k : NestedKey), ks.map D.nk = xs.map (fun x => some x.1) → nHas ks k = (atKey xs k).isSome
  | [], ks, k, e => by
    cases ks with
    | nil => rfl
    | cons _ _ => simp at e
  | x :: xs, ks, k, e => by
    cases ks with
    | nil => simp at e
    | cons d ks =>
      have e1 : D.nk d = some x.1 := by simpa using (List.cons.inj e).1
      have e2 : ks.map D.nk = xs.map (fun x => some x.1) := (List.cons.inj e).2
      have ih := nHas_at k e2
      unfold nHas at ih ⊢
      rw [List.any_cons, ih, e1]
      unfold atKey
      rw [List.find?_cons]
      by_cases h : x.1 = k
      · rw [h]; simp
      · have : decide ((some x.1 : Option NestedKey) = some k) = false := decide_eq_false fun z => h (Option.some.inj z)
        rw [this, decide_eq_false h]; rfl
theorem nGet_at {E : Wd} {G H : Hp} : ∀ {xs : List (NestedKey × Addr × Value)} {ks : List D} {vs : List V} {os : List O} {fp : List Addr} {k : NestedKey} {o : O}, ks.map D.nk = xs.map (fun x => some x.1) → Vals vs (xs.map fun x => x.2.2) → OwnL E G H vs os fp → nGet ks os k = some o →
    ∃ p v fq, atKey xs k = some p ∧ RelV v p.2 ∧ Own E G H v o fq
  | [], ks, vs, os, fp, k, o, e, _, _, h => by
    cases ks with
    | nil => simp [nGet] at h
    | cons _ _ => simp at e
  | x :: xs, ks, vs, os, fp, k, o, e, rv, ow, h => by
    cases ks with
    | nil => simp at e
    | cons d ks =>
      have e1 : D.nk d = some x.1 := by simpa using (List.cons.inj e).1
      have e2 : ks.map D.nk = xs.map (fun x => some x.1) := (List.cons.inj e).2
      cases rv with
      | cons r1 r2 =>
        cases ow with
        | cons o1 o2 =>
          rw [nGet, e1] at h
          unfold atKey
          rw [List.find?_cons]
          by_cases hk : x.1 = k
          · rw [if_pos (by rw [hk])] at h
            cases h
            rw [decide_eq_true hk]
            exact ⟨x.2, _, _, rfl, r1, o1⟩
          · rw [if_neg (fun z => hk (Option.some.inj z))] at h
            rw [decide_eq_false hk]
            exact nGet_at e2 r2 o2 h
theorem nRep_own {E : Wd} {G H : Hp} {w : V} {d : D} {u : Value} {k : NestedKey} (rw' : RelV w u) (rd : Rp E G w d) : ∀ {xs : List (NestedKey × Addr × Value)} {ks : List D} {vs : List V} {os : List O} {fp : List Addr}, ks.map D.nk = xs.map (fun x => some x.1) → Vals vs (xs.map fun x => x.2.2) → OwnL E G H vs os fp → fp.Nodup →
    ∃ vs' fq, Vals vs' ((xs.map (putAt k u)).map fun x => x.2.2) ∧ OwnL E G H vs' (nRep ks os k d) fq ∧ fq.Nodup ∧ ∀ p ∈ fq, p ∈ fp
  | [], ks, vs, os, fp, e, rv, ow, n => by
    cases ks with
    | nil => exact ⟨[], [], .nil, by simpa [nRep] using (OwnL.nil : OwnL E G H [] [] []), List.nodup_nil, fun p hp => nomatch hp⟩
    | cons _ _ => simp at e
  | x :: xs, ks, vs, os, fp, e, rv, ow, n => by
    cases ks with
    | nil => simp at e
    | cons y ks =>
      have e1 : D.nk y = some x.1 := by simpa using (List.cons.inj e).1
      have e2 : ks.map D.nk = xs.map (fun x => some x.1) := (List.cons.inj e).2
      cases rv with
      | cons r1 r2 =>
        cases ow with
        | @cons _ _ o os f1 f2 o1 o2 =>
          obtain ⟨n1, n2, n3⟩ := List.nodup_append.mp n
          obtain ⟨vs', fq, k1, k2, k3, k4⟩ := nRep_own (k := k) rw' rd e2 r2 o2 n2
          rw [nRep, e1]
          by_cases hk : x.1 = k
          · rw [if_pos (by rw [hk])]
            refine ⟨w :: vs', [] ++ fq, ?_, .cons (.v rd) k2, by simpa using k3, fun p hp => List.mem_append_right _ (k4 p (by simpa using hp))⟩
            rw [List.map_cons, List.map_cons]
            refine .cons ?_ k1
            unfold putAt
            rw [if_pos hk]
            exact rw'
          · rw [if_neg (fun z => hk (Option.some.inj z))]
            refine ⟨_, f1 ++ fq, ?_, .cons o1 k2, List.nodup_append.mpr ⟨n1, k3, fun a ha b hb => n3 a ha b (k4 b hb)⟩, fun p hp => ?_⟩
            · rw [List.map_cons, List.map_cons]
              refine .cons ?_ k1
              unfold putAt
              rw [if_neg hk]
              exact r1
            · rcases List.mem_append.mp hp with hp | hp
              · exact List.mem_append_left _ hp
              · exact List.mem_append_right _ (k4 p hp)
theorem putAt_map {β : Type} (f : NestedKey → Addr → β) (k : NestedKey) (u : Value) (xs : List (NestedKey × Addr × Value)) : (xs.map (putAt k u)).map (fun x => f x.1 x.2.1) = xs.map fun x => f x.1 x.2.1 := by
  rw [List.map_map]
  apply List.map_congr_left
  intro x _
  simp only [Function.comp_def]
  unfold putAt
  split <;> rfl
def atN (i : Nat) (c : Env) : Option (List D × List O) := match c[i]? with
  | some (some (.ndc ks os)) => some (ks, os)
  | _ => none
theorem atN_eq {i : Nat} {c : Env} {q : List D × List O} (h : atN i c = some q) : c[i]? = some (some (.ndc q.1 q.2)) := by
  unfold atN at h
  split at h
  · cases h; assumption
  · cases h
def atNk (i : Nat) (c : Env) : Option (List D × List O) := match c[i]? with
  | some (some (.ndc ks os)) => some (ks, os)
  | some (some (.v (.ndk ks ds))) => some (ks, ds.map .v)
  | some (some (.v (.nlk ks ds))) => some (ks, ds.map .v)
  | _ => none
theorem Abs.ndict {E : Wd} {B : Bs} {G H : Hp} {c : Env} {σ : L2.St} {fp : List Addr} {i : Nat} {q : List D × List O} (A : Abs E B G H c σ fp) (h : atNk i c = some q) :
    ∃ a xs vs fq, σ[i]? = some (some (.ref a)) ∧ ND E H a xs q.1 ∧ Vals vs (xs.map fun x => x.2.2) ∧ OwnL E G H vs q.2 fq := by
  unfold atNk at h
  split at h
  · rename_i e
    cases h
    obtain ⟨v, fq, h1, h2, _⟩ := A.cells.get e
    cases h2 with
    | ndc ha ky n vl kr ow => exact ⟨_, _, _, _, h1, ⟨.inl ha, ky, n, kr.mono A.fine.le⟩, vl, ow⟩
  · rename_i e
    cases h
    obtain ⟨v, fq, h1, h2, _⟩ := A.cells.get e
    cases h2 with
    | v rv =>
      cases rv with
      | ndk ha ky n vl kr r => exact ⟨_, _, _, [], h1, ⟨Same.rd A.fine.le ha, ky, n, kr.mono A.fine.le⟩, vl, ownL_v r⟩
  · rename_i e
    cases h
    obtain ⟨v, fq, h1, h2, _⟩ := A.cells.get e
    cases h2 with
    | v rv =>
      cases rv with
      | nlk ha ky n vl kr r => exact ⟨_, _, _, [], h1, ⟨.inr ⟨_, A.fine.le _ _ ha⟩, ky, n, kr.mono A.fine.le⟩, vl, ownL_v r⟩
  · cases h
def sNSet (i : Nat) (gi g : Env → R D) : Env → Rs := fun c => (g c).st c fun d => (lift (atN i c)).st c fun q => (gi c).st c fun k => (lift (D.nk k)).st c fun kk => (lift (nPut q.1 q.2 k kk d)).st c fun o => .ok .nx (c.set i (some o))
def eNIx (i : Nat) (gk : Env → R D) : Env → R D := fun c => match atNk i c with
  | some q => gk c >>= fun k => lift (D.nk k) >>= fun kk => lift ((nGet q.1 q.2 kk).bind fun o => match o with | .v d => some d | _ => none)
  | none => .stuck
def eNIn (neg : Bool) (i : Nat) (gk : Env → R D) : Env → R D := fun c => match atNk i c with
  | some q => gk c >>= fun k => lift (D.nk k) >>= fun kk => .ok (.bl (cond neg (!nHas q.1 kk) (nHas q.1 kk)))
  | none => .stuck
section
variable {X : Cx} {W : WX} {b : Bool} {pn : List Nat} {e : Expr} {pos : Pos}
theorem px_nix {x : Str} {p : Pos} (i : Nat) {eb : Expr} {gb : Env → R D} (hu : X.A.units + 65 < cLine) (hb : PX X W b eb gb) (hN : X.N[i]? = some x := by rfl) (hv : Vis X.env.scope x := by first | exact Or.inl rfl | exact Or.inr (Or.inl rfl) | exact Or.inr (Or.inr rfl)) (hd : (x == ("__debug__" : Str)) = false := by decide)
    (hcd : (x == ("__classdict__" : Str)) = false := by decide) (hs : NoSl eb := by exact fun _ _ => rfl) : PX X W true (.Subscript (.Name x p) eb pos) (eNIx i gb) :=
  pe_mono (pe_nget (by omega) (pe_var hN hv hd hcd) hb hs) fun σ H Q ⟨B, G, c, fp, A, q⟩ => by
    unfold eNIx at q
    split at q
    · rename_i q' e0
      obtain ⟨a, xs, vs, fq, h1, _⟩ := A.ndict e0
      refine ⟨_, h1, tx_seq A q fun k e3 w G1 H1 s1 t1 A1 r1 q1 => ?_⟩
      obtain ⟨a', xs, vs, fq, h1', nd, vl, ow⟩ := A1.ndict e0
      rw [h1] at h1'
      cases h1'
      cases hk : D.nk k with
      | none => rw [hk] at q1; exact q1.elim
      | some kk =>
        rw [hk] at q1
        obtain ⟨d, e4, p4⟩ := Res.lift q1
        obtain ⟨o, e5, e6⟩ := Option.bind_eq_some_iff.mp e4
        obtain ⟨p, v8, f8, e9, e10, e11⟩ := nGet_at nd.ky vl ow e5
        cases o with
        | v d' =>
          cases e6
          cases e11 with
          | v rv => exact ⟨_, xs, q'.1, k, kk, p, v8, rfl, nd, vw_rp A1.fine.le r1, hk, e9, e10, p4 _ G1 H1 s1 t1 A1 rv⟩
        | _ => cases e6
    · exact q.elim
theorem TXnin {i : Nat} {gb : Env → R D} {neg : Bool} {td : TE} {σ : L2.St} {H : Hp} {Q : VK} (hv : ∀ (σ : L2.St) (H : Hp) (Q : VK) (v : V), σ[i]? = some (some v) → Q v H → td σ H Q)
    (q : TX ⟨X.K, X.mg, X.w⟩ W true (eNIn neg i gb) σ H Q) : tNIn ⟨X.K, X.mg, X.w⟩ neg (TX ⟨X.K, X.mg, X.w⟩ W b gb) td σ H Q := by
  obtain ⟨B, G, c, fp, A, q⟩ := q
  unfold eNIn at q
  split at q
  · rename_i q' e0
    obtain ⟨a0, _, _, _, h1, _⟩ := A.ndict e0
    refine tx_seq A q fun k e3 w G1 H1 s1 t1 A1 r1 q1 => hv σ H1 _ _ h1 ?_
    obtain ⟨a, xs, vs, fq, h1', nd, vl, ow⟩ := A1.ndict e0
    rw [h1] at h1'
    cases h1'
    cases hk : D.nk k with
    | none => rw [hk] at q1; exact q1.elim
    | some kk =>
      rw [hk] at q1
      refine ⟨_, xs, q'.1, k, kk, rfl, nd, vw_rp A1.fine.le r1, hk, ?_⟩
      rw [← nHas_at kk nd.ky]
      exact q1 _ G1 H1 s1 t1 A1 (.bl _)
  · exact q.elim
theorem px_nin {x : Str} {p : Pos} (i : Nat) {eb : Expr} {gb : Env → R D} (hu : X.A.units + 65 < cLine) (hb : PX X W b eb gb) (hN : X.N[i]? = some x := by rfl) (hv : Vis X.env.scope x := by first | exact Or.inl rfl | exact Or.inr (Or.inl rfl) | exact Or.inr (Or.inr rfl)) (hd : (x == ("__debug__" : Str)) = false := by decide)
    (hcd : (x == ("__classdict__" : Str)) = false := by decide) : PX X W true (.Compare eb [.In] [.Name x p] pos) (eNIn false i gb) :=
  pe_mono (pe_cmp (pc_nin (by omega) hb (pe_var hN hv hd hcd)) rfl) fun σ H Q q => TXnin (neg := false) (fun σ H Q v e q => ⟨v, e, q⟩) q
theorem px_nnotin {x : Str} {p : Pos} (i : Nat) {eb : Expr} {gb : Env → R D} (hu : X.A.units + 65 < cLine) (hb : PX X W b eb gb) (hN : X.N[i]? = some x := by rfl) (hv : Vis X.env.scope x := by first | exact Or.inl rfl | exact Or.inr (Or.inl rfl) | exact Or.inr (Or.inr rfl)) (hd : (x == ("__debug__" : Str)) = false := by decide)
    (hcd : (x == ("__classdict__" : Str)) = false := by decide) : PX X W true (.Compare eb [.NotIn] [.Name x p] pos) (eNIn true i gb) :=
  pe_mono (pe_cmp (pc_nnotin (by omega) hb (pe_var hN hv hd hcd)) rfl) fun σ H Q q => TXnin (neg := true) (fun σ H Q v e q => ⟨v, e, q⟩) q
theorem pxt_nin {x : Str} {p : Pos} (i : Nat) {eb : Expr} {gb : Env → R D} (hu : X.A.units + 65 < cLine) (hb : PX X W b eb gb) (hN : X.N[i]? = some x := by rfl) (hv : Vis X.env.scope x := by first | exact Or.inl rfl | exact Or.inr (Or.inl rfl) | exact Or.inr (Or.inr rfl)) (hd : (x == ("__debug__" : Str)) = false := by decide)
    (hcd : (x == ("__classdict__" : Str)) = false := by decide) : PXT X W (.Compare eb [.In] [.Name x p] pos) (eB (eNIn false i gb)) :=
  pt_mono (pt_cmp (pc_nin (by omega) hb (pe_var hN hv hd hcd)) rfl) fun σ H Q q => TXnin (neg := false) (fun σ H Q v e q => ⟨v, e, q⟩) (tx_test (b := true) σ H Q q)
theorem pxt_nnotin {x : Str} {p : Pos} (i : Nat) {eb : Expr} {gb : Env → R D} (hu : X.A.units + 65 < cLine) (hb : PX X W b eb gb) (hN : X.N[i]? = some x := by rfl) (hv : Vis X.env.scope x := by first | exact Or.inl rfl | exact Or.inr (Or.inl rfl) | exact Or.inr (Or.inr rfl)) (hd : (x == ("__debug__" : Str)) = false := by decide)
    (hcd : (x == ("__classdict__" : Str)) = false := by decide) : PXT X W (.Compare eb [.NotIn] [.Name x p] pos) (eB (eNIn true i gb)) :=
  pt_mono (pt_cmp (pc_nnotin (by omega) hb (pe_var hN hv hd hcd)) rfl) fun σ H Q q => TXnin (neg := true) (fun σ H Q v e q => ⟨v, e, q⟩) (tx_test (b := true) σ H Q q)
theorem pxs_nset {x : Str} {ei : Expr} {p p2 : Pos} (i : Nat) {gi g : Env → R D} (hu : X.A.units + 65 < cLine) (h : PX X W true e g) (hi : PX X W true ei gi) (hN : X.N[i]? = some x := by rfl) (hv : Vis X.env.scope x := by first | exact Or.inl rfl | exact Or.inr (Or.inl rfl) | exact Or.inr (Or.inr rfl)) (hd : (x == ("__debug__" : Str)) = false := by decide) (hcd : (x == ("__classdict__" : Str)) = false := by decide)
    (hs : swapsWithSole [.Subscript (.Name x p) ei p2] e pos.line X.env = pure false := by rfl) (hw : swappedStores [.Subscript (.Name x p) ei p2] e X.env = pure none := by rfl)
    (h1 : (assignEach [.Subscript (.Name x p) ei p2] X.env).map (·.2) = [assign (.Subscript (.Name x p) ei p2) X.env] := by rfl)
    (ha : ∀ v, assign (.Subscript (.Name x p) ei p2) X.env v = (do
      let ov ← holding [v] (eval (.Name x p) X.env)
      let iv ← holding [v, ov] (eval ei X.env)
      standAt p2
      holding [v, ov, iv] (setItem ov iv v)
      release [v, ov, iv] []) := by intro _; rfl) : PXS X W pn (.Assign [.Subscript (.Name x p) ei p2] e pos) (sNSet i gi g) :=
  ps_mono (ps_asg h (pg_sub (pe_var hN hv hd hcd) hi (set_nd (by omega)) ha) hs hw h1) fun Dn σ H ⟨B, G, c, fp, A, P, q⟩ => tx_st A q fun d e w G1 H1 s1 t1 A1 r1 q1 => by
    obtain ⟨⟨ks, os⟩, e0, q1⟩ := lift_st q1
    have e1 := atN_eq e0
    obtain ⟨v, fq, h1, h2, _, _, _⟩ := A1.poke e1
    cases h2 with
    | @ndc a _ _ _ _ _ ha _ _ _ _ _ =>
      refine ⟨_, h1, tx_st A1 q1 fun k e3 w2 G2 H2 s2 t2 A2 r2 q2 => ?_⟩
      obtain ⟨kk, ek, q3⟩ := lift_st q2
      obtain ⟨o, eo, q4⟩ := lift_st q3
      obtain ⟨v, fq, h1', h2, n, hin, hpk⟩ := A2.poke e1
      rw [h1] at h1'
      cases h1'
      cases h2 with
      | @ndc _ xs vs _ _ fq ha ky hn vl kr ow =>
        have hkl : ks.length = xs.length := by simpa using congrArg List.length ky
        have nn := List.nodup_cons.mp n
        unfold nPut at eo
        split at eo
        · rename_i hl
          cases eo
          have r2 : Rp ⟨X.K, X.mg, X.w⟩ G2 w2 k := r2
          refine ⟨a, xs, ks, k, kk, rfl, ⟨.inl ha, ky, hn, kr.mono A2.fine.le⟩, ha, r2.mono A2.fine.le, ek, by rw [← hkl, sizeLine_eq]; exact hl, fun b u eb ru => ?_⟩
          subst eb
          have ow2 := ow.upd (p := a) (u := dN X.w a (storedH xs kk b u)) nn.1
          have hh := nHas_at kk ky
          cases hb : nHas ks kk with
          | true =>
            rw [hb] at q4 hh
            have hput : storedH xs kk b u = xs.map (putAt kk u) := by unfold storedH; rw [if_pos hh.symm]
            obtain ⟨vs', fr, k1, k2, k3, k4⟩ := nRep_own (k := kk) ru (r1.mono s2) ky vl ow2 nn.2
            have ky' : ks.map D.nk = (storedH xs kk b u).map (fun x => some x.1) := by
              rw [hput]
              exact ky.trans (putAt_map (fun y _ => some y) kk u xs).symm
            have hn' : ((storedH xs kk b u).map (·.1)).Nodup := by
              rw [hput]
              exact (show (xs.map (putAt kk u)).map (·.1) = xs.map (·.1) from putAt_map (fun y _ => y) kk u xs) ▸ hn
            have kr' : RpL ⟨X.K, X.mg, X.w⟩ G2 ((storedH xs kk b u).map fun x => V.ref x.2.1) ks := by
              rw [hput, putAt_map (fun _ y => V.ref y) kk u xs]
              exact kr
            rw [← hput] at k1
            obtain ⟨fp', A3⟩ := hpk List.mem_cons_self (u := dN X.w a (storedH xs kk b u)) rfl (.ndc upd_same ky' hn' k1 kr' k2) (List.nodup_cons.mpr ⟨fun z => nn.1 (k4 a z), k3⟩) (fun q hq => by
              rcases List.mem_cons.mp hq with z | z
              · rw [z]; exact List.mem_cons_self
              · exact List.mem_cons_of_mem _ (k4 q z))
            exact q4 σ G2 _ fp' (Same.refl _) A3
          | false =>
            rw [hb] at q4 hh
            have hno : atKey xs kk = none := by
              cases hx : atKey xs kk with
              | none => rfl
              | some p => rw [hx] at hh; cases hh
            have hput : storedH xs kk b u = xs ++ [(kk, b, u)] := storedH_new hno b u
            have ky' : (ks ++ [k]).map D.nk = (storedH xs kk b u).map (fun x => some x.1) := by
              rw [hput, List.map_append, List.map_append, ky]
              simp [ek]
            have hn' : ((storedH xs kk b u).map (·.1)).Nodup := by
              rw [hput, List.map_append, List.nodup_append]
              refine ⟨hn, by simp, fun y hy z hz e => ?_⟩
              have hz : z = kk := by simpa using hz
              obtain ⟨x, hx, rfl⟩ := List.mem_map.mp hy
              have : (atKey xs kk).isSome = true := by
                unfold atKey
                rw [Option.isSome_map, List.find?_isSome]
                exact ⟨x, hx, decide_eq_true (e.trans hz)⟩
              rw [hno] at this; cases this
            have vl' : Vals (vs ++ [w]) ((storedH xs kk b u).map fun x => x.2.2) := by
              rw [hput, List.map_append]
              exact vl.append (.cons ru .nil)
            have kr' : RpL ⟨X.K, X.mg, X.w⟩ G2 ((storedH xs kk b u).map fun x => V.ref x.2.1) (ks ++ [k]) := by
              rw [hput, List.map_append]
              exact kr.append (.cons r2 .nil)
            obtain ⟨fp', A3⟩ := hpk List.mem_cons_self (u := dN X.w a (storedH xs kk b u)) rfl (.ndc upd_same ky' hn' vl' kr' (ow2.append (.cons (.v (r1.mono s2)) .nil))) (by simpa using n) (fun q hq => by simpa using hq)
            exact q4 σ G2 _ fp' (Same.refl _) A3
        · cases eo
end
end VS

/-! VS: dicts with nested keys: new ones, their length. -/
namespace VS
open PySem PySem.Spec PyProof.Rows L2
def tNNew (w : World) : TE := fun _ H Q => ∀ p, H p = none → Q (.ref p) (upd H p (dN w p []))
def tN1 (E : Wd) (tk tv : TE) : TE := fun σ H Q => ∀ p, H p = none → tk σ (upd H p (dN E.w p [])) fun x H1 => tv σ H1 fun v H2 => ∃ d k, H2 p = some (dN E.w p []) ∧ Rp E H2 x d ∧ D.nk d = some k ∧ ∀ b u, x = .ref b → RelV v u → Q (.ref p) (upd H2 p (dN E.w p [(k, b, u)]))
def rLenN (E : Wd) : List V → Hp → VK → Prop := fun vs H Q => ∃ a xs ks, vs = [V.ref a] ∧ ND E H a xs ks ∧ (xs.length : Int) < 2 ^ 63 ∧ Q (.int xs.length) H
section
variable {X : Cx} {pos : Pos} {ke ve : Expr} {tk tv : TE}
theorem new_ok {P : Program} {w : World} {H : Hp} (h : Heap) (hb : sysModules < h.objs.size) : ObjOk P w H (h.push { cls := .type "dict", data := .dict #[] }) h.objs.size (dN w h.objs.size []) :=
  dN_ok (beq_eq_false_iff_ne.mpr fun z => Nat.lt_irrefl _ (z ▸ hb)) (Heap.DictOfH.new h)
theorem pe_nnew : PE X (.Dict [] [] pos) (tNNew X.w) := ⟨fun pins s σ H Q I h =>
  wpAny_Dict_empty ⟨.ref s.heap.objs.size, _, I.laid (a := s.heap.objs.size) (o := dN X.w s.heap.objs.size []) (t' := s.toks) (fun _ _ q => Heap.get?_push_of_some _ q) (Nat.le_refl _) (new_ok s.heap I.big), rfl, h _ (I.hok.fresh (Nat.le_refl _))⟩⟩
theorem pe_n1 (hu : X.A.units + 8 < cLine) (hk : PE X ke tk) (hv : PE X ve tv) : PE X (.Dict [some ke] [ve] pos) (tN1 ⟨X.K, X.mg, X.w⟩ tk tv) := by
  refine ⟨fun pins s σ H Q I q => ?_⟩
  have hn := I.hok.fresh (Nat.le_refl s.heap.objs.size)
  have I1 := I.laid (a := s.heap.objs.size) (o := dN X.w s.heap.objs.size []) (h' := s.heap.push { cls := .type "dict", data := .dict #[] }) (t' := s.toks) (fun _ _ q => Heap.get?_push_of_some _ q) (Nat.le_refl _) (new_ok s.heap I.big)
  have P := pps_cons (X := X) (pos := pos) hk hv pps_nil
  rw [arm_eval_Dict, zip_pairTrees [some ke] [ve] X.env pos rfl rfl, dictDisplay_pairs (pairTrees [some ke] [ve] X.env pos) (by
    intro z
    have := pairTrees_length [some ke] [ve] X.env pos rfl rfl
    rw [z] at this; cases this) (by rw [pairTrees_length [some ke] [ve] X.env pos rfl rfl]; exact (by decide : 1 < 17))]
  refine wpAny_bind (wpAny_standAt (wpAny_bind (wpAny_subDictH (knd := nestedKind X.prog X.w) (Q := fun d s' => wpAny (model X.prog X.w) X.A (pure (Value.ref d)) (EP X pins σ Q) X.xe s') hu (by rw [pairTrees_length [some ke] [ve] X.env pos rfl rfl]; exact (by decide : 1 ≤ 15)) ?_)))
  have hq : tPairs [(tk, tv)] σ (upd H s.heap.objs.size (dN X.w s.heap.objs.size [])) fun ps H2 => match ps with
      | [(x, v)] => ∃ d k, H2 s.heap.objs.size = some (dN X.w s.heap.objs.size []) ∧ Rp ⟨X.K, X.mg, X.w⟩ H2 x d ∧ D.nk d = some k ∧ ∀ b u, x = .ref b → RelV v u → Q (.ref s.heap.objs.size) (upd H2 s.heap.objs.size (dN X.w s.heap.objs.size [(k, b, u)]))
      | _ => False := q _ hn
  refine thn (P.run pins _ σ _ _ I1 hq) fun ws s2 ⟨ps, H2, I2, rel, hR⟩ => ?_
  obtain ⟨x, v, rfl⟩ : ∃ x v, ps = [(x, v)] := by
    match ps, hR with
    | [(x, v)], _ => exact ⟨x, v, rfl⟩
  obtain ⟨d, k, hp, rk, ek, q2⟩ := hR
  cases rel with
  | @cons _ pw _ _ h1 h2 =>
    cases h2
    obtain ⟨wk, wv⟩ := pw
    obtain ⟨b, rfl, rfl, hkey⟩ := key_is I2 rk h1.1 ek
    have nd0 : ND ⟨X.K, X.mg, X.w⟩ H2 s.heap.objs.size [] [] := ⟨.inl hp, rfl, List.nodup_nil, .nil⟩
    obtain ⟨hsy, hm⟩ := nd0.of I2
    refine ⟨[(k, b, wv)], ⟨rfl, rfl, hkey, True.intro⟩, hm, fun h' tk' dd hs => wpAny_pure ?_⟩
    have he : ∃ q, h'.get? s.heap.objs.size = some q := let ⟨q, _, _, hq, _⟩ := dd; ⟨q, hq⟩
    exact ⟨.ref s.heap.objs.size, _, d_write I2 (by rw [hp]; exact True.intro) hs he (dN_ok hsy dd), rfl, q2 b wv rfl h1.2⟩
theorem call_lenN : CallR X (.builtin "len") (rLenN ⟨X.K, X.mg, X.w⟩) := by
  intro pins s σ H xs us Q I r h
  obtain ⟨a, es, ks, rfl, nd, hl, q⟩ := h
  obtain ⟨u, rfl, rx⟩ := vals1 r
  obtain rfl : u = .ref a := rx
  obtain ⟨hsy, hm⟩ := nd.of I
  exact call_len_dictH hsy hm hl ⟨.int es.length, H, I.tok _, ⟨_, rfl⟩, q⟩
end
def eNNew : Env → R O := fun _ => .ok (.ndc [] [])
def eN1 (gk gv : Env → R D) : Env → R O := fun c => gk c >>= fun k => gv c >>= fun d => lift (D.nk k) >>= fun _ => .ok (.ndc [k] [.v d])
def fLenN : List D → Option D
  | [.ndk ks _] => if (ks.length : Int) < 2 ^ 63 then some (.int ks.length) else none
  | [.nlk ks _] => if (ks.length : Int) < 2 ^ 63 then some (.int ks.length) else none
  | _ => none
section
variable {X : Cx} {W : WX} {b : Bool} {pos : Pos} {ke ve : Expr}
theorem pf_nnew : PF X W (.Dict [] [] pos) eNNew :=
  pe_mono pe_nnew fun σ H Q ⟨B, G, c, fp, A, q⟩ => fun p hp => by
    have q' : PostF ⟨X.K, X.mg, X.w⟩ B c σ fp G H Q (.ndc [] []) := q
    refine q' (.ref p) G _ [p] (Same.refl _) (same_upd hp) (A.newO hp rfl) (.ndc (xs := []) (vs := []) upd_same rfl List.nodup_nil .nil .nil .nil) (by simp) fun q hq => ?_
    have : q = p := by simpa using hq
    subst this
    exact ⟨hp, A.fine.fresh hp⟩
theorem pf_n1 {gk gv : Env → R D} (hu : X.A.units + 65 < cLine) (hk : PX X W true ke gk) (hv : PX X W true ve gv) : PF X W (.Dict [some ke] [ve] pos) (eN1 gk gv) :=
  pe_mono (pe_n1 (by omega) hk hv) fun σ H Q ⟨B, G, c, fp, A, q⟩ => fun p hp => by
    have pf : p ∉ fp := fun z => A.cells.there p z hp
    have p0 : B.H0 p = none := A.fine.there p hp
    have gp : G p = none := A.fine.fresh hp
    have A1 : Abs ⟨X.K, X.mg, X.w⟩ B G (upd H p (dN X.w p [])) c σ fp := A.newO hp rfl
    obtain ⟨B', eB, A2, back⟩ := A1.fork
    have same1 : Same H (upd H p (dN X.w p [])) := same_upd hp
    unfold eN1 at q
    refine ⟨B', G, c, fp, A2, ?_⟩
    cases eg : gk c with
    | stuck => rw [eg] at q; exact q.elim
    | ex x =>
      rw [eg] at q
      exact fun cl dx G' H' s t A3 xr => q cl dx G' H' s (same1.trans t) (back G' H' s t A3).1 xr
    | ok kd =>
      rw [eg, ok_bind] at q
      intro x G1 H1 s1 t1 A3 r1
      refine ⟨B', G1, c, fp, A3, ?_⟩
      cases ev : gv c with
      | stuck => rw [ev] at q; exact q.elim
      | ex y =>
        rw [ev] at q
        exact fun cl dx G' H' s t A4 xr => q cl dx G' H' (s1.trans s) (same1.trans (t1.trans t)) (back G' H' (s1.trans s) (t1.trans t) A4).1 xr
      | ok d =>
        rw [ev, ok_bind] at q
        intro v G2 H2 s2 t2 A4 r2
        obtain ⟨A5, gr⟩ := back G2 H2 (s1.trans s2) (t1.trans t2) A4
        cases en : D.nk kd with
        | none => rw [en] at q; exact q.elim
        | some k =>
          rw [en] at q
          have q' : PostF ⟨X.K, X.mg, X.w⟩ B c σ fp G H Q (.ndc [kd] [.v d]) := q
          have hp2 : H2 p = some (dN X.w p []) := t2 p _ (t1 p _ upd_same)
          have g2 : G2 p = none := gr p (by rw [upd_same]; exact fun z => nomatch z) gp
          have r1 : Rp ⟨X.K, X.mg, X.w⟩ G1 x kd := r1
          have r2 : Rp ⟨X.K, X.mg, X.w⟩ G2 v d := r2
          refine ⟨kd, k, hp2, (r1.mono s2).mono A4.fine.le, en, fun b u eb ru => ?_⟩
          subst eb
          have sm : Same H (upd H2 p (dN X.w p [(k, b, u)])) := fun a o e => by
            have hne : a ≠ p := ne_of_none e hp
            rw [upd_ne hne]
            exact t2 a _ (t1 a _ (same1 a o e))
          refine q' (.ref p) G2 _ [p] (s1.trans s2) sm (A5.pokeOut pf g2 p0 rfl) (.ndc (xs := [(k, b, u)]) (vs := [v]) upd_same (by simp [en]) (by simp) (.cons ru .nil) (.cons (r1.mono s2) .nil) (.cons (.v r2) .nil)) (by simp) fun q hq => ?_
          have : q = p := by simpa using hq
          subst this
          exact ⟨hp, g2⟩
theorem ok_lenN : CallOk ⟨X.K, X.mg, X.w⟩ (rLenN ⟨X.K, X.mg, X.w⟩) b true fLenN := by
  intro B G H c σ fp vs ds d Q A r e p
  unfold fLenN at e
  split at e
  · split at e
    · cases e
      rename_i ks ds hl
      obtain ⟨v, rfl, rv⟩ := r.one
      have rv := vw_rp A.fine.le rv
      cases rv with
      | @ndk a xs vs _ _ h1 e1 n1 y1 k1 r1 =>
        have hlen : xs.length = ks.length := by simpa using (congrArg List.length e1).symm
        refine ⟨a, xs, ks, rfl, ⟨h1, e1, n1, k1⟩, by rw [hlen]; exact hl, ?_⟩
        rw [hlen]
        exact p.here A (.int _)
    · cases e
  · split at e
    · cases e
      rename_i ks ds hl
      obtain ⟨v, rfl, rv⟩ := r.one
      have rv := vw_rp A.fine.le rv
      cases rv with
      | @nlk a o xs vs _ _ h1 e1 n1 y1 k1 r1 =>
        have hlen : xs.length = ks.length := by simpa using (congrArg List.length e1).symm
        refine ⟨a, xs, ks, rfl, ⟨.inr ⟨o, h1⟩, e1, n1, k1⟩, by rw [hlen]; exact hl, ?_⟩
        rw [hlen]
        exact p.here A (.int _)
    · cases e
  · cases e
end
end VS

/-! VS: dict comprehensions as values, {k: v} with any key, list(d.values()), len(set(..)) of numbers. -/
namespace VS
open PySem PySem.Spec PyProof.Rows L2
/-! ### list(d.values()) -/
def tListVals (td : TE) : TE := fun σ H Q => td σ H fun x H1 => ∃ a kvs, x = V.ref a ∧ Rd H1 a (.dK kvs) ∧ ∀ p, H1 p = none → Q (.ref p) (upd H1 p (.lst (kvs.map (·.2))))
theorem valsKV {κ : Type} {kvs : List (κ × V)} {vs : List (κ × Value)} (r : KV kvs vs) {us : List Value} (hl : us.length = vs.length) (h : ∀ (j : Nat) (v : Value), us[j]? = some v → ∃ k, vs[j]? = some (k, v)) : Vals (kvs.map (·.2)) us := by
  unfold KV at r
  induction r generalizing us with
  | nil =>
    have : us = [] := List.length_eq_zero_iff.mp hl
    subst this
    exact .nil
  | cons r t ih =>
    cases us with
    | nil => simp at hl
    | cons u us =>
      obtain ⟨k, e⟩ := h 0 u rfl
      have e := Option.some.inj (show some _ = some (k, u) from e)
      rw [e] at r
      exact .cons r.2 (ih (by simpa using hl) fun j v e => h (j + 1) v (by simpa using e))
section
variable {X : Cx} {o : Expr} {p pos apos mpos : Pos} {td : TE}
theorem pe_listVals (hc : X.calm = true) (hg : Gl X "list") (hm : X.mg "list" = none) (hd : PE X o td) (hbase : attributeBase o "values" X.env (eval o X.env) = eval o X.env := by rfl) (hline : (apos.endLine == mpos.line) = true := by rfl)
    (na : starEach [Expr.Call (.Attribute o "values" apos) [] [] mpos] X.env = (false, eval (Expr.Call (.Attribute o "values" apos) [] [] mpos) X.env) :: starEach [] X.env := by rfl) :
    PE X (.Call (.Name "list" p) [.Call (.Attribute o "values" apos) [] [] mpos] [] pos) (tListVals td) := by
  refine ⟨fun pins s σ H Q I h => ?_⟩
  refine Call_ (ld_blt I hg hm (u := .type "list") (by first | rfl | decide +kernel) ?_)
  refine PyProof.Rows.callWith_type1 (PyProof.Rows.args_cons (wpAny_Call_method0_late hbase hline (thn (hd.run pins s σ H _ I h) fun v s1 ⟨x, H1, I1, r1, a, kvs, ex, ha, q⟩ => ?_)) na) na rfl
  subst ex
  obtain rfl : v = Value.ref a := r1
  obtain ⟨z, hsys, vs, rel, dof⟩ := dk_rd I1.hok ha
  obtain ⟨ep, dat⟩ := dof.dictAt
  have dat' := dat
  obtain ⟨ob, es, ho, ex, hdat, hko, hpr, hnd⟩ := dat'
  refine ⟨"dict", "dict.values", F.plainAttrs_dict, F.slot_dict_values, F.type_dict_values, ⟨ob, ho, ex.1⟩, fun b e => ?_, Calls.callWith_builtin rfl (PySem.evalArgs_none ?_)⟩
  · cases e
    exact ⟨ob, ho, ex.2.1⟩
  refine call_meetsIn F.slot_dict_values ⟨ob, ho, ex.1⟩ F.entry_dict_values (F.args_dict_values_1 _) (meets_dict_values (mixKind X.prog X.w) a hsys) ⟨⟨vs, dof⟩, ?_⟩
  have k1 : ∀ b u, s1.heap.get? b = some u → (s1.heap.push { cls := .type "dict_values", data := .fields #[.ref a] }).get? b = some u := fun b u e => Heap.get?_push_of_some _ e
  have dat1 : (s1.heap.push { cls := .type "dict_values", data := .fields #[.ref a] }).DictAt (mixKind X.prog X.w) a vs ep := dat.keep k1
  refine PyProof.Rows.args_nil ?_
  refine PySem.W.kdl_call (PySem.W.kdl_values (knd := mixKind X.prog X.w) (kvs := vs) (ep := ep) (d := a) (r := s1.heap.objs.size)) (I.ok.hd hc) ⟨⟨_, Heap.get?_push_size _ rfl, rfl, rfl⟩, dat1⟩ (by rw [← rel.length]; exact z) fun h' tk acc c' hk hD hacc => ?_
  have hsz : (s1.heap.push { cls := .type "dict_values", data := .fields #[.ref a] }).objs.size = s1.heap.objs.size + 1 := Heap.size_push _ _
  have hv : Vals (kvs.map (·.2)) acc.toList := valsKV rel (by rw [Array.length_toList]; exact hacc.1) fun j v e => hacc.2 j v (by rw [← Array.getElem?_toList]; exact e)
  refine ⟨.ref (s1.heap.push { cls := .type "dict_values", data := .fields #[.ref a] }).objs.size, upd H1 (s1.heap.push { cls := .type "dict_values", data := .fields #[.ref a] }).objs.size (.lst (kvs.map (·.2))), I1.laid (t' := tk) (fun b u e => hk b u (k1 b u e)) (by rw [hsz]; omega)
    (show ObjOk X.prog X.w _ _ _ (.lst (kvs.map (·.2))) from ⟨by rw [List.length_map]; exact z, acc.toList, c', hv, by rw [Array.toArray_toList]; exact hD⟩), rfl, q _ (I1.hok.fresh (by rw [hsz]; omega))⟩
end
/-! ### len(set(e)), e a list of numbers -/
def dct (ns : List Int) : Nat := (PyProof.Rows.firstMet (fun i => ns.getD i 0) ns.length).length
def tLenSetN (K : PySem.W.Frag) (ta : TE) : TE := fun σ H Q => ta σ H fun x H1 => ∃ (l : Addr) (ns : List Int), x = .ref l ∧ SqL K H1 l (ns.map V.int) ∧ ns.length ≤ 4000 ∧ Q (.int (dct ns : Nat)) H1
theorem intsAre_vals' : ∀ {ns : List Int} {us : List Value}, Vals (ns.map V.int) us → PyProof.Rows.IntsAre us ns
  | [], _, .nil => .nil
  | n :: ns, _, .cons r t => by
    obtain ⟨k, rfl⟩ := r
    exact .cons n k (intsAre_vals' t)
theorem pe_lenSetN {X : Cx} {a : Expr} {ta : TE} {p p2 q pos : Pos} (hc : X.calm = true) (hg : Gl X "len") (hm : X.mg "len" = none) (hg2 : Gl X "set") (hm2 : X.mg "set" = none) (ha : PE X a ta)
    (na : starEach [a] X.env = (false, eval a X.env) :: starEach [] X.env := by rfl) : PE X (.Call (.Name "len" p) [.Call (.Name "set" p2) [a] [] q] [] pos) (tLenSetN X.K ta) := by
  refine ⟨fun pins s σ H Q I h => ?_⟩
  refine Call_ (ld_blt I hg hm (u := .builtin "len") (by first | rfl | decide +kernel) ?_)
  refine PyProof.Rows.callWith_builtin1 (PyProof.Rows.args_cons ?_ rfl) rfl rfl
  refine Call_ (ld_blt I hg2 hm2 (u := .type "set") (by first | rfl | decide +kernel) ?_)
  refine PyProof.Rows.callWith_type1 (PyProof.Rows.args_cons (thn (ha.run pins s σ H _ I h) fun v s1 ⟨x, H1, I1, r1, q1⟩ => PyProof.Rows.args_nil ?_) na) na rfl
  obtain ⟨l, ns, rfl, hq, hl, q1⟩ := q1
  cases r1
  obtain ⟨its, r, pl, hz⟩ := I1.list hq
  have hlen : its.toArray.size = ns.length := by rw [List.size_toArray, ← r.length, List.length_map]
  refine call_set_list (I1.ok.hd hc) pl.isList (by simpa using intsAre_vals' r) (by rw [hlen]; unfold scanBound; omega) fun h' tk hS hk => ?_
  refine PyProof.Rows.args_nil ?_
  rw [hlen] at hS
  obtain ⟨o, es, ep, t, ho, hex, hd, _, _, _, hf, hn⟩ := hS
  have I2 : Inv X pins σ H1 { s1 with heap := h', toks := tk } := I1.kept fun b o e => hk b o (Heap.lt_size e) e
  have := PyProof.Rows.firstMet_length_le (fun i => ns.getD i 0) ns.length
  exact call_len_set ho hex hd hf (by rw [hn] <;> omega) ⟨.int (dct ns : Nat), H1, I2.tok _, ⟨_, by rw [hn]; rfl⟩, q1⟩
/-! ### .. in the layer -/
def eVals (ga : Env → R D) : Env → R D := fun c => ga c >>= fun d => lift (dkv d) >>= fun q => .ok (.lst q.2)
def eLenSet (ga : Env → R D) : Env → R D := fun c => ga c >>= fun d => match d with
  | .lst ds => lift (asInts ds) >>= fun ns => if ns.length ≤ 4000 then .ok (.int (dct ns : Nat)) else .stuck
  | _ => .stuck
section
variable {X : Cx} {W : WX} {b : Bool} {pos : Pos} {o e : Expr} {p apos mpos : Pos} {ga : Env → R D}
theorem px_listVals (hc : X.calm = true) (hm : X.mg "list" = none) (h : PX X W true o ga) (hg : Gl X "list" := by rfl) (hbase : attributeBase o "values" X.env (eval o X.env) = eval o X.env := by rfl) (hline : (apos.endLine == mpos.line) = true := by rfl)
    (na : starEach [Expr.Call (.Attribute o "values" apos) [] [] mpos] X.env = (false, eval (Expr.Call (.Attribute o "values" apos) [] [] mpos) X.env) :: starEach [] X.env := by rfl) :
    PX X W true (.Call (.Name "list" p) [.Call (.Attribute o "values" apos) [] [] mpos] [] pos) (eVals ga) :=
  pe_mono (pe_listVals hc hg hm h hbase hline na) fun σ H Q ⟨B, G, c, fp, A, q⟩ => tx_seq A q fun d e0 v G1 H1 s1 t1 A1 r1 q1 => by
    cases hd : dkv d with
    | none => rw [hd] at q1; exact q1.elim
    | some q' =>
      rw [hd] at q1
      have q1 : Post ⟨X.K, X.mg, X.w⟩ B c σ fp G H true Q (.lst q'.2) := q1
      obtain ⟨a, kvs, rfl, hr, hk, ho⟩ := dkv_rp (show Rp _ G1 v d from r1) hd
      exact ⟨a, kvs, rfl, Same.rd A1.fine.le hr, fun p hp => (q1.grow s1 t1).new A1 hp fun s => .lst (.inl (.inl upd_same)) (ho.mono s)⟩
theorem px_lenSet {p2 q : Pos} (hc : X.calm = true) (hm : X.mg "len" = none) (hm2 : X.mg "set" = none) (h : PX X W b e ga) (hg : Gl X "len" := by rfl) (hg2 : Gl X "set" := by rfl) (na : starEach [e] X.env = (false, eval e X.env) :: starEach [] X.env := by rfl) :
    PX X W true (.Call (.Name "len" p) [.Call (.Name "set" p2) [e] [] q] [] pos) (eLenSet ga) :=
  pe_mono (pe_lenSetN hc hg hm hg2 hm2 h na) fun σ H Q ⟨B, G, c, fp, A, q⟩ => tx_seq A q fun d e0 v G1 H1 s1 t1 A1 r1 q1 => by
    have r1 := vw_rp A1.fine.le r1
    cases r1 with
    | @lst a vs ds hs r =>
      cases hi : asInts ds with
      | none =>
        have q1 : Res ⟨X.K, X.mg, X.w⟩ W B c σ fp G1 H1 (lift (asInts ds) >>= fun ns => if ns.length ≤ 4000 then R.ok (D.int (dct ns : Nat)) else .stuck) _ := q1
        rw [hi] at q1; exact q1.elim
      | some ns =>
        have q1 : Res ⟨X.K, X.mg, X.w⟩ W B c σ fp G1 H1 (lift (asInts ds) >>= fun ns => if ns.length ≤ 4000 then R.ok (D.int (dct ns : Nat)) else .stuck) (Post ⟨X.K, X.mg, X.w⟩ B c σ fp G H true Q) := q1
        rw [hi] at q1
        have q1 : Res ⟨X.K, X.mg, X.w⟩ W B c σ fp G1 H1 (if ns.length ≤ 4000 then R.ok (D.int (dct ns : Nat)) else .stuck) (Post ⟨X.K, X.mg, X.w⟩ B c σ fp G H true Q) := q1
        by_cases hl : ns.length ≤ 4000
        · rw [if_pos hl] at q1
          have hv : vs = ns.map V.int := asInts_rp r hi
          subst hv
          exact ⟨a, ns, rfl, hs, hl, ((show Post ⟨X.K, X.mg, X.w⟩ B c σ fp G H true Q _ from q1).grow s1 t1).here A1 (.int _)⟩
        · rw [if_neg hl] at q1; exact q1.elim
    | _ => exact q1.elim
end
/-! ### a dict comprehension as a value -/
theorem Abs.own_lock {E : Wd} {B : Bs} {c : Env} {σ : L2.St} {fp : List Addr} {G H G' H' : Hp} {a : Addr} {kvs : List (Key × V)} {od : Obj} (A : Abs E B G H c σ fp) (A' : Abs E B G' H' c σ fp) (ha : H a = none) (ga : G' a = none) (t : Same H H') :
    Same H (upd H' a (.frz od (.dK kvs))) ∧ Abs E B (upd G' a (.frz od (.dK kvs))) (upd H' a (.frz od (.dK kvs))) c σ fp := by
  have h0 : B.H0 a = none := A.fine.there a ha
  have pf : a ∉ fp := fun z => A.cells.there a z ha
  refine ⟨fun b o e => by rw [upd_ne (ne_of_none e ha)]; exact t b o e, ⟨⟨fun b o e n => ?_, fun b e => ?_, fun b e1 e2 => ?_, fun b u e => ?_, fun b u e k => ?_⟩, A'.cells.keep (same_upd ga) fun q hq w e => ?_, A'.nd, fun p hp => ?_, A'.pin⟩⟩
  · have hb : b ≠ a := fun z => by subst z; rw [h0] at e; cases e
    rw [upd_ne hb]; exact A'.fine.base b o e n
  · by_cases hb : b = a
    · rw [hb]; exact h0
    · rw [upd_ne hb] at e; exact A'.fine.there b e
  · have hb : b ≠ a := fun z => e1 (by rw [z]; exact h0)
    rw [upd_ne hb]; exact A'.fine.x b e1 e2
  · by_cases hb : b = a
    · subst hb; rw [upd_same] at e ⊢; exact e
    · rw [upd_ne hb] at e ⊢; exact A'.fine.le b u e
  · by_cases hb : b = a
    · subst hb; rw [upd_same] at e ⊢; exact e
    · rw [upd_ne hb] at e ⊢; exact A'.fine.tup b u e k
  · have hq : q ≠ a := fun z => pf (by rw [← z]; exact hq)
    rw [upd_ne hq]; exact e
  · have hq : p ≠ a := fun z => pf (by rw [← z]; exact hp)
    rw [upd_ne hq]; exact A'.fresh p hp
def lkO : O → Option D
  | .dic ks os => (vals os).map fun ds => .dlk ks ds
  | _ => none
/-- a new dict, known from now on -/
def eLk (g : Env → R O) : Env → R D := fun c => g c >>= fun o => lift (lkO o)
section
variable {X : Cx} {W : WX} {pn : List Nat} {e kx vx : Expr} {ifs : List Expr} {pos : Pos} {wi : TI} {gs : Env → R (List D)} {t : Env → R Bool} {gk gv : Env → R D} {i : Nat}
theorem px_lk {g : Env → R O} (h : PF X W e g) : PX X W true e (eLk g) :=
  pe_mono (pe_lockOut h) fun σ H Q ⟨B, G, c, fp, A, q⟩ => by
    unfold eLk at q
    refine ⟨B, G, c, fp, A, ?_⟩
    cases hg : g c with
    | stuck => rw [hg] at q; exact q.elim
    | ex x => rw [hg] at q; exact q
    | ok o =>
      rw [hg] at q
      obtain ⟨d, e1, p1⟩ := Res.lift (show Res ⟨X.K, X.mg, X.w⟩ W B c σ fp G H (lift (lkO o)) _ from q)
      intro v G' H' fq s t A' own nd fr
      cases o with
      | dic ks os =>
        obtain ⟨ds, ev, rfl⟩ := Option.map_eq_some_iff.mp (show (vals os).map (fun ds => D.dlk ks ds) = some d from e1)
        cases own with
        | @dic a kvs _ _ f1 ha hk ho =>
          obtain ⟨hr, rfl⟩ := vals_own ho ev
          obtain ⟨hna, hga⟩ := fr a List.mem_cons_self
          refine ⟨a, _, ha, True.intro, fun od => ?_⟩
          obtain ⟨sH, A2⟩ := A.own_lock (kvs := kvs) (od := od) A' hna hga t
          exact p1 _ _ _ (s.trans (same_upd hga)) sH A2 (.dlk upd_same hk (hr.mono (same_upd hga)))
      | _ => cases e1
end
/-! ### {k: v}, a new dict of one item -/
def eD1x (gk gv : Env → R D) : Env → R O := fun c => gk c >>= fun k => gv c >>= fun d => lift (D.key k) >>= fun _ => .ok (.dic [k] [.v d])
section
variable {X : Cx} {W : WX} {b : Bool} {pos : Pos} {ke ve : Expr}
theorem pf_d1x {gk gv : Env → R D} (hk : PX X W true ke gk) (hv : PX X W true ve gv) : PF X W (.Dict [some ke] [ve] pos) (eD1x gk gv) :=
  pe_mono (pe_disp (pps_cons hk hv pps_nil) rfl rfl (by simp) (by simp)) fun σ H Q ⟨B, G, c, fp, A, q⟩ => fun p hp => by
    have pf : p ∉ fp := fun z => A.cells.there p z hp
    have p0 : B.H0 p = none := A.fine.there p hp
    have gp : G p = none := A.fine.fresh hp
    have A1 : Abs ⟨X.K, X.mg, X.w⟩ B G (upd H p (.dK [])) c σ fp := A.newO hp rfl
    obtain ⟨B', eB, A2, back⟩ := A1.fork
    have same1 : Same H (upd H p (.dK [])) := same_upd hp
    unfold eD1x at q
    refine ⟨B', G, c, fp, A2, ?_⟩
    cases eg : gk c with
    | stuck => rw [eg] at q; exact q.elim
    | ex x =>
      rw [eg] at q
      exact fun cl dx G' H' s t A3 xr => q cl dx G' H' s (same1.trans t) (back G' H' s t A3).1 xr
    | ok kd =>
      rw [eg, ok_bind] at q
      intro x G1 H1 s1 t1 A3 r1
      refine ⟨B', G1, c, fp, A3, ?_⟩
      cases ev : gv c with
      | stuck => rw [ev] at q; exact q.elim
      | ex y =>
        rw [ev] at q
        exact fun cl dx G' H' s t A4 xr => q cl dx G' H' (s1.trans s) (same1.trans (t1.trans t)) (back G' H' (s1.trans s) (t1.trans t) A4).1 xr
      | ok d =>
        rw [ev, ok_bind] at q
        intro v G2 H2 s2 t2 A4 r2
        obtain ⟨A5, gr⟩ := back G2 H2 (s1.trans s2) (t1.trans t2) A4
        cases en : D.key kd with
        | none => rw [en] at q; exact q.elim
        | some k =>
          rw [en] at q
          have q' : PostF ⟨X.K, X.mg, X.w⟩ B c σ fp G H Q (.dic [kd] [.v d]) := q
          have hp2 : H2 p = some (.dK []) := t2 p _ (t1 p _ upd_same)
          have g2 : G2 p = none := gr p (by rw [upd_same]; exact fun z => nomatch z) gp
          have r1 : Rp ⟨X.K, X.mg, X.w⟩ G1 x kd := r1
          have r2 : Rp ⟨X.K, X.mg, X.w⟩ G2 v d := r2
          have hx := rp_key r1 en
          subst hx
          refine ⟨hp2, [(k, v)], rfl, by simp, ?_⟩
          have sm : Same H (upd H2 p (.dK (mergeK [] [(k, v)]))) := fun a o e => by
            have hne : a ≠ p := ne_of_none e hp
            rw [upd_ne hne]
            exact t2 a _ (t1 a _ (same1 a o e))
          refine q' (.ref p) G2 _ [p] (s1.trans s2) sm (A5.pokeOut pf g2 p0 rfl) (.dic (kvs := [(k, v)]) upd_same (by simp [en]) (.cons (.v r2) .nil)) (by simp) fun q hq => ?_
          have : q = p := by simpa using hq
          subst this
          exact ⟨hp, g2⟩
end
end VS

/-! VS: xs.extend([..]). -/
namespace VS
open PySem PySem.Spec PyProof.Rows L2
def sExt (i : Nat) (g : Env → R O) : Env → Rs := fun c => (lift (atL i c)).st c fun os => (g c).st c fun o => match o with
  | .lst es => (lift (vals es)).st c fun ds => if os.length + ds.length ≤ 16777216 then .ok .nx (c.set i (some (.lst (os ++ ds.map O.v)))) else .stuck
  | _ => .stuck
section
variable {X : Cx} {W : WX} {b : Bool} {pn : List Nat} {e : Expr} {pos : Pos}
theorem pxs_ext {x : Str} {p apos cpos : Pos} (i : Nat) {g : Env → R O} (h : PF X W e g) (hN : X.N[i]? = some x := by rfl) (hv : Vis X.env.scope x := by first | exact Or.inl rfl | exact Or.inr (Or.inl rfl) | exact Or.inr (Or.inr rfl)) (hd : (x == ("__debug__" : Str)) = false := by decide) (hcd : (x == ("__classdict__" : Str)) = false := by decide)
    (hbase : attributeBase (.Name x p) "extend" X.env (eval (.Name x p) X.env) = eval (.Name x p) X.env := by rfl)
    (hfew : ((backTo cpos (starEach [e] X.env)).all (fun x => !x.1) && (backToKw cpos (keywordEach [] X.env)).all (fun x => x.1.isSome)
      && decide ([e].length + ([] : List Keyword).length + (if ([] : List Keyword).isEmpty then 0 else 1) < 30)) = true := by rfl)
    (hline : (apos.endLine == cpos.line) = true := by rfl) (hs : starEach [e] X.env = (false, eval e X.env) :: starEach [] X.env := by rfl) (hplain : (backTo cpos (starEach [] X.env)).any (·.1) = false := by rfl)
    (hsw : swapsWith (.Call (.Attribute (.Name x p) "extend" apos) [e] [] cpos) none pos.line X.env = pure false := by rfl) :
    PXS X W pn (.Expr (.Call (.Attribute (.Name x p) "extend" apos) [e] [] cpos) pos) (sExt i g) :=
  ps_mono (ps_expr (pe_bm PySem.F.plainAttrs_list PySem.F.slot_list_extend PySem.F.type_list_extend mt_extend (pe_var hN hv hd hcd) (pa_cons h pa_nil hs) hbase hfew hline hs hplain) hsw) fun Dn σ H ⟨B, G, c, fp, A, P, q⟩ => by
    obtain ⟨os, e0, q⟩ := lift_st q
    have e1 := atL_eq e0
    obtain ⟨v, fq, h1, h2, _, _, _⟩ := A.poke e1
    cases h2 with
    | @lst a vs _ fq ha ho =>
      refine ⟨_, h1, .inl ⟨rfl, vs, .inl (.inl ha)⟩, tf_st A q fun o e3 w G1 H1 fr s1 t1 A1 own nd fresh q1 => ?_⟩
      obtain ⟨v, fq, h1', h2, n, hin, hpk⟩ := A1.poke e1
      rw [h1] at h1'
      cases h1'
      cases h2 with
      | @lst _ vs _ fq ha ho =>
        have hlen := ho.length
        cases o with
        | lst es =>
          cases own with
          | @lst b ws _ f2 hb hes =>
            have q1 : ResS ⟨X.K, X.mg, X.w⟩ W B G1 H1 ((lift (vals es)).st c fun ds => if os.length + ds.length ≤ 16777216 then .ok .nx (c.set i (some (.lst (os ++ ds.map O.v)))) else .stuck) Dn := q1
            obtain ⟨ds, ev, q2⟩ := lift_st q1
            by_cases hl : os.length + ds.length ≤ 16777216
            · rw [if_pos hl] at q2
              obtain ⟨hr, _⟩ := vals_own hes ev
              have hdl := (ownL_v (G := G1) (H := H1) hr).length
              rw [List.length_map] at hdl
              refine ⟨a, b, vs, ws, rfl, rfl, ha, hb, by rw [hlen, hdl, sizeLine_eq]; exact hl, ?_⟩
              have nn := List.nodup_cons.mp n
              have ho' : OwnL ⟨X.K, X.mg, X.w⟩ G1 (upd H1 a (.lst (vs ++ ws))) (vs ++ ws) (os ++ ds.map O.v) (fq ++ []) :=
                (ho.upd nn.1).append (ownL_v hr)
              obtain ⟨fp', A2⟩ := hpk List.mem_cons_self (u := .lst (vs ++ ws)) rfl (.lst upd_same ho') (by simpa using n) (fun q hq => by simpa using hq)
              exact q2 σ G1 _ fp' (Same.refl _) A2
            · rw [if_neg hl] at q2; exact q2.elim
        | _ => exact q1.elim
end
end VS

/-! VS: list(range(..)), tuple(range(..)), xs.append(ys.pop(k)), xs.index(number). -/
namespace VS
open PySem PySem.Spec PyProof.Rows L2
def rgI (a b : Int) : List Int := (List.range (b - a).toNat).map fun i => a + ((i : Nat) : Int)
theorem rgV_I (a b : Int) : rgV a b = (rgI a b).map V.int := by unfold rgV rgI; rw [List.map_map]; rfl
theorem rp_ints {E : Wd} {G : Hp} : ∀ ns : List Int, RpL E G (ns.map V.int) (ns.map D.int)
  | [] => .nil
  | n :: ns => .cons (.int n) (rp_ints ns)
def rgB : D → D → Option (List Int)
  | .int a, .int b => if 0 ≤ a ∧ a ≤ 16777216 ∧ 0 ≤ b ∧ b ≤ 16777216 then some (rgI a b) else none
  | _, _ => none
def eLRgO (ga gb : Env → R D) : Env → R O := fun c => ga c >>= fun a => gb c >>= fun b => lift (rgB a b) >>= fun ns => .ok (.lst (ns.map fun i => O.v (.int i)))
def eLRg (ga gb : Env → R D) : Env → R D := fun c => ga c >>= fun a => gb c >>= fun b => lift (rgB a b) >>= fun ns => .ok (.lst (ns.map D.int))
def eTRg (ga gb : Env → R D) : Env → R D := fun c => ga c >>= fun a => gb c >>= fun b => lift (rgB a b) >>= fun ns => .ok (.tup (ns.map D.int))
theorem rgB_int {E : Wd} {G : Hp} {v w : V} {a b : D} {ns : List Int} (r1 : Rp E G v a) (r2 : Rp E G w b) (h : rgB a b = some ns) : ∃ i j, v = .int i ∧ w = .int j ∧ RgOk i j ∧ ns = rgI i j := by
  unfold rgB at h
  split at h
  · split at h
    · rename_i i j hb
      cases h
      exact ⟨i, j, r1.intH, r2.intH, RgOk.of_le hb.1 hb.2.2.2 hb.2.1 hb.2.2.1, rfl⟩
    · cases h
  · cases h
section
variable {X : Cx} {W : WX} {b b' : Bool} {pos : Pos} {p p2 q : Pos} {ea eb : Expr} {ga gb : Env → R D}
theorem pf_lrg2 (hc : X.calm = true) (hm : X.mg "list" = none) (hm2 : X.mg "range" = none) (ha : PX X W b ea ga) (hb : PX X W b' eb gb) (hg : Gl X "list" := by rfl) (hg2 : Gl X "range" := by rfl) (n1 : starEach [ea, eb] X.env = (false, eval ea X.env) :: starEach [eb] X.env := by rfl) (n2 : starEach [eb] X.env = (false, eval eb X.env) :: starEach [] X.env := by rfl)
    (n3 : (backTo p (starEach [eb] X.env)).any (·.1) = false := by rfl) (n4 : starEach [Expr.Call (.Name "range" p2) [ea, eb] [] p] X.env = (false, eval (Expr.Call (.Name "range" p2) [ea, eb] [] p) X.env) :: starEach [] X.env := by rfl) :
    PF X W (.Call (.Name "list" q) [.Call (.Name "range" p2) [ea, eb] [] p] [] pos) (eLRgO ga gb) :=
  pe_mono (pe_listRg hc hg hm (prg_2 hg2 hm2 ha hb n1 n2 n3) n4) fun σ H Q ⟨B, G, c, fp, A, q⟩ => tx_seq A q fun d e0 v G1 H1 s1 t1 A1 r1 q1 => tx_seq A1 q1 fun d2 e2 w G2 H2 s2 t2 A2 r2 q2 => by
    obtain ⟨ns, e3, p3⟩ := Res.lift (o := rgB d d2) (P := fun ns => PostF ⟨X.K, X.mg, X.w⟩ B c σ fp G H Q (.lst (ns.map fun i => O.v (.int i)))) (E := ⟨X.K, X.mg, X.w⟩) (W := W) (B := B) (c := c) (σ := σ) (fp := fp) (G := G2) (H := H2) (by
      cases hd : rgB d d2 with
      | none => rw [hd] at q2; exact q2
      | some q' => rw [hd] at q2; exact q2)
    obtain ⟨i, j, rfl, rfl, ok, rfl⟩ := rgB_int ((vw_rp A1.fine.le r1).mono t2) (vw_rp A2.fine.le r2) e3
    refine ⟨i, j, rfl, rfl, ok, fun a ha => ?_⟩
    have hn : H a = none := (t1.trans t2).free ha
    rw [rgV_I]
    have own : OwnL ⟨X.K, X.mg, X.w⟩ G2 (upd H2 a (.lst ((rgI i j).map V.int))) ((rgI i j).map V.int) ((rgI i j).map fun i => O.v (.int i)) [] := by
      have := ownL_v (G := G2) (H := upd H2 a (.lst ((rgI i j).map V.int))) (rp_ints (E := ⟨X.K, X.mg, X.w⟩) (G := G2) (rgI i j))
      rw [List.map_map] at this
      exact this
    refine p3 (.ref a) G2 _ [a] (s1.trans s2) ((t1.trans t2).trans (same_upd ha)) (A2.newO ha rfl) (.lst upd_same own) (by simp) fun q hq => ?_
    have : q = a := by simpa using hq
    subst this
    exact ⟨hn, A2.fine.fresh ha⟩
theorem px_lrg2 (hc : X.calm = true) (hm : X.mg "list" = none) (hm2 : X.mg "range" = none) (ha : PX X W b ea ga) (hb : PX X W b' eb gb) (hg : Gl X "list" := by rfl) (hg2 : Gl X "range" := by rfl) (n1 : starEach [ea, eb] X.env = (false, eval ea X.env) :: starEach [eb] X.env := by rfl) (n2 : starEach [eb] X.env = (false, eval eb X.env) :: starEach [] X.env := by rfl)
    (n3 : (backTo p (starEach [eb] X.env)).any (·.1) = false := by rfl) (n4 : starEach [Expr.Call (.Name "range" p2) [ea, eb] [] p] X.env = (false, eval (Expr.Call (.Name "range" p2) [ea, eb] [] p) X.env) :: starEach [] X.env := by rfl) :
    PX X W true (.Call (.Name "list" q) [.Call (.Name "range" p2) [ea, eb] [] p] [] pos) (eLRg ga gb) :=
  pe_mono (pe_listRg hc hg hm (prg_2 hg2 hm2 ha hb n1 n2 n3) n4) fun σ H Q ⟨B, G, c, fp, A, q⟩ => tx_seq A q fun d e0 v G1 H1 s1 t1 A1 r1 q1 => tx_seq A1 q1 fun d2 e2 w G2 H2 s2 t2 A2 r2 q2 => by
    obtain ⟨ns, e3, p3⟩ := Res.lift (o := rgB d d2) (P := fun ns => Post ⟨X.K, X.mg, X.w⟩ B c σ fp G H true Q (.lst (ns.map D.int))) (E := ⟨X.K, X.mg, X.w⟩) (W := W) (B := B) (c := c) (σ := σ) (fp := fp) (G := G2) (H := H2) (by
      cases hd : rgB d d2 with
      | none => rw [hd] at q2; exact q2
      | some q' => rw [hd] at q2; exact q2)
    obtain ⟨i, j, rfl, rfl, ok, rfl⟩ := rgB_int ((vw_rp A1.fine.le r1).mono t2) (vw_rp A2.fine.le r2) e3
    exact ⟨i, j, rfl, rfl, ok, fun a ha => by rw [rgV_I]; exact ((p3.grow s1 t1).grow s2 t2).new A2 ha fun s => .lst (.inl (.inl upd_same)) (rp_ints _)⟩
theorem px_lrg1 (hc : X.calm = true) (hm : X.mg "list" = none) (hm2 : X.mg "range" = none) (hb : PX X W b' eb gb) (hg : Gl X "list" := by rfl) (hg2 : Gl X "range" := by rfl) (n2 : starEach [eb] X.env = (false, eval eb X.env) :: starEach [] X.env := by rfl)
    (n4 : starEach [Expr.Call (.Name "range" p2) [eb] [] p] X.env = (false, eval (Expr.Call (.Name "range" p2) [eb] [] p) X.env) :: starEach [] X.env := by rfl) :
    PX X W true (.Call (.Name "list" q) [.Call (.Name "range" p2) [eb] [] p] [] pos) (eLRg (eC (.int 0)) gb) :=
  pe_mono (pe_listRg hc hg hm (prg_1 hg2 hm2 hb n2) n4) fun σ H Q ⟨B, G, c, fp, A, q⟩ => tx_seq A (show Res _ W B c σ fp G H (gb c >>= fun b => lift (rgB (.int 0) b) >>= fun ns => R.ok (D.lst (ns.map D.int))) _ from q) fun d2 e2 w G2 H2 s2 t2 A2 r2 q2 => by
    obtain ⟨ns, e3, p3⟩ := Res.lift (o := rgB (.int 0) d2) (P := fun ns => Post ⟨X.K, X.mg, X.w⟩ B c σ fp G H true Q (.lst (ns.map D.int))) (E := ⟨X.K, X.mg, X.w⟩) (W := W) (B := B) (c := c) (σ := σ) (fp := fp) (G := G2) (H := H2) (by
      cases hd : rgB (.int 0) d2 with
      | none => rw [hd] at q2; exact q2
      | some q' => rw [hd] at q2; exact q2)
    obtain ⟨i, j, e4, rfl, ok, rfl⟩ := rgB_int (E := ⟨X.K, X.mg, X.w⟩) (G := H2) (.int 0) (vw_rp A2.fine.le r2) e3
    cases e4
    exact ⟨j, rfl, ok, fun a ha => by rw [rgV_I]; exact (p3.grow s2 t2).new A2 ha fun s => .lst (.inl (.inl upd_same)) (rp_ints _)⟩
theorem px_trg1 (hc : X.calm = true) (hm : X.mg "tuple" = none) (hm2 : X.mg "range" = none) (hb : PX X W b' eb gb) (hg : Gl X "tuple" := by rfl) (hg2 : Gl X "range" := by rfl) (n2 : starEach [eb] X.env = (false, eval eb X.env) :: starEach [] X.env := by rfl)
    (n4 : starEach [Expr.Call (.Name "range" p2) [eb] [] p] X.env = (false, eval (Expr.Call (.Name "range" p2) [eb] [] p) X.env) :: starEach [] X.env := by rfl) :
    PX X W true (.Call (.Name "tuple" q) [.Call (.Name "range" p2) [eb] [] p] [] pos) (eTRg (eC (.int 0)) gb) :=
  pe_mono (pe_tupRg hc hg hm (prg_1 hg2 hm2 hb n2) n4) fun σ H Q ⟨B, G, c, fp, A, q⟩ => tx_seq A (show Res _ W B c σ fp G H (gb c >>= fun b => lift (rgB (.int 0) b) >>= fun ns => R.ok (D.tup (ns.map D.int))) _ from q) fun d2 e2 w G2 H2 s2 t2 A2 r2 q2 => by
    obtain ⟨ns, e3, p3⟩ := Res.lift (o := rgB (.int 0) d2) (P := fun ns => Post ⟨X.K, X.mg, X.w⟩ B c σ fp G H true Q (.tup (ns.map D.int))) (E := ⟨X.K, X.mg, X.w⟩) (W := W) (B := B) (c := c) (σ := σ) (fp := fp) (G := G2) (H := H2) (by
      cases hd : rgB (.int 0) d2 with
      | none => rw [hd] at q2; exact q2
      | some q' => rw [hd] at q2; exact q2)
    obtain ⟨i, j, e4, rfl, ok, rfl⟩ := rgB_int (E := ⟨X.K, X.mg, X.w⟩) (G := H2) (.int 0) (vw_rp A2.fine.le r2) e3
    cases e4
    exact ⟨j, rfl, ok, fun a ha => by rw [rgV_I]; exact (p3.grow s2 t2).new A2 ha fun s => .tup (.inl (.inl upd_same)) (rp_ints _)⟩
end
/-! ### xs.index(number) -/
def fLIxI (ds : List D) : List D → Option D
  | [.int k] => (asInts ds).bind fun xs => if xs.idxOf k < xs.length then some (.int (xs.idxOf k : Nat)) else none
  | _ => none
def eLIxI (g : Env → R D) (gs : Env → R (List D)) : Env → R D := fun c => g c >>= fun d => match d with
  | .lst ds => gs c >>= fun es => lift (fLIxI ds es)
  | _ => .stuck
theorem eqI (a b : Int) : eqV (.int a) (.int b) = (a == b) := rfl
section
variable {X : Cx} {W : WX} {b b1 b' : Bool}
theorem px_liI {o e : Expr} {es : List Expr} {g : Env → R D} {gs : Env → R (List D)} {apos cpos : Pos}
    (ho : PX X W b1 o g) (ha : PXA X W b (e :: es) gs)
    (hbase : attributeBase o "index" X.env (eval o X.env) = eval o X.env := by rfl)
    (hfew : ((backTo cpos (starEach (e :: es) X.env)).all (fun x => !x.1) && (backToKw cpos (keywordEach [] X.env)).all (fun x => x.1.isSome)
      && decide ((e :: es).length + ([] : List Keyword).length + (if ([] : List Keyword).isEmpty then 0 else 1) < 30)) = true := by rfl)
    (hline : (apos.endLine == cpos.line) = true := by rfl) (hs : starEach (e :: es) X.env = (false, eval e X.env) :: starEach es X.env := by rfl) (hplain : (backTo cpos (starEach es X.env)).any (·.1) = false := by rfl) :
    PX X W b' (.Call (.Attribute o "index" apos) (e :: es) [] cpos) (eLIxI g gs) :=
  pe_mono (pe_bm PySem.F.plainAttrs_list PySem.F.slot_list_index PySem.F.type_list_index mt_index ho ha hbase hfew hline hs hplain) fun σ H Q ⟨B, G, c, fp, A, q⟩ => tx_seq A q fun d e v G1 H1 s1 t1 A1 r1 q1 => by
    cases d with
    | lst ds =>
      obtain ⟨a, vs, rfl, h2, r2⟩ := r1.lstH A1.fine.le
      refine ⟨.inl ⟨rfl, _, h2⟩, txa_seq A1 q1 fun es e2 ws G2 H2 s2 t2 A2 r3 q2 => ?_⟩
      obtain ⟨d3, e3, p3⟩ := Res.lift q2
      unfold fLIxI at e3
      split at e3
      · rename_i k
        obtain ⟨xs, e4, e5⟩ := Option.bind_eq_some_iff.mp e3
        split at e5
        · rename_i hlt
          cases e5
          obtain ⟨v, rfl, rv⟩ := r3.one
          cases rv.intH
          have hv := asInts_rp r2 e4
          subst hv
          refine ⟨a, _, _, xs.idxOf k, .int k, rfl, rfl, Same.sqL t2 h2, rfl, by simp [flatV], ?_, by rw [eqI]; simp, ?_, ?_⟩
          · rw [List.getElem?_map, List.getElem?_eq_getElem hlt, List.getElem_idxOf hlt]; rfl
          · intro m z hm hz
            rw [List.getElem?_map] at hz
            obtain ⟨y, hy, rfl⟩ := Option.map_eq_some_iff.mp hz
            rw [eqI]
            obtain ⟨hml, rfl⟩ := List.getElem?_eq_some_iff.mp hy
            have := List.not_of_lt_findIdx (p := (· == k)) (xs := xs) (i := m) hm
            simpa using this
          · exact (p3.grow (s1.trans s2) (t1.trans t2)).here A2 (.int _)
        · cases e5
      · cases e3
    | _ => exact False.elim q1
end
/-! ### xs.append(ys.pop(k)) -/
theorem RpL.erase {E : Wd} {G : Hp} : ∀ {vs : List V} {ds : List D}, RpL E G vs ds → ∀ k : Nat, RpL E G (vs.eraseIdx k) (ds.eraseIdx k)
  | _, _, .nil, k => .nil
  | _, _, .cons h r, 0 => r
  | _, _, .cons h r, k + 1 => .cons h (RpL.erase r k)
theorem RpL.nth {E : Wd} {G : Hp} : ∀ {vs : List V} {ds : List D}, RpL E G vs ds → ∀ {k : Nat} {d : D}, ds[k]? = some d → ∃ v, vs[k]? = some v ∧ Rp E G v d
  | _, _, .nil, k, d, h => by simp at h
  | _, _, .cons h r, 0, d, e => by
    have e := Option.some.inj (show some _ = some d from e)
    subst e
    exact ⟨_, rfl, h⟩
  | _, _, .cons h r, k + 1, d, e => by
    obtain ⟨v, h1, h2⟩ := RpL.nth r (k := k) (by simpa using e)
    exact ⟨v, by simpa using h1, h2⟩
def sAPop (i j : Nat) (g : Env → R D) : Env → Rs := fun c => (lift (atL i c)).st c fun os => (lift (atL j c)).st c fun ps => (lift (vals ps)).st c fun ds => (g c).st c fun d => match d with
  | .int k => if i ≠ j ∧ 0 ≤ k ∧ k < 16777216 ∧ os.length < 16777216 then (lift ds[k.toNat]?).st c fun e => .ok .nx ((c.set j (some (.lst ((ds.eraseIdx k.toNat).map O.v)))).set i (some (.lst (os ++ [.v e])))) else .stuck
  | _ => .stuck
section
variable {X : Cx} {W : WX} {b : Bool} {pn : List Nat} {e : Expr} {pos : Pos}
theorem pxs_apop {x y : Str} {p apos cpos p' apos' cpos' : Pos} (i j : Nat) {g : Env → R D} (h : PX X W b e g) (hN : X.N[i]? = some x := by rfl) (hv : Vis X.env.scope x := by first | exact Or.inl rfl | exact Or.inr (Or.inl rfl) | exact Or.inr (Or.inr rfl)) (hd : (x == ("__debug__" : Str)) = false := by decide) (hcd : (x == ("__classdict__" : Str)) = false := by decide)
    (hN' : X.N[j]? = some y := by rfl) (hv' : Vis X.env.scope y := by first | exact Or.inl rfl | exact Or.inr (Or.inl rfl) | exact Or.inr (Or.inr rfl)) (hd' : (y == ("__debug__" : Str)) = false := by decide) (hcd' : (y == ("__classdict__" : Str)) = false := by decide)
    (hbase' : attributeBase (.Name y p') "pop" X.env (eval (.Name y p') X.env) = eval (.Name y p') X.env := by rfl)
    (hfew' : ((backTo cpos' (starEach [e] X.env)).all (fun x => !x.1) && (backToKw cpos' (keywordEach [] X.env)).all (fun x => x.1.isSome)
      && decide ([e].length + ([] : List Keyword).length + (if ([] : List Keyword).isEmpty then 0 else 1) < 30)) = true := by rfl)
    (hline' : (apos'.endLine == cpos'.line) = true := by rfl) (hs' : starEach [e] X.env = (false, eval e X.env) :: starEach [] X.env := by rfl) (hplain' : (backTo cpos' (starEach [] X.env)).any (·.1) = false := by rfl)
    (hbase : attributeBase (.Name x p) "append" X.env (eval (.Name x p) X.env) = eval (.Name x p) X.env := by rfl)
    (hfew : ((backTo cpos (starEach [Expr.Call (.Attribute (.Name y p') "pop" apos') [e] [] cpos'] X.env)).all (fun x => !x.1) && (backToKw cpos (keywordEach [] X.env)).all (fun x => x.1.isSome)
      && decide ([Expr.Call (.Attribute (.Name y p') "pop" apos') [e] [] cpos'].length + ([] : List Keyword).length + (if ([] : List Keyword).isEmpty then 0 else 1) < 30)) = true := by rfl)
    (hline : (apos.endLine == cpos.line) = true := by rfl) (hs : starEach [Expr.Call (.Attribute (.Name y p') "pop" apos') [e] [] cpos'] X.env = (false, eval (Expr.Call (.Attribute (.Name y p') "pop" apos') [e] [] cpos') X.env) :: starEach [] X.env := by rfl) (hplain : (backTo cpos (starEach [] X.env)).any (·.1) = false := by rfl)
    (hsw : swapsWith (.Call (.Attribute (.Name x p) "append" apos) [.Call (.Attribute (.Name y p') "pop" apos') [e] [] cpos'] [] cpos) none pos.line X.env = pure false := by rfl) :
    PXS X W pn (.Expr (.Call (.Attribute (.Name x p) "append" apos) [.Call (.Attribute (.Name y p') "pop" apos') [e] [] cpos'] [] cpos) pos) (sAPop i j g) :=
  ps_mono (ps_expr (pe_bm PySem.F.plainAttrs_list PySem.F.slot_list_append PySem.F.type_list_append mt_append (pe_var hN hv hd hcd) (pa_cons (pe_bm PySem.F.plainAttrs_list PySem.F.slot_list_pop PySem.F.type_list_pop mt_popAt (pe_var hN' hv' hd' hcd') (pa_cons h pa_nil hs') hbase' hfew' hline' hs' hplain') pa_nil hs) hbase hfew hline hs hplain) hsw) fun Dn σ H ⟨B, G, c, fp, A, P, q⟩ => by
    obtain ⟨os, e0, q⟩ := lift_st q
    obtain ⟨ps, e0', q⟩ := lift_st q
    obtain ⟨ds, ev, q⟩ := lift_st q
    have e1 := atL_eq e0
    have e1' := atL_eq e0'
    obtain ⟨v, fq, h1, h2, _, _, _⟩ := A.poke e1
    obtain ⟨v', fq', h1', h2', _, _, _⟩ := A.poke e1'
    cases h2 with
    | @lst a vs _ fq ha ho =>
      cases h2' with
      | @lst a' vs' _ fq' ha' ho' =>
        refine ⟨_, h1, .inl ⟨rfl, vs, .inl (.inl ha)⟩, _, h1', .inl ⟨rfl, vs', .inl (.inl ha')⟩, tx_st A q fun d e3 w G1 H1 s1 t1 A1 r1 q1 => ?_⟩
        cases d with
        | int k =>
          have q1 : ResS ⟨X.K, X.mg, X.w⟩ W B G1 H1 (if i ≠ j ∧ 0 ≤ k ∧ k < 16777216 ∧ os.length < 16777216 then (lift ds[k.toNat]?).st c fun e => .ok .nx ((c.set j (some (.lst ((ds.eraseIdx k.toNat).map O.v)))).set i (some (.lst (os ++ [.v e])))) else .stuck) Dn := q1
          by_cases hk : i ≠ j ∧ 0 ≤ k ∧ k < 16777216 ∧ os.length < 16777216
          · rw [if_pos hk] at q1
            obtain ⟨hij, hk0, hk1, hol⟩ := hk
            obtain ⟨dk, ed, q2⟩ := lift_st q1
            obtain ⟨v, fq, g1, g2, n, hin, hpk⟩ := A1.poke e1'
            rw [h1'] at g1
            cases g1
            cases g2 with
            | @lst _ vs' _ fq ha2 ho2 =>
              obtain ⟨hr, hf0⟩ := vals_own ho2 ev
              subst hf0
              obtain ⟨vk, hvk, rvk⟩ := hr.nth ed
              have hkl : k.toNat < vs'.length := (List.getElem?_eq_some_iff.mp hvk).1
              have hsq : seqIndex? k vs'.length = some k.toNat := by
                unfold seqIndex?
                have hlt : k < (vs'.length : Int) := by omega
                show (if (decide (0 ≤ (if k < 0 then k + vs'.length else k)) && decide ((if k < 0 then k + vs'.length else k) < (vs'.length : Int))) = true then some (if k < 0 then k + vs'.length else k).toNat else none) = _
                rw [if_neg (show ¬ k < 0 by omega), decide_eq_true hk0, decide_eq_true hlt]; rfl
              have hw := (vw_rp A1.fine.le r1).intH
              refine ⟨a', vs', k, k.toNat, vk, rfl, by rw [hw], ha2, by omega, by omega, hsq, hvk, ?_⟩
              obtain ⟨fp', A2⟩ := hpk List.mem_cons_self (u := .lst (vs'.eraseIdx k.toNat)) rfl (.lst (os := (ds.eraseIdx k.toNat).map O.v) (fp := []) upd_same (ownL_v (hr.erase k.toNat))) (by simp) (fun q hq => by simpa using hq)
              have e2 : (c.set j (some (.lst ((ds.eraseIdx k.toNat).map O.v))))[i]? = some (some (.lst os)) := by rw [List.getElem?_set_ne (Ne.symm hij)]; exact e1
              obtain ⟨v, fq, g1, g2, n2, hin2, hpk2⟩ := A2.poke e2
              rw [h1] at g1
              cases g1
              cases g2 with
              | @lst _ vs _ fq ha3 ho3 =>
                have hlen := ho3.length
                refine ⟨a, vs, vk, rfl, rfl, ha3, by rw [hlen, sizeLine_eq]; exact hol, ?_⟩
                have nn := List.nodup_cons.mp n2
                have hoo : OwnL ⟨X.K, X.mg, X.w⟩ G1 (upd (upd H1 a' (.lst (vs'.eraseIdx k.toNat))) a (.lst (vs ++ [vk]))) (vs ++ [vk]) (os ++ [.v dk]) (fq ++ ([] ++ [])) :=
                  (ho3.upd nn.1).append (.cons (.v rvk) .nil)
                obtain ⟨fp'', A3⟩ := hpk2 List.mem_cons_self (u := .lst (vs ++ [vk])) rfl (.lst upd_same hoo) (by simpa using n2) (fun q hq => by simpa using hq)
                exact q2 σ G1 _ fp'' (Same.refl _) A3
          · rw [if_neg hk] at q1; exact q1.elim
        | _ => exact q1.elim
end
end VS

/-! VS: for a, b in xs. -/
namespace VS
open PySem PySem.Spec PyProof.Rows L2
def forLN (is : List Nat) (g : Env → Rs) : List D → Env → Rs
  | [], c => .ok .nx c
  | d :: ds, c => match d with
    | .tup es => if es.length = is.length then match g (setAll is es c) with
        | .ok .nx c' => forLN is g ds c'
        | .ok .ct c' => forLN is g ds c'
        | .ok .bk c' => .ok .nx c'
        | r => r
      else .stuck
    | _ => .stuck
def sForN (is : List Nat) (gs : Env → R (List D)) (g : Env → Rs) : Env → Rs := fun c => (gs c).st c fun ds => forLN is g ds c
theorem for_turnN {pn : List Nat} {g : Env → Rs} {is : List Nat} {E : Wd} {B : Bs} {G H : Hp} {c : Env} {σ : L2.St} {fp : List Addr} {Dn : Ends} {d : D} {ds : List D} {v : V} {N : L2.St → Hp → Prop} (A : Abs E B G H c σ fp) (P : PinOk pn B) (hi : ∀ i ∈ is, i ∉ pn) (rv : Rp E G v d) (q : ResS E W B G H (forLN is g (d :: ds) c) Dn)
    (hN : ∀ σ' G' H' c' fp', Same G G' → Abs E B G' H' c' σ' fp' → ResS E W B G' H' (forLN is g ds c') Dn → N σ' H') : gTup E.K is.length (gNs is) v σ H (TSt E W pn g { Dn with nx := N, ct := N, bk := Dn.nx }) := by
  cases d with
  | tup es =>
    have q1 : ResS E W B G H (if es.length = is.length then match g (setAll is es c) with
        | .ok .nx c' => forLN is g ds c'
        | .ok .ct c' => forLN is g ds c'
        | .ok .bk c' => .ok .nx c'
        | r => r
      else .stuck) Dn := q
    by_cases hl : es.length = is.length
    · rw [if_pos hl] at q1
      obtain ⟨a, vs, rfl, h2, r2⟩ := rv.tupH (b := true) A.fine.le
      refine ⟨a, vs, rfl, h2, by rw [r2.length, hl], gNs_run P is es vs c σ fp _ hi r2 hl A fun σ' fp' A2 => ⟨B, G, _, fp', A2, P, ?_⟩⟩
      cases eg : g (setAll is es c) with
      | ok f c' =>
        rw [eg] at q1
        cases f with
        | nx => exact fun σ' G' H' fp' s A' => hN σ' G' H' c' fp' s A' (ResS.grow (r := forLN is g ds c') q1 s)
        | ct => exact fun σ' G' H' fp' s A' => hN σ' G' H' c' fp' s A' (ResS.grow (r := forLN is g ds c') q1 s)
        | bk => exact q1
        | rt d => exact q1
      | ex x c' => rw [eg] at q1; exact q1
      | stuck => rw [eg] at q1; exact q1
    · rw [if_neg hl] at q1; exact q1.elim
  | _ => exact False.elim q
section
variable {X : Cx} {W : WX} {pn : List Nat} {e : Expr} {pos : Pos} {g : Env → Rs}
theorem pxs_forN {es : List Expr} {k : Nat} {p : Pos} {body : List Stmt} {wi : TI} {gs : Env → R (List D)} (is : List Nat) (hp : PassesOwn (model X.prog X.w) X.A X.env X.xe) (hc : X.calm = true) (ha : PSrc X W true (.Tuple es k p) e wi gs) (hb : PXSs X W pn body g) (ht : PGs X es (gNs is)) (hi : ∀ i ∈ is, i ∉ pn := by decide)
    (hn : (assignEach es X.env).length = is.length := by rfl) (hst : (assignEach es X.env).findIdx? (·.1) = none := by rfl) (hs : ∀ y, foldedSetIterable e X.env y = pure y := by intro _; rfl) : PXS X W pn (.For (.Tuple es k p) e body [] pos) (sForN is gs g) :=
  ps_mono (ps_for hp hc ha.pi (pg_tup hc ht hn hst) hb hs) fun Dn σ H ⟨B, G, c, fp, A, P, q⟩ => ha.run A (st_res q) fun ds G1 H1 J e s1 t1 A1 w ⟨_, q1⟩ => by
    refine ⟨fun j m σ H => m = ds.length - j ∧ j ≤ ds.length ∧ ∃ G' c' fp', Same G1 G' ∧ Abs ⟨X.K, X.mg, X.w⟩ B G' H c' σ fp' ∧ ResS ⟨X.K, X.mg, X.w⟩ W B G' H (forLN is g (ds.drop j) c') Dn, ⟨ds.length, by simp, Nat.zero_le _, G1, c, fp, Same.refl _, A1, q1 G1 H1 s1⟩, ?_⟩
    rintro j m σ' H' ⟨rfl, hj, G', c', fp', s', A', q'⟩
    by_cases hlt : j < ds.length
    · refine .inr ⟨w.go j H' (s'.trans A'.fine.le) hlt, fun σ2 H2 => ∃ G2 c2 fp2, Same G1 G2 ∧ Abs ⟨X.K, X.mg, X.w⟩ B G2 H2 c2 σ2 fp2 ∧ ResS ⟨X.K, X.mg, X.w⟩ W B G2 H2 (forLN is g (ds.drop (j + 1)) c2) Dn, fun σ2 H2 h2 => ⟨_, by omega, rfl, hlt, h2⟩, fun x H3 y => ?_⟩
      obtain ⟨rfl, hr⟩ := w.yl j H' x H3 (s'.trans A'.fine.le) y
      have hd := List.getElem?_eq_getElem hlt
      rw [drop_cons hd] at q'
      exact for_turnN A' P hi ((hr _ hd).mono s') q' fun σ2 G2 H2 c2 fp2 s2 A2 q2 => ⟨G2, c2, fp2, s'.trans s2, A2, q2⟩
    · have e : j = ds.length := by omega
      subst e
      rw [List.drop_length] at q'
      exact .inl ⟨w.st _ H' (s'.trans A'.fine.le) (Nat.le_refl _), q' σ' G' H' fp' (Same.refl _) A'⟩
end
end VS

/-! VS: sorted numbers; list(range(n)) owned; a range as a value; dicts with nested keys: locked, walked, .get. -/
namespace VS
open PySem PySem.Spec PyProof.Rows L2
/-! ### sorted(numbers) -/
def sortI (ns : List Int) : List Int := ns.mergeSort fun a b => decide (a ≤ b)
theorem sortI_perm (ns : List Int) : (sortI ns).Perm ns := List.mergeSort_perm _ _
theorem sortI_le (ns : List Int) : (sortI ns).Pairwise (· ≤ ·) := by
  have := List.pairwise_mergeSort (le := fun a b : Int => decide (a ≤ b)) (fun a b c h1 h2 => by simp at *; omega) (fun a b => by simp; omega) ns
  exact this.imp fun h => by simpa using h
theorem sortI_eq {ns ns' : List Int} (h : ns'.Perm ns) (hs : ns'.Pairwise (· ≤ ·)) : ns' = sortI ns :=
  (h.trans (sortI_perm ns).symm).eq_of_pairwise (fun a b _ _ h1 h2 => Int.le_antisymm h1 h2) hs (sortI_le ns)
def fSortI : List D → Option D
  | [.lst ds] => (asInts ds).map fun ns => .lst ((sortI ns).map D.int)
  | _ => none
section
variable {X : Cx} {b : Bool}
theorem ok_sortI : CallOk ⟨X.K, X.mg, X.w⟩ (rSortedI X.K) b true fSortI := by
  intro B G H c σ fp vs ds d Q A r e p
  unfold fSortI at e
  split at e
  · obtain ⟨ns, e1, rfl⟩ := Option.map_eq_some_iff.mp e
    obtain ⟨v, rfl, rv⟩ := r.one
    obtain ⟨a, vs, rfl, h1, r1⟩ := rv.lstH A.fine.le
    have := asInts_rp r1 e1
    subst this
    refine ⟨a, ns, rfl, h1, fun ns' q hp hs hq => ?_⟩
    rw [sortI_eq hp hs]
    exact p.new A hq fun s => .lst (.inl (.inl upd_same)) (rp_ints _)
  · cases e
end
/-! ### list(range(n)), owned -/
section
variable {X : Cx} {W : WX} {b b' : Bool} {pos : Pos} {p p2 q : Pos} {ea eb : Expr} {ga gb : Env → R D}
theorem pf_lrg1 (hc : X.calm = true) (hm : X.mg "list" = none) (hm2 : X.mg "range" = none) (hb : PX X W b' eb gb) (hg : Gl X "list" := by rfl) (hg2 : Gl X "range" := by rfl) (n2 : starEach [eb] X.env = (false, eval eb X.env) :: starEach [] X.env := by rfl)
    (n4 : starEach [Expr.Call (.Name "range" p2) [eb] [] p] X.env = (false, eval (Expr.Call (.Name "range" p2) [eb] [] p) X.env) :: starEach [] X.env := by rfl) :
    PF X W (.Call (.Name "list" q) [.Call (.Name "range" p2) [eb] [] p] [] pos) (eLRgO (eC (.int 0)) gb) :=
  pe_mono (pe_listRg hc hg hm (prg_1 hg2 hm2 hb n2) n4) fun σ H Q ⟨B, G, c, fp, A, q⟩ => tx_seq A (show Res _ W B c σ fp G H (gb c >>= fun b => lift (rgB (.int 0) b) >>= fun ns => R.ok (O.lst (ns.map fun i => O.v (.int i)))) _ from q) fun d2 e2 w G2 H2 s2 t2 A2 r2 q2 => by
    obtain ⟨ns, e3, p3⟩ := Res.lift (o := rgB (.int 0) d2) (P := fun ns => PostF ⟨X.K, X.mg, X.w⟩ B c σ fp G H Q (.lst (ns.map fun i => O.v (.int i)))) (E := ⟨X.K, X.mg, X.w⟩) (W := W) (B := B) (c := c) (σ := σ) (fp := fp) (G := G2) (H := H2) (by
      cases hd : rgB (.int 0) d2 with
      | none => rw [hd] at q2; exact q2
      | some q' => rw [hd] at q2; exact q2)
    obtain ⟨i, j, e4, rfl, ok, rfl⟩ := rgB_int (E := ⟨X.K, X.mg, X.w⟩) (G := H2) (.int 0) (vw_rp A2.fine.le r2) e3
    cases e4
    refine ⟨j, rfl, ok, fun a ha => ?_⟩
    have hn : H a = none := t2.free ha
    rw [rgV_I]
    have own : OwnL ⟨X.K, X.mg, X.w⟩ G2 (upd H2 a (.lst ((rgI 0 j).map V.int))) ((rgI 0 j).map V.int) ((rgI 0 j).map fun i => O.v (.int i)) [] := by
      have := ownL_v (G := G2) (H := upd H2 a (.lst ((rgI 0 j).map V.int))) (rp_ints (E := ⟨X.K, X.mg, X.w⟩) (G := G2) (rgI 0 j))
      rw [List.map_map] at this
      exact this
    refine p3 (.ref a) G2 _ [a] s2 (t2.trans (same_upd ha)) (A2.newO ha rfl) (.lst upd_same own) (by simp) fun q hq => ?_
    have : q = a := by simpa using hq
    subst this
    exact ⟨hn, A2.fine.fresh ha⟩
/-! ### range(n) as a value -/
theorem rng_ok {P : Program} {w : World} {H' : Hp} {h' : Heap} {a : Addr} {lo hi : Int} {t u v : Tok} (hr : IsRange h' a lo hi 1 t u v) : ObjOk P w H' h' a (rngO a lo hi) :=
  ⟨⟨t, u, v, hr⟩, ⟨_, hr⟩, fun g1 g2 ⟨t, u, v, z⟩ k => ⟨t, u, v, k _ z⟩⟩
def tRngV (ta : TE) : TE := fun σ H Q => ta σ H fun x H1 => ∃ n, x = .int n ∧ ∀ r, H1 r = none → Q (.ref r) (upd H1 r (rngO r 0 n))
theorem pe_rngV {ta : TE} (hg : Gl X "range") (hm : X.mg "range" = none) (ha : PE X ea ta) (na : starEach [ea] X.env = (false, eval ea X.env) :: starEach [] X.env := by rfl) : PE X (.Call (.Name "range" p) [ea] [] pos) (tRngV ta) := by
  refine ⟨fun pins s σ H Q I h => ?_⟩
  refine Call_ (ld_blt I hg hm boot_range (PyProof.Rows.callWith_type1 (one_arg ha I h (fun v s2 x H2 I2 r q => ?_) na) na))
  obtain ⟨n, rfl, q⟩ := q
  obtain ⟨t, rfl⟩ := r
  refine call_range_1 ⟨.ref s2.heap.objs.size, upd H2 s2.heap.objs.size (rngO s2.heap.objs.size 0 n), I2.laid (fun b u e => Heap.get?_push_of_some _ e) (Nat.le_refl _) (rng_ok (IsRange.new _ _ _ _ _ _ _)), rfl, q _ (I2.hok.fresh (Nat.le_refl _))⟩
def eRng (g : Env → R D) : Env → R D := fun c => g c >>= fun d => match d with
  | .int n => if -(2 ^ 62) ≤ n ∧ n < 2 ^ 62 then .ok (.rng 0 n) else .stuck
  | _ => .stuck
theorem px_rng1 (hm : X.mg "range" = none) (ha : PX X W b ea ga) (hg : Gl X "range" := by rfl) (na : starEach [ea] X.env = (false, eval ea X.env) :: starEach [] X.env := by rfl) : PX X W true (.Call (.Name "range" p) [ea] [] pos) (eRng ga) :=
  pe_mono (pe_rngV hg hm ha na) fun σ H Q ⟨B, G, c, fp, A, q⟩ => tx_seq A q fun d e v G1 H1 s1 t1 A1 r1 q1 => by
    cases d with
    | int n =>
      have q1 : Res ⟨X.K, X.mg, X.w⟩ W B c σ fp G1 H1 (if -(2 ^ 62) ≤ n ∧ n < 2 ^ 62 then R.ok (D.rng 0 n) else .stuck) (Post ⟨X.K, X.mg, X.w⟩ B c σ fp G H true Q) := q1
      by_cases hn : -(2 ^ 62) ≤ n ∧ n < 2 ^ 62
      · rw [if_pos hn] at q1
        have q1 : Post ⟨X.K, X.mg, X.w⟩ B c σ fp G H true Q (.rng 0 n) := q1
        cases (vw_rp A1.fine.le r1).intH
        exact ⟨n, rfl, fun r hr => (q1.grow s1 t1).new A1 hr fun s => .rng upd_same (by decide) (by decide) hn.1 hn.2⟩
      · rw [if_neg hn] at q1; exact q1.elim
    | _ => exact q1.elim
def iRngV (td : TE) : TI := fun σ H R => td σ H fun x H1 => ∃ a lo hi, x = .ref a ∧ H1 a = some (rngO a lo hi) ∧ -(2 ^ 62) ≤ lo ∧ lo < 2 ^ 62 ∧ -(2 ^ 62) ≤ hi ∧ hi < 2 ^ 62 ∧ R (Itr lo (hi - lo).toNat) H1
theorem pi_rngV {tg : Expr} {td : TE} (he : PE X ea td) : PI X tg ea (iRngV td) := by
  refine ⟨fun pins s σ H R I h => ?_⟩
  refine thn (he.run pins s σ H _ I h) fun u s1 ⟨x, H1, I1, rx, a, lo, hi, ex, hd, h1, h2, h3, h4, q⟩ => ?_
  subst ex
  obtain rfl : u = Value.ref a := rx
  obtain ⟨t, u, v, hr⟩ := (show (∃ t u v, IsRange s1.heap a lo hi 1 t u v) ∧ _ from I1.hok a _ hd).1
  refine wpAny_pyIter_range hr (small_one h1 h2 h3 h4) ?_
  refine ⟨s1.heap.objs.size, [s1.heap.objs.size], _, _, H1, rfl, I1.kept (t' := s1.toks) fun b o e => Heap.get?_push_of_some _ e, turn_range _ lo (hi - lo).toNat, ?_, fun b hb => ?_, q⟩
  · have e1 : lo + ((0 : Nat) : Int) * 1 = lo := by simp
    have e2 : (((hi - lo).toNat : Nat) : Int) - ((0 : Nat) : Int) = Builtin.Range.rangeSize lo hi 1 := by rw [rangeSize_one]; split <;> omega
    show IsRangeIter _ _ (lo + ((0 : Nat) : Int) * 1) ((((hi - lo).toNat : Nat) : Int) - ((0 : Nat) : Int)) 1
    rw [e1, e2]
    exact Heap.get?_push_size _ rfl
  · have e : b = s1.heap.objs.size := by simpa using hb
    subst e
    exact I1.fpOk (Nat.le_refl _) (I1.hok.fresh (Nat.le_refl _))
def eItG (g : Env → R D) : Env → R (List D) := fun c => g c >>= fun d => match d with
  | .rng lo hi => .ok (rangeD lo hi)
  | _ => .stuck
theorem src_rngV {tg : Expr} (h : PX X W true ea ga) : PSrc X W b tg ea (iRngV (TX ⟨X.K, X.mg, X.w⟩ W true ga)) (eItG ga) :=
  ⟨pi_rngV h, fun {B G H c σ fp P R} A q k => tx_seq A q fun d e0 v G1 H1 s1 t1 A1 r1 q1 => by
    cases r1 with
    | @rng a lo hi hr h1 h2 h3 h4 =>
      exact ⟨a, lo, hi, rfl, A1.fine.le a _ hr, h1, h2, h3, h4, k _ G1 H1 _ (by unfold eItG; rw [e0]; rfl) s1 t1 A1 wk_rng q1⟩
    | _ => exact q1.elim⟩
end
/-! ### dicts with nested keys: locked -/
def fzN (i : Nat) (c : Env) : Option Env := match c[i]? with
  | some (some (.ndc ks os)) => (vals os).map fun ds => c.set i (some (.v (.nlk ks ds)))
  | _ => none
def isNlk (i : Nat) (c : Env) : Bool := match c[i]? with
  | some (some (.v (.nlk _ _))) => true
  | _ => false
def sFzN (i : Nat) (g : Env → Rs) : Env → Rs := fun c => if isNlk i c then g c else match fzN i c with
  | some c' => g c'
  | none => .stuck
theorem Abs.fzN {E : Wd} {B : Bs} {G H : Hp} {c c' : Env} {σ : L2.St} {fp : List Addr} (A : Abs E B G H c σ fp) (nb : ∀ a, ¬ B.br a) {i : Nat} (h : VS.fzN i c = some c') : ∃ d u, H d = some u ∧ Mut (some u) ∧ ∀ od, ∃ G' fp', Same G G' ∧ Abs E B G' (upd H d (.frz od u)) c' σ fp' := by
  unfold VS.fzN at h
  split at h
  · rename_i ks os e
    obtain ⟨ds, ev, rfl⟩ := Option.map_eq_some_iff.mp h
    obtain ⟨v, fq, h1, h2, h3, h4, h5⟩ := A.cells.poke A.nd e
    cases h2 with
    | @ndc a xs vs _ _ f1 ha hk hn hv hkr ho =>
      obtain ⟨hr, rfl⟩ := vals_own ho ev
      obtain ⟨ga, a2⟩ := A.fresh a (h4 a List.mem_cons_self)
      have h0 : B.H0 a = none := a2.elim id fun z => (nb a z).elim
      refine ⟨a, _, ha, True.intro, fun od => ?_⟩
      have s : Same G (upd G a (.frz od (dN E.w a xs))) := same_upd ga
      have ne : ∀ b ∈ fp, b ∉ [a] → b ≠ a := fun b _ hn z => hn (by rw [z]; exact List.mem_cons_self)
      obtain ⟨fp', k1, k2, k3⟩ := h5 (G' := upd G a (.frz od (dN E.w a xs))) (H' := upd H a (.frz od (dN E.w a xs))) (o' := .v (.nlk ks ds)) (fr := []) s (fun p hp hn u e => by rw [upd_ne (ne p hp hn)]; exact e) (.v (.nlk upd_same hk hn hv (hkr.mono s) (hr.mono s))) List.nodup_nil (fun p hp => nomatch hp)
      have k4 : ∀ p ∈ fp', p ∈ fp ∧ p ≠ a := fun p hp => by
        obtain ⟨z, w⟩ : p ∈ fp ∧ p ∉ [a] := (k3 p hp).elim id fun z => nomatch z
        exact ⟨z, ne p z w⟩
      refine ⟨_, fp', s, ⟨⟨fun b o e n => ?_, fun b e => ?_, fun b e1 e2 => ?_, fun b u e => ?_, fun b u e k => ?_⟩, k1, k2, fun p hp => ⟨by rw [upd_ne (k4 p hp).2]; exact (A.fresh p (k4 p hp).1).1, (A.fresh p (k4 p hp).1).2⟩, A.pin⟩⟩
      · have hb : b ≠ a := fun z => by subst z; rw [h0] at e; cases e
        rw [upd_ne hb]; exact A.fine.base b o e n
      · by_cases hb : b = a
        · rw [hb]; exact h0
        · rw [upd_ne hb] at e; exact A.fine.there b e
      · have hb : b ≠ a := fun z => e1 (by rw [z]; exact h0)
        rw [upd_ne hb]; exact A.fine.x b e1 e2
      · by_cases hb : b = a
        · subst hb; rw [upd_same] at e ⊢; exact e
        · rw [upd_ne hb] at e ⊢; exact A.fine.le b u e
      · by_cases hb : b = a
        · subst hb; rw [upd_same] at e ⊢; exact e
        · rw [upd_ne hb] at e ⊢; exact A.fine.tup b u e k
  · cases h
section
variable {X : Cx} {W : WX} {b b' b1 b2 : Bool} {pn : List Nat} {e : Expr} {pos : Pos} {g : Env → Rs}
theorem pxs_fzN {st : Stmt} (i : Nat) (h : PXS X W [] st g) : PXS X W [] st (sFzN i g) := ps_mono (ps_lockIn h) fun Dn σ H ⟨B, G, c, fp, A, P, q⟩ => by
  unfold sFzN at q
  by_cases hl : isNlk i c = true
  · rw [if_pos hl] at q
    exact .inl ⟨B, G, c, fp, A, P, q⟩
  rw [if_neg hl] at q
  cases hf : fzN i c with
  | none => rw [hf] at q; exact q.elim
  | some c' =>
    rw [hf] at q
    obtain ⟨d, u, hd, mu, k⟩ := A.fzN (P.2 rfl) hf
    refine .inr ⟨d, u, hd, mu, fun od => ?_⟩
    obtain ⟨G', fp', s, A'⟩ := k od
    exact ⟨B, G', c', fp', A', P, ResS.grow (r := g c') q s⟩
end
/-! ### .. walked -/
def Itn (w : World) (d : Addr) (o : Obj) (xs : List (NestedKey × Addr × Value)) : It :=
  ⟨fun i H => H d = some (.frz o (dN w d xs)) ∧ i < xs.length, fun i H x H' => H' = H ∧ ∃ y, xs[i]? = some y ∧ x = .ref y.2.1, fun i H => H d = some (.frz o (dN w d xs)) ∧ xs.length ≤ i⟩
theorem frzN {X : Cx} {pins : List (Addr × Obj)} {σ : L2.St} {H : Hp} {s : Shared} {d : Addr} {o : Obj} {xs : List (NestedKey × Addr × Value)} (I : L2.Inv X pins σ H s) (h : H d = some (.frz o (dN X.w d xs))) :
    (d == sysModules) = false ∧ s.heap.get? d = some o ∧ o.ExactDict ∧ ∃ (es : Array DictEntry) (ep : Nat), o.data = .dict es ep ∧ es.size = xs.length ∧ ∀ (i : Nat) (y : NestedKey × Addr × Value), xs[i]? = some y → ∃ en : DictEntry, es[i]? = some en ∧ en.key = .ref y.2.1 := by
  have x := I.hok d _ h
  unfold dN at x
  obtain ⟨hd, hs, _⟩ := (show s.heap.get? d = some o ∧ _ ∧ _ from x)
  obtain ⟨hs, o', es, ep, h1, h2, h3, h4⟩ := hs
  rw [hd] at h1
  cases h1
  refine ⟨hs, hd, h2, es, ep, h3, by simpa using congrArg List.length h4, fun i y e => ?_⟩
  have := congrArg (fun l => l[i]?) h4
  simp only [Array.getElem?_toList, List.getElem?_map, e] at this
  exact ⟨_, this, rfl⟩
section
variable {P : Program} {w : World} {K : PySem.W.Frag} {tg : Expr} {d : Addr} {o : Obj} {es : Array DictEntry} {ep : Nat}
theorem turn_keysN {xs : List (NestedKey × Addr × Value)} (it : Addr) (hod : o.data = .dict es ep) : Turn P w K tg (Itn w d o xs) [it] it (fun i h => h.IsKeyIter it d i xs.length ep) where
  mem := by simp
  obj := fun i h st b hb => by
    have e : b = it := by simpa using hb
    subst e
    obtain ⟨oi, e, c, dd⟩ := st
    exact ⟨oi, e, fun v z => by rw [dd] at z; cases z⟩
  keep := fun i h h' st k => st.at fun oi e => k it (by simp) oi e
  item := by
    intro X hP hw hK hc i pins s σ H E I hf st hg
    subst hP hw hK
    obtain ⟨hd, hi⟩ := hg
    obtain ⟨f0, f1, f2, f3, f4, f5⟩ := hf it (by simp)
    obtain ⟨hs, hgd, hx, es', ep', hdt, hsz, ent⟩ := frzN I hd
    obtain ⟨rfl, rfl⟩ := dict_ep hod hdt
    obtain ⟨y, hkv⟩ : ∃ p, xs[i]? = some p := ⟨xs[i], List.getElem?_eq_getElem hi⟩
    obtain ⟨en, hen, hkey⟩ := ent i y hkv
    refine next_key_item st hgd hdt hsz hen fun h' st' sb => ?_
    have I1 : Inv X pins σ H { s with heap := h' } := I.turned (t' := s.toks) (fun b ob hb e => (sb.2 b hb).trans e) f0 f1 f3 f4 f5
    obtain ⟨oi, e, c, dd⟩ := id st'
    exact ⟨en.key, rfl, go_of (s := { s with heap := h' }) e c dd (by decide) ⟨.ref y.2.1, H, I1, hkey, ⟨rfl, y, hkv, rfl⟩, st', fun b hb => (hf b hb).1⟩⟩
  done := by
    intro X hP hw hK hc i pins s σ H E I hf st hg
    subst hP hw hK
    obtain ⟨hd, hi⟩ := hg
    obtain ⟨f0, f1, f2, f3, f4, f5⟩ := hf it (by simp)
    obtain ⟨hs, hgd, hx, es', ep', hdt, hsz, ent⟩ := frzN I hd
    obtain ⟨rfl, rfl⟩ := dict_ep hod hdt
    exact next_key_end (I.ok.hd hc) st hgd hdt hsz hi fun h' eb => ⟨rfl, I.turned (t' := s.toks) (fun b ob hb e => eb b ob hb e) f0 f1 f3 f4 f5⟩
  self := fun A i s Q E st h => by
    refine wpAny_pyIter_slot st.typeIs F.slot_dict_keyiterator_iter (wpAny_call_entry F.slot_dict_keyiterator_iter st.typeIs F.entry_dict_keyiterator_iter ?_ (F.args_dict_keyiterator_iter_1 _))
    show wpAny _ _ (ret (.ref it)) _ _ s
    exact wpAny_pure ⟨_, rfl, "dict_keyiterator", _, st.typeIs, F.slot_dict_keyiterator_next.lookup, h⟩
end
def iKeysN (w : World) (td : TE) : TI := fun σ H R => td σ H fun x H1 => ∃ d o xs, x = .ref d ∧ H1 d = some (.frz o (dN w d xs)) ∧ R (Itn w d o xs) H1
section
variable {X : Cx} {W : WX} {b b' : Bool} {tg e : Expr} {td : TE} {pos : Pos}
theorem pi_keysN (he : PE X e td) : PI X tg e (iKeysN X.w td) := by
  refine ⟨fun pins s σ H R I h => ?_⟩
  refine thn (he.run pins s σ H _ I h) fun u s1 ⟨x, H1, I1, rx, d, o, xs, ex, hd, q⟩ => ?_
  subst ex
  obtain rfl : u = Value.ref d := rx
  obtain ⟨hs, hgd, hx, es, ep, hdt, hsz, ent⟩ := frzN I1 hd
  refine iter_keys hs hgd hx hdt (pi_one (tk := s1.toks) I1 _ (turn_keysN _ hdt) ⟨_, Heap.get?_push_size _ rfl, rfl, ?_⟩ q)
  rw [hsz] <;> rfl
def eItN' (g : Env → R D) : Env → R (List D) := fun c => g c >>= fun d => match d with
  | .nlk ks _ => .ok ks
  | _ => .stuck
theorem src_keysN {ga : Env → R D} (h : PX X W true e ga) : PSrc X W b tg e (iKeysN X.w (TX ⟨X.K, X.mg, X.w⟩ W true ga)) (eItN' ga) :=
  ⟨pi_keysN h, fun {B G H c σ fp P R} A q k => tx_seq A q fun d e0 v G1 H1 s1 t1 A1 r1 q1 => by
    cases r1 with
    | @nlk a o xs vs ks ds hr hk hn hv hkr ho =>
      have hr : G1 a = some (.frz o (dN X.w a xs)) := hr
      have hh := A1.fine.le a _ hr
      have hl : ks.length = xs.length := by simpa using congrArg List.length hk
      have hv' : vw b G1 H1 a = some (.frz o (dN X.w a xs)) := by
        cases b with
        | true => exact hr
        | false => exact hh
      refine ⟨a, o, xs, rfl, hh, k ks G1 H1 _ (by unfold eItN'; rw [e0]; rfl) s1 t1 A1 ⟨fun j H s hj => ⟨s a _ hv', by rw [← hl]; exact hj⟩, fun j H x H' s y => ⟨y.1, fun d e => ?_⟩, fun j H s hj => ⟨s a _ hv', by rw [← hl]; exact hj⟩⟩ q1⟩
      obtain ⟨z, e1, rfl⟩ := y.2
      obtain ⟨v, e2, e3⟩ := hkr.get e
      rw [List.getElem?_map, e1] at e2
      cases e2
      exact e3
    | _ => exact q1.elim⟩
/-! ### d.get(k, e) -/
def tNGt (E : Wd) (td ty tx : TE) : TE := fun σ H Q => td σ H fun x H1 => ∃ a, x = .ref a ∧ (∃ xs ks, ND E H1 a xs ks) ∧ ty σ H1 fun y H2 => tx σ H2 fun z H3 => ∃ xs ks d k, ND E H3 a xs ks ∧ Rp E H3 y d ∧ D.nk d = some k ∧
  (match atKey xs k with | some p => ∃ v, RelV v p.2 ∧ Q v H3 | none => Q z H3)
theorem pe_ngt {o f : Expr} {ty tx : TE} {apos cpos : Pos} (hu : X.A.units + 9 < cLine) (ho : PE X o td) (he : PE X e ty) (hf : PE X f tx) (m : M2 X o "get" apos e f cpos) : PE X (.Call (.Attribute o "get" apos) [e, f] [] cpos) (tNGt ⟨X.K, X.mg, X.w⟩ td ty tx) := by
  refine ⟨fun pins s σ H Q I h => ?_⟩
  refine wpAny_Call_method m.base m.few m.line PySem.F.plainAttrs_dict PySem.F.slot_dict_get PySem.F.type_dict_get (thn (ho.run pins s σ H _ I h) fun u s1 ⟨x, H1, I1, rx, a, ex, ⟨xs, ks, nd⟩, q1⟩ => ?_)
  subst ex
  obtain rfl : u = Value.ref a := rx
  obtain ⟨hsy, hm⟩ := nd.of I1
  obtain ⟨ob, es, ep, h1, h2, h3, _⟩ := id hm
  refine ⟨hm.typeIs, fun b hb => ?_, ?_⟩
  · cases hb
    exact ⟨ob, h1, h2.2.1⟩
  rw [m.trees]
  refine Calls.callWith_builtin rfl (Calls.evalArgs_plain (Calls.spliced_cons (thn (he.run pins s1 σ H1 _ I1 q1) fun iv s2 ⟨y, H2, I2, ry, q2⟩ => Calls.spliced_cons (thn (hf.run pins s2 σ H2 _ I2 q2) fun zv s3 ⟨z, H3, I3, rz, xs, ks, d, k, nd, rk, ek, q3⟩ => Calls.spliced_nil ?_))))
  obtain ⟨hsy, hm⟩ := nd.of I3
  obtain ⟨b, rfl, rfl, hk⟩ := key_is I3 rk ry ek
  refine getOr_keyed (knd := nestedKind X.prog X.w) (by show X.A.units + 1 + 8 < cLine; omega) hk hsy ⟨xs, hm, rfl⟩ ?_
  rw [valueAt_pairsH]
  cases hp : atKey xs k with
  | none => rw [hp] at q3; exact ⟨z, H3, I3.tok _, rz, q3⟩
  | some p =>
    rw [hp] at q3
    obtain ⟨v, rv, q4⟩ := q3
    exact ⟨v, H3, I3.tok _, rv, q4⟩
def eNGt (i : Nat) (gk ge : Env → R D) : Env → R D := fun c => match atNk i c with
  | some q => gk c >>= fun k => lift (D.nk k) >>= fun kk => ge c >>= fun d => lift (match nGet q.1 q.2 kk with | some (.v e) => some e | some _ => none | none => if nHas q.1 kk then none else some d)
  | none => .stuck
theorem px_ngt {x : Str} {p apos cpos : Pos} (i : Nat) {eb ef : Expr} {gb ge : Env → R D} (hu : X.A.units + 65 < cLine) (hb : PX X W true eb gb) (he : PX X W true ef ge) (m : M2 X (.Name x p) "get" apos eb ef cpos) (hN : X.N[i]? = some x := by rfl) (hv : Vis X.env.scope x := by first | exact Or.inl rfl | exact Or.inr (Or.inl rfl) | exact Or.inr (Or.inr rfl)) (hd : (x == ("__debug__" : Str)) = false := by decide)
    (hcd : (x == ("__classdict__" : Str)) = false := by decide) : PX X W true (.Call (.Attribute (.Name x p) "get" apos) [eb, ef] [] cpos) (eNGt i gb ge) :=
  pe_mono (pe_ngt (by omega) (pe_var hN hv hd hcd) hb he m) fun σ H Q ⟨B, G, c, fp, A, q⟩ => by
    unfold eNGt at q
    split at q
    · rename_i q' e0
      obtain ⟨a, xs, vs, fq, h1, nd, vl, ow⟩ := A.ndict e0
      refine ⟨_, h1, a, rfl, ⟨xs, q'.1, nd⟩, tx_seq A q fun k e3 w G1 H1 s1 t1 A1 r1 q1 => ?_⟩
      cases hk : D.nk k with
      | none => rw [hk] at q1; exact q1.elim
      | some kk =>
        rw [hk] at q1
        refine tx_seq A1 q1 fun d e4 w2 G2 H2 s2 t2 A2 r2 q2 => ?_
        obtain ⟨d3, e5, p4⟩ := Res.lift q2
        obtain ⟨a', xs, vs, fq, h1', nd, vl, ow⟩ := A2.ndict e0
        rw [h1] at h1'
        cases h1'
        refine ⟨xs, q'.1, k, kk, nd, (r1.mono s2).mono A2.fine.le, hk, ?_⟩
        split at e5
        · rename_i e6
          cases e5
          obtain ⟨p, v8, f8, e9, e10, e11⟩ := nGet_at nd.ky vl ow e6
          rw [e9]
          cases e11 with
          | v rv => exact ⟨v8, e10, p4 _ G2 H2 (s1.trans s2) (t1.trans t2) A2 rv⟩
        · cases e5
        · split at e5
          · cases e5
          · rename_i e6 e7
            cases e5
            rw [nHas_at kk nd.ky] at e7
            cases hp : atKey xs kk with
            | none => exact p4 _ G2 H2 (s1.trans s2) (t1.trans t2) A2 r2
            | some p => rw [hp] at e7; exact (e7 rfl).elim
    · exact q.elim
end
end VS

set_option maxHeartbeats 1000000
/-! VS: an exception class of the program: its own `__init__` is super().__init__(text); self.attr = arg. -/
namespace VS
open PySem PySem.Spec PyProof.Rows L2
/-- the context of such an `__init__` -/
def cxS (P : Program) (w : World) (K : PySem.W.Frag) (mg : Str → Option Value) (base : Heap) (N : List Str) (qual : Str) (scope : Scope) (f cda cc : Addr) (A : Around) (outer : List PySem.Env) (s : Shared) (H : Hp) : Cx where
  prog := P
  w := w
  K := K
  mg := mg
  base := base
  A := A.deeper (PySem.W.ksEnv qual scope s.heap.objs.size f (.ref cda) cc)
  N := N
  s_0 := s
  H_0 := H
  env := PySem.W.ksEnv qual scope s.heap.objs.size f (.ref cda) cc
  outer := outer
  stack := PySem.W.ksEnv qual scope s.heap.objs.size f (.ref cda) cc :: outer
  ex := []
  calm := true
  fn := fun x => x != "__class__"
  pn := []
  xe := fun _ _ => False
/-- what must be known of the class at C, `__init__` at f -/
structure SIni (P : Program) (K : PySem.W.Frag) (mg : Str → Option Value) (C f : Addr) (fd : FuncData) (attr arg text : Str) : Prop where
  T : OexC K C
  hno : PySem.W.findIn K (.ref C) attr = some none
  hB : PySem.W.subIn K (.ref C) (.type "ValueError") = some true
  hop : PySem.W.nsIn K cStatics "thirdparty.any" = some none
  hsu : mg "super" = none
  hat : arg ≠ "self"
  htop : (P.main.scope.names.lookup ("super" : Str)).isSome = false
  hm : ∃ cd, PySem.W.clsIn K C = some cd ∧ PySem.W.alongIn K "__init__" ((cd.mro.dropWhile (· != .ref C)).drop 1) = some (some (.builtin "ValueError.__init__"))
  body : ∃ (name qual : Str) (params : Arguments) (scope : Scope) (dV kV doc pm ct oc ccl cl : Value) (an od cdd cld : Option Addr) (osl ccs csl : Array (Option Value)) (cda cc : Addr) (vs : Array Value) (file : Str) (tf : Tok) (ar : Arg) (p1 p2 p3 p4 p5 p6 p7 p8 p9 p10 : Pos) (j : Nat),
    fd = PySem.W.ksFn name qual params [.Expr (.Call (.Attribute (.Call (.Name "super" p1) [] [] p2) "__init__" p3) [.Constant (.str text) j p4] [] p5) p6, .Assign [.Attribute (.Name "self" p7) attr p8] (.Name arg p9) p10] scope dV kV doc pm an (.ref cda) ct cc ∧
    K.lookup f = some ⟨oc, od, .func fd, osl⟩ ∧ PySem.W.codeIn K (.ref cda) qual = true ∧ (params.posonlyargs ++ params.args).head? = some ar ∧ ar.arg = "self" ∧
    K.lookup cda = some ⟨ccl, cdd, .fields vs, ccs⟩ ∧ vs[2]? = some (.str file tf) ∧ ((P.main.file : Str) == file) = true ∧
    K.lookup cc = some ⟨cl, cld, .cell (some (.ref C)), csl⟩ ∧
    scope.names.lookup ("super" : Str) = some .globalImplicit ∧ scope.names.lookup ("__class__" : Str) = some .free ∧ scope.names.lookup ("self" : Str) = some .local ∧ scope.names.lookup arg = some .local ∧
    scope.kind = .function ∧ scope.isCoroutine = false ∧ scope.isGenerator = false ∧ (∀ x ∈ scope.names, x.2 ≠ .cell) ∧ (∀ x ∈ scope.names, x.2 = .free → x.1 = "__class__") ∧ (arg == ("__debug__" : Str)) = false ∧ (arg == ("__classdict__" : Str)) = false ∧ (p3.endLine == p5.line) = true
/-- what the `__init__` does -/
def spI (C : Addr) (attr : Str) : Sp := fun vs H Q _ => ∃ (a : Addr) (d : V), vs = [.ref a, d] ∧ H a = some (exo a C none) ∧ ∀ dx, H dx = none → dx ≠ a → Q .non (upd (upd H dx (exd dx [(attr, d)])) a (exo a C (some dx)))
theorem inv_sinit {P : Program} {w : World} {K : PySem.W.Frag} {mg : Str → Option Value} {base : Heap} {qual arg : Str} {scope : Scope} {f cda cc C : Addr} {A : Around} {outer : List PySem.Env} {s : Shared} {H : Hp} {cl : Value} {cld : Option Addr} {csl : Array (Option Value)} {u0 u1 : Value} {v0 v1 : V} {h0 : Heap} {tk : Nat}
    (hd : A.handled = none) (e0 : Env0 P w K mg base A outer s H) (hat : arg ≠ "self") (hcc : K.lookup cc = some ⟨cl, cld, .cell (some (.ref C)), csl⟩) (hk : scope.kind = .function) (hself : scope.names.lookup ("self" : Str) = some .local) (harg : scope.names.lookup arg = some .local)
    (hcell : ∀ x ∈ scope.names, x.2 ≠ .cell) (hfree : ∀ x ∈ scope.names, x.2 = .free → x.1 = "__class__") (r0 : RelV v0 u0) (r1 : RelV v1 u1)
    (hn : h0.Ns s.heap.objs.size (fun x => ([("self" : Str), arg].zip [u0, u1]).reverse.lookup x)) (k : ∀ b o, s.heap.get? b = some o → h0.get? b = some o) :
    Inv (cxS P w K mg base [("self" : Str), arg] qual scope f cda cc A outer s H) [] [some v0, some v1] H { s with heap := h0, toks := tk } := by
  have kb : ∀ b o, base.get? b = some o → s.heap.get? b = some o := fun b o e => (e0.bs b o e).1
  have hccb : base.get? cc = some ⟨cl, cld, .cell (some (.ref C)), csl⟩ := e0.mod.kin _ _ hcc
  have cells : ∀ y c, (cxS P w K mg base [("self" : Str), arg] qual scope f cda cc A outer s H).env.cells.lookup y = some c → y = "__class__" ∧ c = cc := fun y c h => by
    have h : List.lookup y [(("__class__" : Str), cc)] = some c := h
    rw [List.lookup_cons] at h
    by_cases hy : y = "__class__"
    · subst hy
      simp at h
      exact ⟨rfl, h.symm⟩
    · have : (y == ("__class__" : Str)) = false := by simpa using hy
      rw [this] at h
      cases h
  have noA : ∀ b : Addr, b ∉ (cxS P w K mg base [("self" : Str), arg] qual scope f cda cc A outer s H).ex := fun b z => absurd (show b ∈ ([] : List Addr) from z) (by simp)
  refine ⟨⟨e0.mod, hk, rfl, rfl, Nat.le_refl _, fun y z c h1 h2 => by rw [(cells y c h1).1, (cells z c h2).1], fun y hy => ?_, fun y c hf h => ?_, fun _ => hd, Around.frames_deeper e0.frames, .inr ⟨rfl, rfl⟩, fun b z => absurd z (noA b), e0.bs, e0.bsz, fun b _ _ => noA b, fun b z => absurd z (noA b), e0.funs, e0.frf⟩,
    rfl, e0.bare, Un.kept k, ⟨_, hn, fun i y v h1 h2 h3 => ?_⟩, fun y c h => ?_, e0.hok.fresh (Nat.le_refl _), fun y c h => ?_, fun p hp => absurd (show p ∈ ([] : List (Addr × Obj)) from hp) (by simp), e0.hok.kept k, rfl⟩
  · have hy : scope.names.lookup y = some .cell ∨ scope.names.lookup y = some .free := hy
    rcases hy with hy | hy
    · exact absurd rfl (hcell _ (PySem.mem_of_lookup hy))
    · have := hfree _ (PySem.mem_of_lookup hy) rfl
      have this : y = "__class__" := this
      subst this
      exact ⟨cc, rfl⟩
  · have := (cells y c h).1
    subst this
    exact absurd (show (("__class__" : Str) != ("__class__" : Str)) = true from hf) (by decide)
  · match i, h1, h2 with
    | 0, h1, h2 =>
      obtain rfl : ("self" : Str) = y := Option.some.inj h1
      obtain rfl : v0 = v := Option.some.inj (Option.some.inj h2)
      refine ⟨u0, r0, .inl ⟨hself, ?_⟩⟩
      show List.lookup ("self" : Str) [(arg, u1), ("self", u0)] = some u0
      rw [List.lookup_cons]
      have : (("self" : Str) == arg) = false := by simpa using (Ne.symm hat)
      rw [this]
      simp [List.lookup]
    | 1, h1, h2 =>
      obtain rfl : arg = y := Option.some.inj h1
      obtain rfl : v1 = v := Option.some.inj (Option.some.inj h2)
      refine ⟨u1, r1, .inl ⟨harg, ?_⟩⟩
      show List.lookup arg [(arg, u1), ("self", u0)] = some u1
      simp [List.lookup]
    | n + 2, h1, h2 => cases h1
  · rw [(cells y c h).2]
    exact ⟨some (.ref C), _, k _ _ (kb _ _ hccb), rfl⟩
  · rw [(cells y c h).2]
    exact (e0.bs _ _ hccb).2

theorem mc_eq {o : Expr} {name : Str} {apos pos p : Pos} {c : Const} {j : Nat} {env : PySem.Env} (h : (apos.endLine == pos.line) = true) : eval (.Call (.Attribute o name apos) [.Constant c j p] [] pos) env = (do
    let ov ← attributeBase o name env (eval o env)
    standAt apos.atName
    let (f, first) ← holding [ov] (getMethod ov name (do return (← importBound o env).getD true))
    callWith pos f first (backTo pos (starEach [.Constant c j p] env)) []) := by
  have e : methodCallPos true o env apos pos = pure pos := by
    unfold methodCallPos
    rw [h]
    rfl
  have e2 : eval (.Call (.Attribute o name apos) [.Constant c j p] [] pos) env = (do
    let ov ← attributeBase o name env (eval o env)
    standAt apos.atName
    let (f, first) ← holding [ov] (getMethod ov name (do return (← importBound o env).getD true))
    let callPos ← methodCallPos true o env apos pos
    callWith callPos f first (backTo pos (starEach [.Constant c j p] env)) []) := by rfl
  rw [e2, e]
  rfl
theorem sinit_body {P : Program} {w : World} {K : PySem.W.Frag} {mg : Str → Option Value} {base : Heap} {k : Nat} {C f : Addr} {fd : FuncData} {attr arg text : Str} (S : SIni P K mg C f fd attr arg text)
    {A : Around} {outer : List PySem.Env} {s : Shared} {H : Hp} {args : Args} {us : List Value} {vs : List V} {Q : VK} {E : XK} (hr : Room (k + 1) A) (e0 : Env0 P w K mg base A outer s H) (hb : BindsTo s fd args ([("self" : Str), arg].zip us)) (r : Vals vs us) (hsp : spI C attr vs H Q E) :
    codeAny (model P w) A (.call (.ref f) args) (CR CX0 outer P w H s Q E) s := by
  obtain ⟨a, d, rfl, ea, q⟩ := hsp
  obtain ⟨name, qual, params, scope, dV, kV, doc, pm, ct, oc, ccl, cl, an, od, cdd, cld, osl, ccs, csl, cda, cc, vv, file, tf, ar, p1, p2, p3, p4, p5, p6, p7, p8, p9, p10, j, rfl, lk, hcd, hp, har, hcode, hvs, hfile, hcc, hks, hkc, hself, harg, hkind, hco, hgen, hcell, hfree, hdb, hdc, hpl⟩ := S.body
  obtain ⟨nm, qn, N, bs, bm, sn, sub, ab, col, dd, k0, k1, k2, k3, k5, hC, hbm⟩ := S.T.cls
  have hcl : PySem.W.clsIn K C = some { name := nm, bases := bs, mro := .ref C :: bm, ns := N, qualname := qn, hasDict := true, slotNames := sn, subclasses := sub, abstract := ab, collection := col, hasDel := false } := by unfold PySem.W.clsIn; rw [hC] <;> rfl
  have hmro : PySem.W.mroIn K C (.ref C) = some true := by
    unfold PySem.W.mroIn
    rw [hcl, Option.bind_some, if_neg (by simp)]
    simp
  have hm : PySem.W.alongIn K "__init__" bm = some (some (.builtin "ValueError.__init__")) := by
    obtain ⟨cd, z1, z2⟩ := S.hm
    rw [hcl] at z1
    cases z1
    have e : (((Value.ref C :: bm).dropWhile (· != .ref C)).drop 1) = bm := by simp
    rw [← e]
    exact z2
  cases r with
  | @cons _ u0 _ ur ra rw' =>
    obtain rfl : u0 = Value.ref a := ra
    cases rw' with
    | @cons _ u1 _ ur2 rd rn =>
      cases rn
      have KX : K.In s.heap := e0.mod.kin.keeps fun b o e => (e0.bs b o e).1
      have lim : s.heap.NoLimit := e0.mod.nolimit.keeps fun b o e => (e0.bs b o e).1
      refine ks_codeAny_call_defAt (fd := PySem.W.ksFn name qual params _ scope dV kV doc pm an (.ref cda) ct cc) hr.depth (KX _ _ lk) rfl lim (PySem.W.codeRec_of KX hcd) rfl hb hcell (fun y hy => ?_) (fun h0 hn kk => ?_) hco hgen hkind
      · have hy : y ∈ [(("self" : Str), Value.ref a), (arg, u1)] := hy
        rcases List.mem_cons.mp hy with rfl | hy
        · exact hself
        · rcases List.mem_cons.mp hy with rfl | hy
          · exact harg
          · cases hy
      · have I : Inv (cxS P w K mg base [("self" : Str), arg] qual scope f cda cc A outer s H) [] [some (.ref a), some d] H { s with heap := h0, toks := s.toks + ([("self" : Str), arg].zip [Value.ref a, u1]).length } := inv_sinit hr.hd e0 S.hat hcc hkind hself harg hcell hfree rfl rd hn kk
        have st : ∀ {pins : List (Addr × Obj)} {σ : L2.St} {H' : Hp} {s' : Shared} {fl : Flow}, SP (cxS P w K mg base [("self" : Str), arg] qual scope f cda cc A outer s H) pins { nx := fun _ H' => Q .non H', rt := fun _ _ => False } fl s' → CR CX0 outer P w H s Q E (.ok (.ret (match fl with | .ret v => v | _ => .none))) s' := fun {pins σ H' s' fl} hs => by
          cases fl with
          | next =>
            obtain ⟨σ2, H2, J, q2⟩ := hs
            exact ⟨.non, H2, J.os, J.bare, J.base, J.hok, rfl, q2⟩
          | ret u =>
            obtain ⟨_, _, _, _, _, q2⟩ := hs
            exact q2.elim
          | brk =>
            obtain ⟨_, _, _, q2⟩ := hs
            exact False.elim q2
          | cont =>
            obtain ⟨_, _, _, q2⟩ := hs
            exact False.elim q2
        have hk2 : (cxS P w K mg base [("self" : Str), arg] qual scope f cda cc A outer s H).env.scope.kind = .function := hkind
        have v0 : PE (cxS P w K mg base [("self" : Str), arg] qual scope f cda cc A outer s H) (.Name "self" p7) (tVar 0) := pe_var rfl (.inl hself)
        have v1 : PE (cxS P w K mg base [("self" : Str), arg] qual scope f cda cc A outer s H) (.Name arg p9) (tVar 1) := pe_var rfl (.inl harg) hdb hdc
        show _root_.PySem.wpAt (model P w) (cxS P w K mg base [("self" : Str), arg] qual scope f cda cc A outer s H).A (.func _ (cxS P w K mg base [("self" : Str), arg] qual scope f cda cc A outer s H).env) (execs [_, _] (cxS P w K mg base [("self" : Str), arg] qual scope f cda cc A outer s H).env) _ _ _
        refine ks_wpAt_execs_cons (ks_wpAt_Expr_any (ks_wpAt_MethodCall ?_ (mc_eq hpl)) I.quiet)
        obtain ⟨mb, h1, h2⟩ := I.mod.blt
        obtain ⟨m, hns, lkk⟩ := id I.loc
        obtain ⟨us, rs, hus⟩ := lkk 0 "self" (.ref a) rfl rfl (.inl hself)
        obtain rfl : us = Value.ref a := rs
        have hself2 : m "self" = some (.ref a) := by
          rcases hus with ⟨_, z⟩ | ⟨z | z, _⟩
          · exact z
          · have z : scope.names.lookup ("self" : Str) = some .cell := z
            rw [hself] at z
            cases z
          · have z : scope.names.lookup ("self" : Str) = some .free := z
            rw [hself] at z
            cases z
        refine ks_wpAt_super_base (f := f) (cc := cda) hks hkc (by decide) rfl (I.kIn _ _ lk) rfl hp rfl (I.kIn _ _ hcode) rfl hvs hfile S.htop ?_
        refine PySem.W.ks_loadName_global hkind hks (Calls.loadGlobal_builtin (I.mod.glob.keeps I.bk) S.hsu (h1.keeps I.bk) ((h2 "super" (by decide)).trans PyProof.Rows.Boot.«super») ⟨rfl, ?_⟩)
        refine wpAny_loadName_free hkind hkc (show List.lookup ("__class__" : Str) [(("__class__" : Str), cc)] = some cc from rfl) ⟨_, I.kIn _ _ hcc, rfl⟩ ?_
        rw [har]
        refine wpAny_loadName_local hkind hself hns hself2 ?_
        refine ks_wpAny_isType_cls (I.kIn _ _ hC) rfl ⟨rfl, ?_⟩
        obtain ⟨t1, hoe⟩ := exo_at I.hok ea
        refine ks_wpAny_call_super (I.kIn _ _ hC) rfl hoe rfl (fun c e => by cases e) (PySem.W.looks_mroIn I.kIn hmro) (fun h' eso k2 => ?_)
        have I2 := I.kept (t' := s.toks + ([("self" : Str), arg].zip [Value.ref a, u1]).length) k2
        have hmr : PySem.W.Looks (model P w) h' (mroOf (.ref C)) (Value.ref C :: bm) := (PySem.W.looks_clsIn I2.kIn hcl).andThen .now
        obtain ⟨t2, hoe2⟩ := exo_at I2.hok ea
        have hI : PySem.W.Looks (model P w) h' (isInstance (.ref a) (.type "ValueError")) true := (PySem.W.InstAt.type (⟨hoe2, rfl, rfl, trivial⟩ : PySem.W.InstAt h' a _ C none)).andThen (PySem.W.looks_subIn I2.kIn S.hB)
        have hac : a ≠ C := fun z => by
          have e1 : h'.get? C = _ := I2.kIn _ _ hC
          rw [← z, hoe2] at e1
          cases e1
        refine PySem.W.kxs_getMethod PySem.W.kxs_ValueError eso (PySem.W.looks_opaque I2.kIn S.hop) hmr (l := bm) (by simp) I2.kIn hm hI hac (by decide) ?_
        refine PySem.W.kxs_callWith (i := "ValueError.__init__") (x := a) rfl (Calls.evalArgs_plain (spliced_more (Calls.Constant_str (spliced_none ⟨Heap.get?_push_at rfl rfl, ?_⟩))))
        have I3 : Inv (cxS P w K mg base [("self" : Str), arg] qual scope f cda cc A outer s H) [] [some (.ref a), some d] H { s with heap := h'.push (PySem.W.kxs_mw "ValueError.__init__" a), toks := s.toks + ([("self" : Str), arg].zip [Value.ref a, u1]).length + 1 + 1 } := I2.kept fun b o e => Heap.get?_push_of_some _ e
        obtain ⟨t3, hoe3⟩ := exo_at I3.hok ea
        have hC3 := I3.kIn _ _ hC
        refine wpAny_call (codeAny_of_tree ?_)
        show wpAny _ (cxS P w K mg base [("self" : Str), arg] qual scope f cda cc A outer s H).A.in1 (callAny (.ref h'.objs.size) ⟨[_], []⟩) _ _ _
        simp only [callAny]
        refine wpAny_bind (wpAny_load (Heap.get?_push_at rfl rfl) ?_)
        simp only [PySem.W.kxs_mw, show (Value.type "method-wrapper" == Value.type "method" || Value.type "method-wrapper" == Value.type "builtin_function_or_method" || Value.type "method-wrapper" == Value.type "method-wrapper") = true by decide, if_true]
        refine PySem.W.KFB.if_so (by decide) ?_
        refine wpAny_bind (PySem.W.check_bound_init PySem.F.excBase_ValueError.toExcCallFacts hC3 hoe3 rfl ?_)
        refine wpAny_bind (wpAny_pure (wpAny_pure ?_))
        refine ⟨plainId_quiet PySem.F.excBase_ValueError.init.plain _, codeAny_builtin PySem.F.excBase_ValueError.initEntry ?_⟩
        refine PySem.W.exc_init_tree (cls := .ref C) (t0 := t3) (dv := none) (c2 := .none) (c3 := .none) (b4 := .bool false) hoe3 (by show 1 ≤ sizeLine; rw [sizeLine_eq]; omega) (fun h4 k4 hx4 _ => ?_)
        have J := I3.write (t' := s.toks + ([("self" : Str), arg].zip [Value.ref a, u1]).length + 1 + 1) (x := a) (e := a) (o := exo a C none) (by rw [ea]; exact True.intro) (.inl rfl) k4 ⟨_, hx4⟩ (exo_ok hx4)
        have eu : upd H a (exo a C none) = H := by
          funext b
          by_cases hb : b = a
          · rw [hb, upd_same, ea]
          · rw [upd_ne hb]
        rw [eu] at J
        refine ks_wpAt_execs_cons (wpAt_of_wpAny (wpAny_mono ((ps_ost v0 v1).run [] _ _ H { nx := fun _ H' => Q .non H', rt := fun _ _ => False } J ?_) (fun fl s' hs => ?_) fun _ _ z => z.elim))
        · refine ⟨d, rfl, .ref a, rfl, a, C, rfl, S.T, S.hno, .inl ⟨ea, fun dx n ne => q dx n ne⟩⟩
        · have z := st (fl := fl) (σ := []) (H' := H) hs
          cases fl with
          | next => exact wpAt_of_wpAny (wpAny_pure z)
          | ret u =>
            obtain ⟨_, _, _, _, _, q2⟩ := hs
            exact q2.elim
          | brk =>
            obtain ⟨_, _, _, q2⟩ := hs
            exact False.elim q2
          | cont =>
            obtain ⟨_, _, _, q2⟩ := hs
            exact False.elim q2
theorem fn_sinit {P : Program} {w : World} {K : PySem.W.Frag} {mg : Str → Option Value} {base : Heap} {k : Nat} {C f : Addr} {fd : FuncData} {attr arg text : Str} (S : SIni P K mg C f fd attr arg text) : FnOk P w K mg base CX0 (k + 1) f fd [("self" : Str), arg] (spI C attr) :=
  ⟨fun vs H Q E ⟨a, d, e, _⟩ => by rw [e]; rfl, fun A outer s H args us vs Q E hr e0 hb r h => sinit_body S hr e0 hb r h⟩
end VS

/-! VS: defs that may raise, raise, try. -/
namespace VS
open PySem PySem.Spec PyProof.Rows L2
/-- as spM, for a def that may raise -/
def spX (E : Wd) (n : Nat) (m : List D → R D) : Sp := fun vs H Q Ex => ∃ G ds, vs.length = n ∧ Same G H ∧ (∀ a u, H a = some u → isT u = true → G a = some u) ∧ RpL E G vs ds ∧
  match m ds with
  | .ok d => ∀ v G' H', Same G G' → Same G' H' → Same H H' → (∀ a, H a ≠ none → G a = none → G' a = none) → (∀ a u, H' a = some u → isT u = true → G' a = some u) → Rp E G' v d → Q v H'
  | .ex e => ∀ cl dx G' H', Same G G' → Same G' H' → Same H H' → (∀ a, H a ≠ none → G a = none → G' a = none) → (∀ a u, H' a = some u → isT u = true → G' a = some u) → XRep E G' cl dx e → Ex cl dx H'
  | .stuck => False
abbrev FnX (P : Program) (w : World) (K : PySem.W.Frag) (mg : Str → Option Value) (base : Heap) (k : Nat) (f : Addr) (fd : FuncData) (ps : List Str) (m : List D → R D) : Prop := FnOk P w K mg base (L2.CX P w) k f fd ps (spX ⟨K, mg, w⟩ ps.length m)
/-- the wish of a def that lets exceptions out -/
abbrev WD (E : XK) : WX := fun cl d _ H => E cl d H
section
variable {P : Program} {w : World} {K : PySem.W.Frag} {mg : Str → Option Value} {base : Heap}
theorem fnx_of {x qual : Str} {st : Stmt} {f : Addr} {fd : FuncData} {N ps : List Str} {k : Nat} {body : Env → Rs} (F : Fun K x qual st f fd) (S : FnScope N ps (defScope st))
    (hbody : ∀ (cdv : Value) (A : Around) (outer : List PySem.Env) (s : Shared) (H : Hp) (E : XK), Room k (A.deeper (envOfC qual (defScope st) s.heap.objs.size f cdv)) → PassesOwn (model P w) (cxOf (L2.CX P w) P w K mg base N qual (defScope st) f cdv A outer s H E).A (cxOf (L2.CX P w) P w K mg base N qual (defScope st) f cdv A outer s H E).env (cxOf (L2.CX P w) P w K mg base N qual (defScope st) f cdv A outer s H E).xe →
      Takes (cxOf (L2.CX P w) P w K mg base N qual (defScope st) f cdv A outer s H E) (WD E) → PXSs (cxOf (L2.CX P w) P w K mg base N qual (defScope st) f cdv A outer s H E) (WD E) [] (defBody st) body) :
    FnX P w K mg base (k + 1) f fd ps (runF N.length body) := by
  refine F.okX S (fun vs H Q E h => ?_) (fun cdv A outer s H vs Q E hr h => ?_)
  · obtain ⟨_, _, h, _⟩ := h
    exact h
  · obtain ⟨G, ds, hl, sG, tp, r, q⟩ := h
    refine ⟨_, hbody cdv A outer s H E hr (passes_of rfl) (takes_of rfl rfl rfl rfl), ?_⟩
    have hvl : vs.length = ds.length := r.length
    refine ⟨⟨H, G, [], fun _ => False⟩, G, ds.map (fun d => some (O.v d)) ++ List.replicate (N.length - ds.length) none, [], ⟨⟨fun a o e _ => e, fun a e => e, fun a _ e => e, sG, tp⟩, ?_, List.nodup_nil, (fun p hp => nomatch hp), (fun q hq => nomatch hq)⟩, ⟨(fun q hq => nomatch hq), fun _ a z => z⟩, ?_⟩
    · unfold L2.start
      rw [hvl]
      exact cells_start _ r
    · unfold runF at q
      cases e : body (ds.map (fun d => some (O.v d)) ++ List.replicate (N.length - ds.length) none) with
      | ok fl c' =>
        rw [e] at q
        cases fl with
        | nx => exact fun σ' G' H' fp' s' A' => q .non G' H' s' A'.fine.le (fun a o e => A'.fine.base a o e fun z => z) A'.fine.x A'.fine.tup .non
        | bk => exact q.elim
        | ct => exact q.elim
        | rt d => exact fun v σ' G' H' fp' s' A' r' => q v G' H' s' A'.fine.le (fun a o e => A'.fine.base a o e fun z => z) A'.fine.x A'.fine.tup r'
      | ex x c' =>
        rw [e] at q
        exact fun cl dx σ' G' H' fp' s' A' xr => q cl dx G' H' s' A'.fine.le (fun a o e => A'.fine.base a o e fun z => z) A'.fine.x A'.fine.tup xr
      | stuck => rw [e] at q; exact q.elim
structure CalX (P : Program) (w : World) (K : PySem.W.Frag) (mg : Str → Option Value) (base : Heap) (k : Nat) (x : Str) (ps : List Str) (m : List D → R D) : Prop where
  ex : ∃ f fd, FnX P w K mg base k f fd ps m ∧ mg x = some (.ref f) ∧ PySem.W.keepIn K (.ref f) = true ∧ L2.Binds K fd ps []
theorem calx_of {x : Str} {st : Stmt} {N ps : List Str} {k : Nat} {body : Env → Rs} (T : Def K mg x st) (S : FnScope N ps (defScope st))
    (hb : ∀ (kV doc pm : Value) (an : Option Addr) (cdv ct : Value) (us : List Value), us.length = ps.length → bindArgs (PySem.W.fnOf x x (defArgs st) (defBody st) (defScope st) .none kV doc pm an cdv ct) ⟨us, []⟩ = pure (ps.zip us))
    (hbody : ∀ (f : Addr) (cdv : Value) (A : Around) (outer : List PySem.Env) (s : Shared) (H : Hp) (E : XK), Room k (A.deeper (envOfC x (defScope st) s.heap.objs.size f cdv)) → PassesOwn (model P w) (cxOf (L2.CX P w) P w K mg base N x (defScope st) f cdv A outer s H E).A (cxOf (L2.CX P w) P w K mg base N x (defScope st) f cdv A outer s H E).env (cxOf (L2.CX P w) P w K mg base N x (defScope st) f cdv A outer s H E).xe →
      Takes (cxOf (L2.CX P w) P w K mg base N x (defScope st) f cdv A outer s H E) (WD E) → PXSs (cxOf (L2.CX P w) P w K mg base N x (defScope st) f cdv A outer s H E) (WD E) [] (defBody st) body) :
    CalX P w K mg base (k + 1) x ps (runF N.length body) := by
  obtain ⟨f, fd, F, g⟩ := T.ex
  exact ⟨f, fd, fnx_of F S (hbody f), g, F.kp, F.binds hb⟩
/-- a class of exceptions that may be made -/
structure XCal (P : Program) (w : World) (K : PySem.W.Frag) (mg : Str → Option Value) (base : Heap) (x attr : Str) : Prop where
  ex : ∃ C f fd arg, OexC K C ∧ PySem.W.findIn K (.ref C) "__init__" = some (some (.ref f)) ∧ PySem.W.typeIn K (.ref f) = some (.type "function") ∧ FnOk P w K mg base CX0 1 f fd ["self", arg] (spI C attr) ∧ L2.Binds K fd ["self", arg] [] ∧ mg x = some (.ref C)
end
section
variable {X : Cx} {W : WX} {pn : List Nat} {k j : Nat} {ps : List Str} {x attr : Str} {p pos pos' : Pos} {e : Expr} {es : List Expr} {gs : Env → R (List D)} {g : Env → R D} {m : List D → R D}
def eCallX (m : List D → R D) (gs : Env → R (List D)) : Env → R D := fun c => gs c >>= fun ds => m ds
theorem callx_true {n : Nat} {B : Bs} {G H : Hp} {c : Env} {σ : L2.St} {fp : List Addr} {vs : List V} {ds : List D} {Q : VK} (A : Abs ⟨X.K, X.mg, X.w⟩ B G H c σ fp) (r : RpL ⟨X.K, X.mg, X.w⟩ G vs ds) (hl : ds.length = n)
    (q : Res ⟨X.K, X.mg, X.w⟩ W B c σ fp G H (m ds) (Post ⟨X.K, X.mg, X.w⟩ B c σ fp G H true Q)) : spX ⟨X.K, X.mg, X.w⟩ n m vs H Q (WE W σ) := by
  refine ⟨G, ds, by rw [r.length]; exact hl, A.fine.le, A.fine.tup, r, ?_⟩
  cases e : m ds with
  | ok d =>
    rw [e] at q
    exact fun v G' H' s l t gr tp rv => q v G' H' s t (A.call s t l gr tp) rv
  | ex y =>
    rw [e] at q
    exact fun cl dx G' H' s l t gr tp xr => q cl dx G' H' s t (A.call s t l gr tp) xr
  | stuck => rw [e] at q; exact q
theorem px_callX (C : CalX X.prog X.w X.K X.mg X.base k x ps m) (tk : Takes X W) (hr : Room j X.A) (hkj : k ≤ j) (ha : PXA X W true (e :: es) gs) (hn : ∀ c ds, gs c = .ok ds → ds.length = ps.length) (hg : Gl X x := by rfl)
    (hdb : (x == ("__debug__" : Str)) = false := by decide) (he : starEach (e :: es) X.env = (false, eval e X.env) :: starEach es X.env := by rfl) (hpl : (backTo pos (starEach es X.env)).any (·.1) = false := by rfl) :
    PX X W true (.Call (.Name x p) (e :: es) [] pos) (eCallX m gs) := by
  obtain ⟨f, fd, F, hm, hk, hb⟩ := C.ex
  exact pe_mono (pe_callS (E := fun σ => WE W σ) F (hr.mono hkj) hg hm hk hb (fun σ => passAt tk σ) ha hdb he hpl) fun σ H Q ⟨B, G, c, fp, A, q⟩ => txa_seq A q fun ds e vs G1 H1 s1 t1 A1 r1 q1 =>
    callx_true A1 r1 (hn c ds e) (Res.grow (r := m ds) q1 (Same.refl _) (Same.refl _) fun d _ z => z.grow s1 t1)
/-! ### raise X(e) -/
def sRaise (x attr : Str) (g : Env → R D) : Env → Rs := fun c => (g c).st c fun d => .ex (.obj x [attr] [d]) c
theorem pxs_raise (C : XCal X.prog X.w X.K X.mg X.base x attr) (tk : Takes X W) (hr : Room j X.A) (hj : 2 ≤ j) (ha : PX X W true e g) (hc : X.calm = true := by rfl) (hg : Gl X x := by rfl)
    (hdb : (x == ("__debug__" : Str)) = false := by decide) (he : starEach [e] X.env = (false, eval e X.env) :: starEach [] X.env := by rfl) :
    PXS X W pn (.Raise (some (.Call (.Name x p) [e] [] pos)) none pos') (sRaise x attr g) := by
  obtain ⟨C, f, fd, arg, T, iC, tI, F1, hb, hm⟩ := C.ex
  refine ps_mono (ps_raise hc tk (pmk_oex (dvs := []) T iC tI F1 (hr.mono hj) hb .nil pass0 hg hm (pa_cons ha pa_nil he) hdb he rfl)) fun Dn σ H ⟨B, G, c, fp, A, P, q⟩ => ?_
  refine tx_st A q fun d e v G1 H1 s1 t1 A1 r1 q1 => ⟨by simp, fun a ha => ⟨a, v, rfl, upd_same, fun dx hdx hne => ⟨rfl, dx, [(attr, v)], upd_same, ?_, ?_, ?_⟩⟩⟩
  · rw [upd_ne hne, upd_same]
  · rw [upd_ne hne] at hdx; exact hdx
  · rw [upd_ne hne] at hdx
    have e2 : upd (del (upd (upd (upd H1 a (exo a C none)) dx (exd dx [(attr, v)])) a (exo a C (some dx))) a) dx (.xd [(attr, v)]) = upd H1 dx (.xd [(attr, v)]) := by
      funext b
      by_cases hb : b = dx
      · rw [hb, upd_same, upd_same]
      · rw [upd_ne hb, upd_ne hb]
        by_cases hb2 : b = a
        · rw [hb2, del_same, ha]
        · rw [del_ne hb2, upd_ne hb2, upd_ne hb, upd_ne hb2]
    rw [e2]
    have hG : G1 dx = none := A1.fine.fresh hdx
    have r1 : Rp ⟨X.K, X.mg, X.w⟩ G1 v d := r1
    exact q1 (.ref C) (some dx) σ _ _ fp (same_upd hG) (A1.new hdx) ⟨hm, .inr ⟨dx, [(attr, v)], rfl, upd_same, rfl, .cons (r1.mono (same_upd hG)) .nil⟩⟩
end
end VS

/-! VS: try .. except X as n; the fields of a caught exception. -/
namespace VS
open PySem PySem.Spec PyProof.Rows L2
section
variable {E : Wd} {B : Bs} {c : Env} {σ : L2.St} {fp : List Addr} {G H : Hp}
/-- a name is unset -/
theorem Cells.del : ∀ {c : Env} {σ : L2.St} {fp : List Addr} (i : Nat), Cells E G H c σ fp → fp.Nodup → ∃ fr, Cells E G H (c.set i none) (σ.set i none) fr ∧ fr.Nodup ∧ ∀ p ∈ fr, p ∈ fp
  | _, _, _, i, .nil, n => ⟨[], .nil, List.nodup_nil, fun p hp => nomatch hp⟩
  | _, _, _, 0, .no r, n => ⟨_, .no r, n, fun p hp => hp⟩
  | _, _, _, i + 1, .no r, n => by
    obtain ⟨fr, h1, h2, h3⟩ := Cells.del i r n
    exact ⟨fr, .no h1, h2, h3⟩
  | _, _, _, 0, .yes h r, n => ⟨_, .no r, (List.nodup_append.mp n).2.1, fun p hp => List.mem_append_right _ hp⟩
  | _, _, _, i + 1, .yes h r, n => by
    obtain ⟨n1, n2, n3⟩ := List.nodup_append.mp n
    obtain ⟨fr, h1, h2, h3⟩ := Cells.del i r n2
    refine ⟨_, .yes h h1, List.nodup_append.mpr ⟨n1, h2, fun a ha b hb e => n3 a ha b (h3 b hb) e⟩, fun p hp => ?_⟩
    rcases List.mem_append.mp hp with z | z
    · exact List.mem_append_left _ z
    · exact List.mem_append_right _ (h3 p z)
theorem Abs.del {i : Nat} (A : Abs E B G H c σ fp) (hp : ∀ q ∈ B.pn, q.1 ≠ i) : ∃ fr, Abs E B G H (c.set i none) (σ.set i none) fr := by
  obtain ⟨fr, h1, h2, h3⟩ := A.cells.del i A.nd
  refine ⟨fr, A.fine, h1, h2, fun p hp => A.fresh p (h3 p hp), fun q hq => ?_⟩
  rw [List.getElem?_set_ne (Ne.symm (hp q hq))]
  exact A.pin q hq
end
theorem exq_ok {P : Program} {w : World} {H : Hp} {h : Heap} {a : Addr} {oe : Obj} (e : h.get? a = some oe) : ObjOk P w H h a (exq a oe) := ⟨e, ⟨_, e⟩, fun _ _ z k => k _ z⟩
theorem exq_at {P : Program} {w : World} {H : Hp} {h : Heap} {a : Addr} {oe : Obj} (hok : HOk P w H h) (e : H a = some (exq a oe)) : h.get? a = some oe := by
  have x : ObjOk P w H h a (.ext fun h => h.get? a = some oe) := hok a _ e
  exact x.1
section
variable {X : Cx} {pins : List (Addr × Obj)} {σ : L2.St} {H : Hp} {s : Shared}
/-- the caught exception is tracked from now on -/
theorem Inv.caught {a : Addr} {oe : Obj} {vs : Array Value} (I : Inv X pins σ H s) (ha : s.heap.get? a = some oe) (hd : oe.data = .fields vs) (na : H a = none) (nL : a ≠ X.env.locals) (hp : ∀ p ∈ X.pn ++ pins, p.1 ≠ a) (h0 : X.s_0.heap.get? a = none) :
    Inv (X.suite a (X.pn ++ pins)) [] σ (upd H a (exq a oe)) s := by
  have tr : ∀ {b : Addr} {u : HO}, H b = some u → upd H a (exq a oe) b = some u := fun {b u} q => by rw [upd_ne (ne_of_none q na)]; exact q
  refine ⟨I.ok.suite a _, I.os, I.bare, ⟨I.base.keep, I.base.slot, fun b o e n x => ?_, I.base.there, fun b xs e => tr (I.base.tups b xs e), fun b o u e => tr (I.base.frzs b o u e), fun b ps e => ?_⟩, I.loc, I.cell, ?_, fun x c e => ?_, fun p q => ?_, fun b o e => ?_, I.len⟩
  · rw [upd_ne (fun z => by rw [z, h0] at e; cases e)]
    exact I.base.free b o e n x
  · obtain ⟨more, e2⟩ := I.base.tbls b ps e
    exact ⟨more, tr e2⟩
  · show upd H a (exq a oe) X.env.locals = none
    rw [upd_ne (Ne.symm nL)]
    exact I.free
  · have hc : c ≠ a := fun z => by
      obtain ⟨v, o, e1, e2⟩ := I.cell x c e
      rw [z, ha] at e1
      cases e1
      rw [hd] at e2
      cases e2
    show upd H a (exq a oe) c = none
    rw [upd_ne hc]
    exact I.freeC x c e
  · have q : p ∈ X.pn ++ pins := by rw [List.append_nil] at q; exact q
    obtain ⟨k1, k2, k3⟩ := I.pin p q
    refine ⟨k1, ?_, k3⟩
    rw [upd_ne (hp p q)]
    exact k2
  · by_cases hb : b = a
    · subst hb
      rw [upd_same] at e
      cases e
      exact exq_ok ha
    · rw [upd_ne hb] at e
      exact (I.hok b o e).stay (fun _ _ _ z => z) (fun _ q => tr q) fun _ _ q => tr q
theorem Inv.uncaught {a : Addr} {pn' : List (Addr × Obj)} (I : Inv (X.suite a (X.pn ++ pins)) pn' σ H s) (ok : X.Ok) : Inv X pins σ H s :=
  ⟨ok, I.os, I.bare, I.base, I.loc, I.cell, I.free, I.freeC, fun p hp => I.pin p (List.mem_append_left _ hp), I.hok, I.len⟩
end
/-! ### try -/
/-- the clause's class: does it catch -/
def sTry (i : Nat) (tab : List (Str × Bool)) (g k : Env → Rs) : Env → Rs := fun c => match g c with
  | .ex (.obj nm fs ds) c' => match tab.lookup nm with
    | some true => if fs = [] then .stuck else match k (c'.set i (some (.v (.obj nm ("!" :: fs) (.non :: ds))))) with
      | .ok fl c2 => .ok fl (c2.set i none)
      | _ => .stuck
    | some false => .ex (.obj nm fs ds) c'
    | none => .stuck
  | .ex _ _ => .stuck
  | r => r
/-- what the suite is asked for -/
def tEnds (i : Nat) (Dn : Ends) : Ends := { nx := fun σ' H' => Dn.nx (σ'.set i none) H', rt := Dn.rt, bk := fun σ' H' => Dn.bk (σ'.set i none) H', ct := fun σ' H' => Dn.ct (σ'.set i none) H' }
/-- the wish within the body -/
def wTry (E : Wd) (cv : Value) (i : Nat) (pn : List Nat) (k : Env → Rs) (W : WX) (Dn : Ends) : WX := fun cl dx σ H => ∃ b, PySem.W.exmOne E.K cl cv = some b ∧
  (b = true → ∀ a oe, H a = none → Zc cl dx oe → (∃ vs, oe.data = .fields vs) → TSt E W0 pn k (tEnds i Dn) (σ.set i (some (.ref a))) (upd H a (exq a oe))) ∧ (b = false → W cl dx σ H)
theorem sky_lands {B : Heap} {env : PySem.Env} {outer : List PySem.Env} {L a : Addr} {Z : Obj → Prop} {h : Heap} (x : Sky B (env :: outer) a Z L h) : B.get? a = none := by
  rcases x with ⟨_, hn, _⟩ | fl | hh
  · exact hn
  · exact fl.2.1
  · exact hh.2.1
section
variable {X : Cx} {x n : Str} {cv : Value} {i : Nat} {body su : List Stmt} {st0 : Stmt} {np pos pos' : Pos} {W : WX} {pn : List Nat} {g k : Env → Rs}
theorem ps_tryx (hs : X.stack = X.env :: X.outer) (hf : X.env.frame = some X.env.locals) (hex : X.ex = []) (hN : X.N.Nodup) (hi : X.N[i]? = some n) (hln : X.env.kindOf n = some .local) (hc : Names X x cv) (tk : Takes X W)
    (hb : ∀ (W2 : WX) (q : List (Addr × Obj)) (xe : Value → Shared → Prop), Takes (X.tr q xe) W2 → PassesOwn (model X.prog X.w) X.A X.env xe → PSs (X.tr q xe) body (TSt ⟨X.K, X.mg, X.w⟩ W2 pn g))
    (hk : ∀ (a : Addr) (q : List (Addr × Obj)), PSs (X.suite a q) (st0 :: su) (TSt ⟨X.K, X.mg, X.w⟩ W0 pn k)) :
    PS X (.Try body [.ExceptHandler (some (.Name x np)) (some n) (st0 :: su) pos'] [] [] pos) (fun Dn σ H => TSt ⟨X.K, X.mg, X.w⟩ (wTry ⟨X.K, X.mg, X.w⟩ cv i pn k W Dn) pn g Dn σ H) := by
  refine ⟨fun pins s σ H Dn I q0 => ?_⟩
  have ok := I.ok
  have frm : X.A.frames = some (X.env :: X.outer) := ok.frames.trans (by rw [hs])
  have lc : Loc X.env.scope n := .inl hln
  refine wpAny_Try_except (wpAny_mono ((hb _ (X.pn ++ pins) (fun e s₁ => wpAny (model X.prog X.w) X.A (noteFrame e X.env) (fun _ s₂ => wpAny (model X.prog X.w) X.A (setFlight e none) (fun _ s₃ =>
    wpAny (model X.prog X.w) X.A (handleBy e X.env [.ExceptHandler (some (.Name x np)) (some n) (st0 :: su) pos']) (SP X pins Dn) X.xe s₃) X.xe s₂) X.xe s₁) (fun u s' air => ?_) PassesOwn.looking).run [] s σ H Dn (I.toTry _) q0) (fun fl s1 hsp => ?_) fun e s1 he => he)
  · obtain ⟨a, B, sI, pins', σ', H', cls, d, rfl, J0, nb, up, sky, na, os, ag, b, exm, yes, no⟩ := air
    have J : Inv X pins σ' H' sI := J0.ofTry ok
    have sky2 : Sky B (X.env :: X.outer) a (Zc cls d) X.env.locals s'.heap := hs ▸ sky
    have Ba := sky_lands sky2
    show wpAny (model X.prog X.w) X.A (noteFrame (.ref a) X.env) _ _ _
    refine Sky.land Zc.steady frm hf sky2 fun h3 fl3 up3 => ?_
    have J3 : Inv X pins σ' H' { s' with heap := h3 } := J.landed nb fl3.1 (up.trans up3) os ag
    have out : ∀ {h : Heap} {o : Obj} {vs : Array Value}, h.FunFrames B (X.env :: X.outer) → h.get? a = some o → o.data = .fields vs → a ∉ frs (X.env :: X.outer) := fun {h o vs} ff e dd hm => by
      obtain ⟨_, o2, e2, nf⟩ := ff.mem hm
      rw [e] at e2
      cases e2
      exact nf _ dd
    obtain ⟨oe3, vs3, he3, hz3, hd3⟩ := fl3.there
    have nfr := out fl3.2.2.1 he3 hd3
    have nL : a ≠ X.env.locals := fun z => nfr (List.mem_filterMap.mpr ⟨X.env, List.mem_cons_self, by rw [hf, z]⟩)
    have sIa : sI.heap.get? a = none := by
      cases z : sI.heap.get? a with
      | none => rfl
      | some o =>
        have := nb a o z (by rw [hs]; exact nfr)
        rw [Ba] at this
        cases this
    have h0 : X.s_0.heap.get? a = none := by
      cases z : X.s_0.heap.get? a with
      | none => rfl
      | some o =>
        obtain ⟨o2, z2⟩ := J.base.there a o z (by rw [hex]; simp)
        rw [sIa] at z2
        cases z2
    have hp : ∀ p ∈ X.pn ++ pins, p.1 ≠ a := fun p m z => by
      have := (J.pin p m).1
      rw [z, sIa] at this
      cases this
    have S3 := VS.Inv.caught J3 he3 hd3 na nL hp h0
    refine wpAny_handleBy_cons (codeAny_handlers_test ?_) (by intro q; cases q)
    have lt : PySem.W.Looks (model X.prog X.w) h3 (typeOf (.ref a)) cls := fun A Q E s k q => wpAny_typeOf_ref (k _ _ he3) (by rw [hz3.1]; exact q)
    have lm := PySem.W.exm_one (M := model X.prog X.w) J3.kIn lt exm
    have named : ∀ {Q : Value → Shared → Prop} {E : Value → Shared → Prop}, Q cv { s' with heap := h3 } → wpAny (model X.prog X.w) (X.A.mark (some (.ref a))) (eval (.Name x np) X.env) Q E { s' with heap := h3 } := fun {Q E} q => by
      obtain ⟨hg, hdbg, hm | ⟨hm, hv, hnn⟩⟩ := hc
      · exact ld_glob (X := X.suite a (X.pn ++ pins)) S3 hg hm q hdbg
      · exact ld_blt (X := X.suite a (X.pn ++ pins)) S3 hg hm hv q hnn hdbg
    refine named (lm.here ?_)
    cases b with
    | true =>
      refine codeAny_handlers_suite_as (HandSPX.lands_againZ fl3 fun h4 fl4 up4 => ?_)
      have J4 : Inv X pins σ' H' { s' with heap := h4 } := J.landed nb fl4.1 ((up.trans up3).trans up4) os ag
      obtain ⟨oe4, vs4, he4, hz4, hd4⟩ := fl4.there
      have S4 := VS.Inv.caught J4 he4 hd4 na nL hp h0
      refine store_ok (X := X.suite a (X.pn ++ pins)) (v := .ref a) S4 hN hi lc rfl (fun s5 S5 => ?_) (.inr hln)
      refine wpAny_mono ((hk a (X.pn ++ pins)).run [] s5 _ _ (tEnds i Dn) S5 (yes rfl a oe4 na hz4 ⟨_, hd4⟩)) (fun fl s6 hsp => ?_) fun _ _ z => False.elim z
      have fin : ∀ {σ6 : L2.St} {H6 : Hp} {Q : Shared → Prop}, Inv (X.suite a (X.pn ++ pins)) [] σ6 H6 s6 → (∀ s7, Inv X pins (σ6.set i none) H6 s7 → Q s7) →
          wpAny (model X.prog X.w) X.A (do bindName X.env n .none; unbindBehindTheSuite X.env n pos') (fun _ s7 => Q s7) X.xe s6 := fun {σ6 H6 Q} S6 hq => gone_ok (VS.Inv.uncaught S6 ok) hN hi hln hq
      cases fl with
      | next =>
        obtain ⟨σ6, H6, S6, q6⟩ := hsp
        exact fin S6 fun s7 J7 => ⟨_, _, J7, q6⟩
      | brk =>
        obtain ⟨σ6, H6, S6, q6⟩ := hsp
        exact fin S6 fun s7 J7 => ⟨_, _, J7, q6⟩
      | cont =>
        obtain ⟨σ6, H6, S6, q6⟩ := hsp
        exact fin S6 fun s7 J7 => ⟨_, _, J7, q6⟩
      | ret u =>
        obtain ⟨v6, σ6, H6, S6, r6, q6⟩ := hsp
        exact fin S6 fun s7 J7 => ⟨_, _, _, J7, r6, q6⟩
    | false =>
      show wpAny _ X.A (handleBy (.ref a) X.env []) _ _ _
      refine wpAny_handleBy_nil ?_
      obtain ⟨k1, k2, k3, oe, vs, T, oT, ts, he, hz, hd, h1, hr⟩ := id fl3
      unfold PySem.passOn
      refine wpAny_bind (wpAny_field he hd h1 ?_)
      rw [if_neg (show ¬ ((Value.ref T == Value.none) = true) from by simp)]
      have go : wpAny (model X.prog X.w) X.A (setFlight (.ref a) X.env.frame) (fun _ s4 => wpAny (model X.prog X.w) X.A (throw (.ref a) : Sem Flow) (SP X pins Dn) X.xe s4) X.xe { s' with heap := h3 } := by
        rw [hf]
        exact HandSPX.setFlight_upZ fl3 fun h4 hh4 up4 => wpAny_throw (tk _ _ ⟨a, B, sI, pins, σ', H', cls, d, rfl, J, nb, (up.trans up3).trans up4, .inr (.inr (by rw [hs]; exact hh4)), na, os, ag, no rfl⟩)
      first
        | exact wpAny_bind (wpAny_pure (wpAny_bind go))
        | exact wpAny_bind go
  · cases fl with
    | next =>
      obtain ⟨σ', H', J', q⟩ := hsp
      exact wpAny_execs_nil ⟨σ', H', J'.ofTry ok, q⟩
    | brk =>
      obtain ⟨σ', H', J', q⟩ := hsp
      exact ⟨σ', H', J'.ofTry ok, q⟩
    | cont =>
      obtain ⟨σ', H', J', q⟩ := hsp
      exact ⟨σ', H', J'.ofTry ok, q⟩
    | ret u =>
      obtain ⟨v, σ', H', J', r, q⟩ := hsp
      exact ⟨v, σ', H', J'.ofTry ok, r, q⟩
/-- try: body, except x as n: suite -/
theorem pxs_try (i : Nat) (tab : List (Str × Bool)) (hc : Names X x cv) (ht : ∀ nm b, tab.lookup nm = some b → ∃ C, X.mg nm = some (.ref C) ∧ PySem.W.exmOne X.K (.ref C) cv = some b) (tk : Takes X W)
    (hb : ∀ (W2 : WX) (q : List (Addr × Obj)) (xe : Value → Shared → Prop), Takes (X.tr q xe) W2 → PassesOwn (model X.prog X.w) X.A X.env xe → PSs (X.tr q xe) body (TSt ⟨X.K, X.mg, X.w⟩ W2 pn g))
    (hk : ∀ (a : Addr) (q : List (Addr × Obj)), PSs (X.suite a q) (st0 :: su) (TSt ⟨X.K, X.mg, X.w⟩ W0 pn k))
    (hN : X.N.Nodup) (hs : X.stack = X.env :: X.outer := by rfl) (hf : X.env.frame = some X.env.locals := by rfl) (hex : X.ex = [] := by rfl) (hi : X.N[i]? = some n := by rfl) (hln : X.env.kindOf n = some .local := by rfl) (hpn : i ∉ pn := by decide) :
    PXS X W pn (.Try body [.ExceptHandler (some (.Name x np)) (some n) (st0 :: su) pos'] [] [] pos) (sTry i tab g k) :=
  ps_mono (ps_tryx hs hf hex hN hi hln hc tk hb hk) fun Dn σ H ⟨B, G, c, fp, A, P, q⟩ => by
    refine ⟨B, G, c, fp, A, P, ?_⟩
    unfold sTry at q
    cases e : g c with
    | ok fl c' => rw [e] at q; cases fl <;> exact q
    | stuck => rw [e] at q; exact q
    | ex d c' =>
      rw [e] at q
      cases d with
      | obj nm fs ds =>
        intro cl dx σ' G' H' fp' s' A' xr
        have q : ResS ⟨X.K, X.mg, X.w⟩ W B G H (match tab.lookup nm with
          | some true => if fs = [] then Rs.stuck else match k (c'.set i (some (.v (.obj nm ("!" :: fs) (.non :: ds))))) with
            | .ok fl c2 => .ok fl (c2.set i none)
            | _ => .stuck
          | some false => .ex (.obj nm fs ds) c'
          | none => .stuck) Dn := q
        cases el : tab.lookup nm with
        | none => rw [el] at q; exact q.elim
        | some b =>
          rw [el] at q
          obtain ⟨C, hmC, hex2⟩ := ht nm b el
          have ecl : cl = .ref C := by
            have z := xr.1
            have z : X.mg nm = some cl := z
            rw [hmC] at z
            exact (Option.some.inj z).symm
          subst ecl
          refine ⟨b, hex2, fun hb => ?_, fun hb => ?_⟩
          · subst hb
            intro a oe na hz hd
            have q : ResS ⟨X.K, X.mg, X.w⟩ W B G H (if fs = [] then Rs.stuck else match k (c'.set i (some (.v (.obj nm ("!" :: fs) (.non :: ds))))) with
              | .ok fl c2 => .ok fl (c2.set i none)
              | _ => .stuck) Dn := q
            by_cases hfs : fs = []
            · rw [if_pos hfs] at q; exact q.elim
            · rw [if_neg hfs] at q
              rcases xr.2 with z | ⟨d, xs, rfl, hG, rfl, rr⟩
              · exact absurd z hfs
              · have hG0 : G' a = none := A'.fine.fresh na
                have sa : Same G' (upd G' a (exq a oe)) := same_upd hG0
                have A2 := A'.new (u := exq a oe) na
                have hda : d ≠ a := fun z => by rw [z, hG0] at hG; cases hG
                have rv : Rp ⟨X.K, X.mg, X.w⟩ (upd G' a (exq a oe)) (.ref a) (.obj nm ("!" :: xs.map (·.1)) (.non :: ds)) :=
                  .obj (C := C) (dx := d) (fvs := (("!" : Str), V.non) :: xs) (Or.inr ⟨oe, xs, rfl, upd_same, hz.1, hz.2, hd, by rw [upd_ne hda]; exact hG⟩) xr.1 rfl (.cons .non (rr.mono sa))
                obtain ⟨fr, A3⟩ := A2.setV (i := i) rv (P.ne hpn)
                refine ⟨B, _, _, fr, A3, P, ?_⟩
                cases e2 : k (c'.set i (some (.v (.obj nm ("!" :: xs.map (·.1)) (.non :: ds))))) with
                | stuck => rw [e2] at q; exact q.elim
                | ex d2 c2 => rw [e2] at q; exact q.elim
                | ok fl c2 =>
                  rw [e2] at q
                  have s2 : Same G (upd G' a (exq a oe)) := s'.trans sa
                  cases fl with
                  | nx =>
                    intro σ3 G3 H3 fp3 s3 A4
                    obtain ⟨fr4, A5⟩ := A4.del (i := i) (P.ne hpn)
                    exact q _ G3 H3 fr4 (s2.trans s3) A5
                  | bk =>
                    intro σ3 G3 H3 fp3 s3 A4
                    obtain ⟨fr4, A5⟩ := A4.del (i := i) (P.ne hpn)
                    exact q _ G3 H3 fr4 (s2.trans s3) A5
                  | ct =>
                    intro σ3 G3 H3 fp3 s3 A4
                    obtain ⟨fr4, A5⟩ := A4.del (i := i) (P.ne hpn)
                    exact q _ G3 H3 fr4 (s2.trans s3) A5
                  | rt d3 =>
                    intro v3 σ3 G3 H3 fp3 s3 A4 r3
                    obtain ⟨fr4, A5⟩ := A4.del (i := i) (P.ne hpn)
                    exact q v3 _ G3 H3 fr4 (s2.trans s3) A5 r3
          · subst hb
            exact q (.ref C) dx σ' G' H' fp' s' A' xr
      | _ => exact q.elim
end

/-! ### the fields of a caught exception -/
def fget (f : Str) (fs : List Str) (ds : List D) : Option D := (fs.zip ds).lookup f
def eXat (tab : List Str) (f : Str) (g : Env → R D) : Env → R D := fun c => g c >>= fun d => match d with
  | .obj nm fs ds => if nm ∈ tab ∧ fs.head? = some ("!" : Str) then lift (fget f fs.tail ds.tail) else .stuck
  | _ => .stuck
/-- reading -/
def tXat (K : PySem.W.Frag) (f : Str) (te : TE) : TE := fun σ H Q => te σ H fun x H1 => ∃ (a C dx : Addr) (oe : Obj) (xs : List (Str × V)) (v : V), x = .ref a ∧ H1 a = some (exq a oe) ∧ oe.cls = .ref C ∧ oe.dict = some dx ∧ (∃ vs, oe.data = .fields vs) ∧ XfC K C ∧ PySem.W.findIn K (.ref C) f = some none ∧ H1 dx = some (.xd xs) ∧ xs.lookup f = some v ∧ Q v H1
theorem pe_xat {X : Cx} {e : Expr} {te : TE} {pos : Pos} {f : Str} (he : PE X e te) (hb : attributeBase e f X.env (eval e X.env) = eval e X.env := by rfl) : PE X (.Attribute e f pos) (tXat X.K f te) := by
  refine ⟨fun pins s σ H Q I h => attr_of hb (thn (he.run pins s σ H _ I h) fun u s1 hh => ?_)⟩
  obtain ⟨x, H1, I1, rx, a, C, dx, oe, xs, v, rfl, ha, hcls, hdict, ⟨vs, hdat⟩, T, hno, hdx, l, q⟩ := hh
  obtain rfl : u = Value.ref a := rx
  have hget := exq_at I1.hok ha
  have xo : ObjOk X.prog X.w H1 s1.heap dx (.xd xs) := I1.hok dx _ hdx
  obtain ⟨mA, hns, hr⟩ := xo
  obtain ⟨od, ho, hl⟩ := lookIn_ns hns
  obtain ⟨u, hu, ru⟩ := RelO.some_of (v := v) (o := mA f) (by rw [← l]; exact hr f)
  have J : PySem.W.InstAt s1.heap a oe C (some od) := ⟨hget, hcls, by unfold PySem.W.notCls; rw [hdat] <;> rfl, by rw [hdict]; exact ho⟩
  exact HandSPX.exc_get I1.kIn J T.ga T.gg T.exC (PySem.W.findObj_own T.hdC hno rfl (by rw [hl, hu])) (handed_of ru) ⟨v, H1, I1.tok _, ru, q⟩
theorem fget_rp {E : Wd} {G : Hp} {f : Str} {d : D} : ∀ {xs : List (Str × V)} {ds : List D}, RpL E G (xs.map (·.2)) ds → fget f (xs.map (·.1)) ds = some d → ∃ v, xs.lookup f = some v ∧ Rp E G v d := by
  intro xs
  induction xs with
  | nil =>
    intro ds r h
    cases h
  | cons p xs ih =>
    intro ds r h
    cases r with
    | @cons _ _ d0 ds0 r0 r =>
      obtain ⟨y, v⟩ := p
      unfold fget at h
      rw [List.map_cons, List.zip_cons_cons, List.lookup_cons] at h
      rw [List.lookup_cons]
      cases hy : f == y with
      | true =>
        rw [hy] at h
        cases h
        exact ⟨v, rfl, r0⟩
      | false =>
        rw [hy] at h
        exact ih r h
theorem px_xat {X : Cx} {W : WX} {e : Expr} {g : Env → R D} {pos : Pos} (tab : List Str) (f : Str) (ht : ∀ nm ∈ tab, ∀ C, X.mg nm = some (.ref C) → XfC X.K C ∧ PySem.W.findIn X.K (.ref C) f = some none)
    (h : PX X W true e g) (hb : attributeBase e f X.env (eval e X.env) = eval e X.env := by rfl) : PX X W true (.Attribute e f pos) (eXat tab f g) :=
  pe_mono (pe_xat h hb) fun σ H Q ⟨B, G, c, fp, A, q⟩ => tx_seq A q fun d ed v G1 H1 s1 t1 A1 r1 q1 => by
    have r1 : Rp ⟨X.K, X.mg, X.w⟩ G1 v d := r1
    cases d with
    | obj nm fs ds =>
      have q1 : Res ⟨X.K, X.mg, X.w⟩ W B c σ fp G1 H1 (if nm ∈ tab ∧ fs.head? = some ("!" : Str) then lift (fget f fs.tail ds.tail) else R.stuck) (Post ⟨X.K, X.mg, X.w⟩ B c σ fp G H true Q) := q1
      by_cases hm : nm ∈ tab ∧ fs.head? = some ("!" : Str)
      · rw [if_pos hm] at q1
        obtain ⟨d2, e2, p⟩ := Res.lift q1
        cases r1 with
        | @obj a C dx _ fvs _ _ hO hC hfs rr =>
          subst hfs
          obtain ⟨T, hn⟩ := ht nm hm.1 C hC
          rcases hO with ⟨hO, hh⟩ | ⟨oe, xs, rfl, hG, h2, h3, h4, h5⟩
          · have hm2 := hm.2
            rw [List.head?_map] at hm2
            cases hh0 : fvs.head? with
            | none => rw [hh0] at hm2; cases hm2
            | some p0 =>
              rw [hh0] at hm2
              exact absurd (Option.some.inj hm2) (hh p0 (by rw [hh0]; rfl))
          · cases rr with
            | cons r0 rr =>
              obtain ⟨v2, l2, rv⟩ := fget_rp (xs := xs) rr e2
              exact ⟨a, C, dx, oe, xs, v2, rfl, A1.fine.le _ _ hG, h2, h3, h4, T, hn, A1.fine.le _ _ h5, l2, p v2 G1 H1 s1 t1 A1 rv⟩
      · rw [if_neg hm] at q1; exact q1.elim
    | _ => exact q1.elim
end VS

/-! VS: what the text says of the program's exceptions. -/
namespace VS
open PySem PySem.Spec PyProof.Rows L2
/-- the clause's class catches these -/
def Ctch (K : PySem.W.Frag) (mg : Str → Option Value) (x : Str) (tab : List (Str × Bool)) : Prop := ∃ B, mg x = some (.ref B) ∧ ∀ nm b, tab.lookup nm = some b → ∃ C, mg nm = some (.ref C) ∧ PySem.W.exmOne K (.ref C) (.ref B) = some b
def CtB (K : PySem.W.Frag) (mg : Str → Option Value) (B : Addr) (tab : List (Str × Bool)) : Prop := ∀ nm b, tab.lookup nm = some b → ∃ C, mg nm = some (.ref C) ∧ PySem.W.exmOne K (.ref C) (.ref B) = some b
section
variable {K : PySem.W.Frag} {mg : Str → Option Value} {A B : Addr} {nm x f : Str} {b : Bool} {tab : List (Str × Bool)} {tb : List Str}
theorem exm_sub {cd : ClassData} (h1 : PySem.W.subIn K (.ref B) (.type "BaseException") = some true) (h2 : PySem.W.clsIn K B = some cd) (h3 : PySem.W.typeIn K (.ref B) = some (.type "type")) (h4 : PySem.W.subIn K (.ref A) (.ref B) = some b) : PySem.W.exmOne K (.ref A) (.ref B) = some b := by
  unfold PySem.W.exmOne
  rw [h1, if_pos (by decide)]
  show (if ((PySem.W.clsIn K B).isSome && PySem.W.typeIn K (.ref B) == some (.type "type")) = true then PySem.W.subIn K (.ref A) (.ref B) else none) = _
  rw [h2, h3, if_pos (show ((some cd).isSome && (some (Value.type "type") == some (Value.type "type"))) = true from by rw [Option.isSome_some, Bool.true_and]; decide), h4]
theorem ctb_nil : CtB K mg B [] := fun nm b h => by cases h
theorem ctb_cons (h : mg nm = some (.ref A)) (e : PySem.W.exmOne K (.ref A) (.ref B) = some b) (t : CtB K mg B tab) : CtB K mg B ((nm, b) :: tab) := fun n c z => by
  rw [List.lookup_cons] at z
  cases hn : n == nm with
  | true =>
    rw [hn] at z
    have z : some b = some c := z
    cases z
    have : n = nm := by simpa using hn
    subst this
    exact ⟨A, h, e⟩
  | false => rw [hn] at z; exact t n c z
theorem ctch_mk (h : mg x = some (.ref B)) (t : CtB K mg B tab) : Ctch K mg x tab := ⟨B, h, t⟩
def Xfs (K : PySem.W.Frag) (mg : Str → Option Value) (nm f : Str) : Prop := ∀ C, mg nm = some (.ref C) → XfC K C ∧ PySem.W.findIn K (.ref C) f = some none
theorem xf_nil : ∀ nm ∈ ([] : List Str), Xfs K mg nm f := fun nm h => nomatch h
theorem xf_cons (h : Xfs K mg nm f) (t : ∀ n ∈ tb, Xfs K mg n f) : ∀ n ∈ nm :: tb, Xfs K mg n f := fun n hn => by
  rcases List.mem_cons.mp hn with rfl | z
  · exact h
  · exact t n z
theorem xf_mk (h : mg nm = some (.ref A)) (ga : PySem.W.findIn K (.ref A) "__getattribute__" = some (some (.builtin "BaseException.__getattribute__"))) (gg : PySem.W.findIn K (.ref A) "__getattr__" = some none) (ex : PySem.W.subIn K (.ref A) (.type "BaseException") = some true) (hd : PySem.W.hasDictIn K A = true) (no : PySem.W.findIn K (.ref A) f = some none) : Xfs K mg nm f := fun C hC => by
  rw [h] at hC
  cases hC
  exact ⟨⟨ga, gg, ex, hd⟩, no⟩
end
theorem pxs_tryT {X : Cx} {x n : Str} {body su : List Stmt} {st0 : Stmt} {np pos pos' : Pos} {W : WX} {pn : List Nat} {g k : Env → Rs} (i : Nat) {tab : List (Str × Bool)} (hT : Ctch X.K X.mg x tab) (tk : Takes X W)
    (hb : ∀ (W2 : WX) (q : List (Addr × Obj)) (xe : Value → Shared → Prop), Takes (X.tr q xe) W2 → PassesOwn (model X.prog X.w) X.A X.env xe → PXSs (X.tr q xe) W2 pn body g)
    (hk : ∀ (a : Addr) (q : List (Addr × Obj)), PXSs (X.suite a q) W0 pn (st0 :: su) k)
    (hN : X.N.Nodup) (hg : Gl X x := by rfl) (hdb : (x == ("__debug__" : Str)) = false := by decide) (hs : X.stack = X.env :: X.outer := by rfl) (hf : X.env.frame = some X.env.locals := by rfl) (hex : X.ex = [] := by rfl) (hi : X.N[i]? = some n := by rfl) (hln : X.env.kindOf n = some .local := by rfl) (hpn : i ∉ pn := by decide) :
    PXS X W pn (.Try body [.ExceptHandler (some (.Name x np)) (some n) (st0 :: su) pos'] [] [] pos) (sTry i tab g k) := by
  obtain ⟨B, hB, ht⟩ := hT
  exact pxs_try (cv := .ref B) i tab ⟨hg, hdb, .inl hB⟩ ht tk hb hk hN hs hf hex hi hln hpn
def sinB (sc : Scope) (arg : Str) : Bool := decide (sc.names.lookup ("super" : Str) = some .globalImplicit) && decide (sc.names.lookup ("__class__" : Str) = some .free) && decide (sc.names.lookup ("self" : Str) = some .local) && decide (sc.names.lookup arg = some .local) &&
  decide (sc.kind = .function) && !sc.isCoroutine && !sc.isGenerator && sc.names.all (fun y => !decide (y.2 = .cell)) && sc.names.all (fun y => !decide (y.2 = .free) || decide (y.1 = ("__class__" : Str))) && !(arg == ("__debug__" : Str)) && !(arg == ("__classdict__" : Str)) && !decide (arg = ("self" : Str))
theorem xcal_mk {P : Program} {w : World} {K : PySem.W.Frag} {mg : Str → Option Value} {base : Heap} {x attr arg text nm q : Str} {C f N cda cc : Addr} {bs bm sub : List Value} {sn : List Str} {ab : Bool} {col : Option Bool} {dd : Option Addr} {k0 k1 k2 k3 k5 : Option Value}
    {name qual : Str} {params : Arguments} {scope : Scope} {dV kV doc pm ct oc ccl cl : Value} {an od cdd cld : Option Addr} {osl ccs csl : Array (Option Value)} {vs : Array Value} {file : Str} {tf : Tok} {p1 p2 p3 p4 p5 p6 p7 p8 p9 p10 : Pos} {j : Nat}
    (m : mg x = some (.ref C)) (xl : K.lookup C = some (excClassObj nm q C N bs bm true sn sub ab col dd k0 k1 k2 k3 k5 "ValueError.__new__")) (xr : PySem.HandSPX.refsVE bm = true) (xsa : PySem.W.findIn K (.ref C) "__setattr__" = some (some (.builtin "object.__setattr__")))
    (xex : PySem.W.subIn K (.ref C) (.type "BaseException") = some true) (xty : PySem.W.typeIn K (.ref C) = some (.type "type")) (xkp : PySem.W.keepIn K (.ref C) = true) (xno : PySem.W.findIn K (.ref C) attr = some none) (xve : PySem.W.subIn K (.ref C) (.type "ValueError") = some true)
    (xop : PySem.W.nsIn K cStatics "thirdparty.any" = some none) (xsu : mg "super" = none) (xsi : PySem.W.ks_superIn K C C "__init__" = some (some (.builtin "ValueError.__init__"))) (xin : PySem.W.findIn K (.ref C) "__init__" = some (some (.ref f))) (xti : PySem.W.typeIn K (.ref f) = some (.type "function"))
    (xlk : K.lookup f = some ⟨oc, od, .func (PySem.W.ksFn name qual params [.Expr (.Call (.Attribute (.Call (.Name "super" p1) [] [] p2) "__init__" p3) [.Constant (.str text) j p4] [] p5) p6, .Assign [.Attribute (.Name "self" p7) attr p8] (.Name arg p9) p10] scope dV kV doc pm an (.ref cda) ct cc), osl⟩)
    (xcd : PySem.W.codeIn K (.ref cda) qual = true) (xcode : K.lookup cda = some ⟨ccl, cdd, .fields vs, ccs⟩) (xvs : vs[2]? = some (.str file tf)) (xfile : ((P.main.file : Str) == file) = true) (xtop : (P.main.scope.names.lookup ("super" : Str)).isSome = false)
    (xcell : K.lookup cc = some ⟨cl, cld, .cell (some (.ref C)), csl⟩) (xsc : sinB scope arg = true) (xhp : (params.posonlyargs ++ params.args).head?.map (·.arg) = some ("self" : Str)) (xpl : (p3.endLine == p5.line) = true)
    (xbd : ∀ us : List Value, us.length = 2 → bindArgs (PySem.W.ksFn name qual params [.Expr (.Call (.Attribute (.Call (.Name "super" p1) [] [] p2) "__init__" p3) [.Constant (.str text) j p4] [] p5) p6, .Assign [.Attribute (.Name "self" p7) attr p8] (.Name arg p9) p10] scope dV kV doc pm an (.ref cda) ct cc) ⟨us, []⟩ = pure ([("self" : Str), arg].zip us)) :
    XCal P w K mg base x attr := by
  have T : OexC K C := ⟨⟨_, _, _, _, _, _, _, _, _, _, _, _, _, _, _, xl, xr⟩, xsa, xex, xty, xkp⟩
  unfold sinB at xsc
  simp only [Bool.and_eq_true, decide_eq_true_eq, Bool.not_eq_true', List.all_eq_true, Bool.or_eq_true, decide_eq_false_iff_not] at xsc
  obtain ⟨⟨⟨⟨⟨⟨⟨⟨⟨⟨⟨s1, s2⟩, s3⟩, s4⟩, s5⟩, s6⟩, s7⟩, s8⟩, s9⟩, s10⟩, s11⟩, s12⟩ := xsc
  cases hh : (params.posonlyargs ++ params.args).head? with
  | none => rw [hh] at xhp; cases xhp
  | some ar =>
    rw [hh] at xhp
    have har : ar.arg = ("self" : Str) := Option.some.inj xhp
    have hm : ∃ cd, PySem.W.clsIn K C = some cd ∧ PySem.W.alongIn K "__init__" ((cd.mro.dropWhile (· != .ref C)).drop 1) = some (some (.builtin "ValueError.__init__")) := by
      unfold PySem.W.ks_superIn at xsi
      cases hc : PySem.W.clsIn K C with
      | none => rw [hc] at xsi; cases xsi
      | some cd => rw [hc] at xsi; exact ⟨cd, rfl, xsi⟩
    have S : SIni P K mg C f _ attr arg text := ⟨T, xno, xve, xop, xsu, s12, xtop, hm, ⟨name, qual, params, scope, dV, kV, doc, pm, ct, oc, ccl, cl, an, od, cdd, cld, osl, ccs, csl, cda, cc, vs, file, tf, ar, p1, p2, p3, p4, p5, p6, p7, p8, p9, p10, j, rfl, xlk, xcd, hh, har, xcode, xvs, xfile, xcell, s1, s2, s3, s4, s5, s6, s7, s8, fun y hy e => (s9 y hy).elim (fun z => absurd e z) id, s10, s11, xpl⟩⟩
    exact ⟨C, f, _, arg, T, xin, xti, fn_sinit S, .all xbd, m⟩
@[simp] theorem eCallX_def (m : List D → R D) (gs : Env → R (List D)) (c : Env) : eCallX m gs c = gs c >>= fun ds => m ds := (rfl)
@[simp] theorem sRaise_def (x attr : Str) (g : Env → R D) (c : Env) : sRaise x attr g c = (g c).st c fun d => .ex (.obj x [attr] [d]) c := (rfl)
end VS

/-! VS: objects that never change once they are made: making, fields, methods. -/
namespace VS
open PySem PySem.Spec PyProof.Rows L2
/-! ### fields -/
def fgetO (f : Str) (fs : List Str) (ds : List D) : Option D := (fs.zip ds).lookup f
def eAtt (tab : List Str) (f : Str) (g : Env → R D) : Env → R D := fun c => g c >>= fun d => match d with
  | .obj nm fs ds => if nm ∈ tab ∧ fs.head? ≠ some ("!" : Str) then lift (fget f fs ds) else .stuck
  | _ => .stuck
def Ats (K : PySem.W.Frag) (mg : Str → Option Value) (nm f : Str) : Prop := ∀ C, mg nm = some (.ref C) → Cls K C ∧ NoAttr K C f
theorem at_nil {K : PySem.W.Frag} {mg : Str → Option Value} {f : Str} : ∀ nm ∈ ([] : List Str), Ats K mg nm f := fun nm h => nomatch h
theorem at_cons {K : PySem.W.Frag} {mg : Str → Option Value} {f nm : Str} {tb : List Str} (h : Ats K mg nm f) (t : ∀ n ∈ tb, Ats K mg n f) : ∀ n ∈ nm :: tb, Ats K mg n f := fun n hn => by
  rcases List.mem_cons.mp hn with rfl | z
  · exact h
  · exact t n z
section
variable {X : Cx} {W : WX} {pn : List Nat} {e : Expr} {g : Env → R D} {pos : Pos}
theorem px_att (tab : List Str) (f : Str) (ht : ∀ nm ∈ tab, Ats X.K X.mg nm f) (h : PX X W true e g) (hb : attributeBase e f X.env (eval e X.env) = eval e X.env := by rfl) : PX X W true (.Attribute e f pos) (eAtt tab f g) :=
  pe_mono (pe_fld h hb) fun σ H Q ⟨B, G, c, fp, A, q⟩ => tx_seq A q fun d ed v G1 H1 s1 t1 A1 r1 q1 => by
    have r1 : Rp ⟨X.K, X.mg, X.w⟩ G1 v d := r1
    cases d with
    | obj nm fs ds =>
      have q1 : Res ⟨X.K, X.mg, X.w⟩ W B c σ fp G1 H1 (if nm ∈ tab ∧ fs.head? ≠ some ("!" : Str) then lift (fget f fs ds) else R.stuck) (Post ⟨X.K, X.mg, X.w⟩ B c σ fp G H true Q) := q1
      by_cases hm : nm ∈ tab ∧ fs.head? ≠ some ("!" : Str)
      · rw [if_pos hm] at q1
        obtain ⟨d2, e2, p⟩ := Res.lift q1
        cases r1 with
        | @obj a C dx _ fvs _ _ hO hC hfs rr =>
          subst hfs
          obtain ⟨T, hn⟩ := ht nm hm.1 C hC
          rcases hO with ⟨hO, hh⟩ | ⟨oe, xs, rfl, hG, h2, h3, h4, h5⟩
          · obtain ⟨v2, l2, rv⟩ := fget_rp (xs := fvs) rr e2
            exact ⟨a, C, dx, fvs, v2, rfl, A1.fine.le _ _ hO, T, hn, l2, p v2 G1 H1 s1 t1 A1 rv⟩
          · exact absurd rfl hm.2
      · rw [if_neg hm] at q1; exact q1.elim
    | _ => exact q1.elim
end
/-! ### methods -/
structure MCal (P : Program) (w : World) (K : PySem.W.Frag) (mg : Str → Option Value) (base : Heap) (k : Nat) (nm m : Str) (n : Nat) (M : List D → R D) : Prop where
  ex : ∃ C f fd ps, ps.length = n ∧ FnM P w K mg base k f fd ps M ∧ mg nm = some (.ref C) ∧ Cls K C ∧ Meth K C m f ∧ L2.Binds K fd ps []
def eMth (tab : List (Str × (List D → R D))) (m : Str) (go : Env → R D) (gs : Env → R (List D)) : Env → R D := fun c => noX (go c) >>= fun o => match o with
  | .obj nm fs vs => if fs.head? ≠ some ("!" : Str) ∧ m ∉ fs then (match tab.lookup nm with | some M => gs c >>= fun ds => noX (M (.obj nm fs vs :: ds)) | none => .stuck) else .stuck
  | _ => .stuck
theorem mem_lookup {α : Type} {nm : Str} {M : α} : ∀ {tab : List (Str × α)}, tab.lookup nm = some M → (nm, M) ∈ tab
  | (x, y) :: tab, h => by
    rw [List.lookup_cons] at h
    cases hx : nm == x with
    | true =>
      rw [hx] at h
      have h : some y = some M := h
      cases h
      have : nm = x := by simpa using hx
      rw [this]
      exact List.mem_cons_self
    | false => rw [hx] at h; exact List.mem_cons_of_mem _ (mem_lookup h)
theorem lookup_none {f : Str} : ∀ {xs : List (Str × V)}, f ∉ xs.map (·.1) → xs.lookup f = none
  | [], _ => rfl
  | (y, v) :: xs, h => by
    rw [List.lookup_cons]
    have h1 : f ≠ y := fun e => h (by rw [e]; exact List.mem_cons_self)
    have : (f == y) = false := by simpa using h1
    rw [this]
    exact lookup_none fun z => h (List.mem_cons_of_mem _ z)
section
variable {X : Cx} {W : WX} {k j n : Nat} {m : Str} {apos pos : Pos} {o e : Expr} {es : List Expr} {go : Env → R D} {gs : Env → R (List D)}
theorem mth_in {tab : List (Str × (List D → R D))} {B : Bs} {G H : Hp} {c : Env} {σ : L2.St} {fp : List Addr} {Q : VK} (q : Res ⟨X.K, X.mg, X.w⟩ W B c σ fp G H (eMth tab m go gs c) (Post ⟨X.K, X.mg, X.w⟩ B c σ fp G H true Q)) :
    ∃ nm fs vs M, go c = .ok (.obj nm fs vs) ∧ fs.head? ≠ some ("!" : Str) ∧ m ∉ fs ∧ (nm, M) ∈ tab ∧ Res ⟨X.K, X.mg, X.w⟩ W B c σ fp G H (gs c >>= fun ds => noX (M (.obj nm fs vs :: ds))) (Post ⟨X.K, X.mg, X.w⟩ B c σ fp G H true Q) := by
  unfold eMth at q
  cases hg : go c with
  | stuck => rw [hg] at q; exact q.elim
  | ex x => rw [hg] at q; exact q.elim
  | ok d =>
    rw [hg, noX_ok, ok_bind] at q
    cases d with
    | obj nm fs vs =>
      have q : Res ⟨X.K, X.mg, X.w⟩ W B c σ fp G H (if fs.head? ≠ some ("!" : Str) ∧ m ∉ fs then (match tab.lookup nm with | some M => gs c >>= fun ds => noX (M (.obj nm fs vs :: ds)) | none => R.stuck) else R.stuck) (Post ⟨X.K, X.mg, X.w⟩ B c σ fp G H true Q) := q
      by_cases hh : fs.head? ≠ some ("!" : Str) ∧ m ∉ fs
      · rw [if_pos hh] at q
        cases hl : tab.lookup nm with
        | none => rw [hl] at q; exact q.elim
        | some M => rw [hl] at q; exact ⟨nm, fs, vs, M, rfl, hh.1, hh.2, mem_lookup hl, q⟩
      · rw [if_neg hh] at q; exact q.elim
    | _ => exact q.elim
theorem px_mth {pl : Sem Bool} (tab : List (Str × (List D → R D))) (hC : ∀ p ∈ tab, MCal X.prog X.w X.K X.mg X.base k p.1 m n p.2) (hr : Room j X.A) (hkj : k ≤ j) (ho : PX X W true o go) (ha : PXA X W true (e :: es) gs) (hn : ∀ c ds, gs c = .ok ds → ds.length + 1 = n)
    (hst : starEach (e :: es) X.env = (false, eval e X.env) :: starEach es X.env := by rfl) (hpl : (backTo pos (starEach es X.env)).any (·.1) = false := by rfl)
    (ht : eval (.Call (.Attribute o m apos) (e :: es) [] pos) X.env = (do
      let ov ← eval o X.env
      standAt apos.atName
      let (f, first) ← holding [ov] (getMethod ov m pl)
      callWith pos f first (backTo pos (starEach (e :: es) X.env)) (backToKw pos (keywordEach [] X.env))) := by rfl) :
    PX X W true (.Call (.Attribute o m apos) (e :: es) [] pos) (eMth tab m go gs) := by
  refine ⟨fun pins s σ H Q I h => ?_⟩
  obtain ⟨B, G, c, fp, A, q⟩ := h
  obtain ⟨nm, fs, vs, M, hg, hh, hm, hin, q⟩ := mth_in q
  obtain ⟨C, f, fd, ps, hpl0, F, hmg, hcls, hmeth, hb⟩ := (hC _ hin).ex
  subst hpl0
  refine (pe_meth (E := E0) ho hcls hmeth F (hr.mono hkj) hb .nil pass0 ha hst hpl ht).run pins s σ H Q I ?_
  have q0 : Res ⟨X.K, X.mg, X.w⟩ W B c σ fp G H (go c >>= fun o => gs c >>= fun ds => noX (M (o :: ds))) (Post ⟨X.K, X.mg, X.w⟩ B c σ fp G H true Q) := by rw [hg]; exact q
  refine tx_seq A q0 fun d ed v G1 H1 s1 t1 A1 r1 q1 => ?_
  rw [hg] at ed
  cases ed
  have r1 : Rp ⟨X.K, X.mg, X.w⟩ G1 v (.obj nm fs vs) := r1
  have r1' := r1
  cases r1 with
  | @obj a C2 dx _ fvs _ _ hO hC2 hfs rr =>
    subst hfs
    have hmg : X.mg nm = some (.ref C) := hmg
    have hC2 : X.mg nm = some (.ref C2) := hC2
    rw [hmg] at hC2
    cases hC2
    rcases hO with ⟨hO, _⟩ | ⟨oe, xs, rfl, _⟩
    · refine ⟨a, dx, fvs, rfl, A1.fine.le _ _ hO, lookup_none hm, txa_seq A1 q1 fun ds e2 ws G2 H2 s2 t2 A2 r2 q2 => ?_⟩
      rw [List.append_nil]
      have r2 : RpL ⟨X.K, X.mg, X.w⟩ G2 ws ds := r2
      exact call_true F A2 (.cons (r1'.mono s2) r2) (by rw [List.length_cons]; exact hn c ds e2) (Res.grow (r := noX (M (.obj nm (fvs.map (·.1)) vs :: ds))) q2 (Same.refl _) (Same.refl _) fun d _ z => z.grow (s1.trans s2) (t1.trans t2))
    · exact absurd rfl hh
theorem px_mth0 {pl : Sem Bool} (tab : List (Str × (List D → R D))) (hC : ∀ p ∈ tab, MCal X.prog X.w X.K X.mg X.base k p.1 m n p.2) (hr : Room j X.A) (hkj : k ≤ j) (ho : PX X W true o go) (hn : 1 = n)
    (ht : eval (.Call (.Attribute o m apos) [] [] pos) X.env = (do
      let ov ← eval o X.env
      standAt apos.atName
      let (f, first) ← holding [ov] (getMethod ov m pl)
      callWith pos f first (backTo pos (starEach [] X.env)) (backToKw pos (keywordEach [] X.env))) := by rfl) :
    PX X W true (.Call (.Attribute o m apos) [] [] pos) (eMth tab m go eNil) := by
  refine ⟨fun pins s σ H Q I h => ?_⟩
  obtain ⟨B, G, c, fp, A, q⟩ := h
  obtain ⟨nm, fs, vs, M, hg, hh, hm, hin, q⟩ := mth_in q
  obtain ⟨C, f, fd, ps, hpl0, F, hmg, hcls, hmeth, hb⟩ := (hC _ hin).ex
  subst hpl0
  refine (pe_meth0 (E := E0) ho hcls hmeth F (hr.mono hkj) hb .nil pass0 ht).run pins s σ H Q I ?_
  have q0 : Res ⟨X.K, X.mg, X.w⟩ W B c σ fp G H (go c >>= fun o => noX (M [o])) (Post ⟨X.K, X.mg, X.w⟩ B c σ fp G H true Q) := by rw [hg]; exact q
  refine tx_seq A q0 fun d ed v G1 H1 s1 t1 A1 r1 q1 => ?_
  rw [hg] at ed
  cases ed
  have r1 : Rp ⟨X.K, X.mg, X.w⟩ G1 v (.obj nm fs vs) := r1
  have r1' := r1
  cases r1 with
  | @obj a C2 dx _ fvs _ _ hO hC2 hfs rr =>
    subst hfs
    have hmg : X.mg nm = some (.ref C) := hmg
    have hC2 : X.mg nm = some (.ref C2) := hC2
    rw [hmg] at hC2
    cases hC2
    rcases hO with ⟨hO, _⟩ | ⟨oe, xs, rfl, _⟩
    · refine ⟨a, dx, fvs, rfl, A1.fine.le _ _ hO, lookup_none hm, ?_⟩
      show spM _ _ M (.ref a :: ([] ++ [])) H1 Q E0
      exact call_true F A1 (.cons r1' .nil) hn (Res.grow (r := noX (M [.obj nm (fvs.map (·.1)) vs])) q1 (Same.refl _) (Same.refl _) fun d _ z => z.grow s1 t1)
    · exact absurd rfl hh
end
section
variable {P : Program} {w : World} {K : PySem.W.Frag} {mg : Str → Option Value} {base : Heap}
theorem MCal.mono {nm m : Str} {n k j : Nat} {M : List D → R D} (C : MCal P w K mg base k nm m n M) (h : k ≤ j) : MCal P w K mg base j nm m n M := by
  obtain ⟨C, f, fd, ps, hl, F, r⟩ := C.ex
  exact ⟨C, f, fd, ps, hl, F.mono h, r⟩
theorem mc_nil {m : Str} {n k : Nat} : ∀ p ∈ ([] : List (Str × (List D → R D))), MCal P w K mg base k p.1 m n p.2 := fun p h => nomatch h
theorem mc_cons {nm m : Str} {n k : Nat} {M : List D → R D} {tab : List (Str × (List D → R D))} (h : MCal P w K mg base k nm m n M) (t : ∀ p ∈ tab, MCal P w K mg base k p.1 m n p.2) : ∀ p ∈ (nm, M) :: tab, MCal P w K mg base k p.1 m n p.2 := fun p hp => by
  rcases List.mem_cons.mp hp with rfl | z
  · exact h
  · exact t p z
/-- where a method stands -/
structure MDef (K : PySem.W.Frag) (mg : Str → Option Value) (nm m qual : Str) (st : Stmt) : Prop where
  ex : ∃ C f fd, mg nm = some (.ref C) ∧ Cls K C ∧ Meth K C m f ∧ Fun K m qual st f fd
theorem mcal_of {nm m qual : Str} {st : Stmt} {N ps : List Str} {k : Nat} {body : Env → Rs} (T : MDef K mg nm m qual st) (S : FnScope N ps (defScope st))
    (hb : ∀ (kV doc pm : Value) (an : Option Addr) (cdv ct : Value) (us : List Value), us.length = ps.length → bindArgs (PySem.W.fnOf m qual (defArgs st) (defBody st) (defScope st) .none kV doc pm an cdv ct) ⟨us, []⟩ = pure (ps.zip us))
    (hbody : ∀ (f : Addr) (cdv : Value) (A : Around) (outer : List PySem.Env) (s : Shared) (H : Hp) (E : XK), Room k (A.deeper (envOfC qual (defScope st) s.heap.objs.size f cdv)) → PXSs (cxOf CX0 P w K mg base N qual (defScope st) f cdv A outer s H E).nox W0 [] (defBody st) body) :
    MCal P w K mg base (k + 1) nm m ps.length (runF N.length body) := by
  obtain ⟨C, f, fd, hm, hc, hme, F⟩ := T.ex
  exact ⟨C, f, fd, ps, rfl, fnm_of F S (hbody f), hm, hc, hme, F.binds hb⟩
end
end VS

/-! VS: objects are made. -/
namespace VS
open PySem PySem.Spec PyProof.Rows L2
/-- the fields that an `__init__` sets, in order -/
def iniL : List (Str × (Env → R D)) → Env → R (List (Str × D))
  | [], _ => .ok []
  | (f, g) :: r, c => noX (g c) >>= fun d => iniL r c >>= fun ps => .ok ((f, d) :: ps)
def runI (n : Nat) (r : List (Str × (Env → R D))) (ds : List D) : R (List (Str × D)) := iniL r (none :: (ds.map (fun d => some (O.v d)) ++ List.replicate (n - 1 - ds.length) none))
def spN (E : Wd) (C : Addr) (n : Nat) (m : List D → R (List (Str × D))) : Sp := fun vs H Q _ => ∃ G a dx ws ds, vs = V.ref a :: ws ∧ ws.length = n ∧ Same G H ∧ G a = none ∧ (∀ b u, H b = some u → isT u = true → G b = some u) ∧ H a = some (.ins C dx []) ∧ RpL E G ws ds ∧
  match m ds with
  | .ok ps => ∀ xs G' H', Same G G' → Same G' H' → (∀ b o, b ≠ a → H b = some o → H' b = some o) → (∀ b, H b ≠ none → G b = none → G' b = none) → (∀ b u, H' b = some u → isT u = true → G' b = some u) → H' a = some (.ins C dx xs) → xs.map (·.1) = ps.map (·.1) → RpL E G' (xs.map (·.2)) (ps.map (·.2)) → Q .non H'
  | _ => False
section
variable {E : Wd} {B : Bs} {G H : Hp} {c : Env} {σ : L2.St} {fp : List Addr}
theorem Abs.pokeBr {p : Addr} {u : HO} (A : Abs E B G H c σ fp) (hf : p ∉ fp) (hG : G p = none) (hb : B.br p) (h0 : B.H0 p ≠ none) (hu : isT u = false) : Abs E B G (upd H p u) c σ fp := by
  refine ⟨⟨fun a o e n => ?_, fun a e => ?_, A.fine.x, fun a o e => ?_, fun a o e k => ?_⟩, A.cells.keep (Same.refl _) fun q hq w e => ?_, A.nd, A.fresh, A.pin⟩
  · have ha : a ≠ p := fun z => by subst z; exact n hb
    rw [upd_ne ha]; exact A.fine.base a o e n
  · by_cases ha : a = p
    · subst ha; rw [upd_same] at e; cases e
    · rw [upd_ne ha] at e; exact A.fine.there a e
  · have ha : a ≠ p := fun z => by subst z; rw [hG] at e; cases e
    rw [upd_ne ha]; exact A.fine.le a o e
  · by_cases ha : a = p
    · subst ha; rw [upd_same] at e; cases e; rw [hu] at k; cases k
    · rw [upd_ne ha] at e; exact A.fine.tup a o e k
  · have hq' : q ≠ p := fun z => hf (z ▸ hq)
    rw [upd_ne hq']; exact e
end
theorem putF_new {f : Str} {y : V} : ∀ {xs : List (Str × V)}, f ∉ xs.map (·.1) → putF f y xs = xs ++ [(f, y)]
  | [], _ => rfl
  | (g, x) :: r, h => by
    have h1 : g ≠ f := fun e => h (by rw [e]; exact List.mem_cons_self)
    rw [putF, if_neg h1, putF_new fun z => h (List.mem_cons_of_mem _ z)]; rfl
/-- the reading of an `__init__`'s body from some statement on -/
def tI (E : Wd) (C : Addr) (r : List (Str × (Env → R D))) : TS := fun Dn σ H => ∃ B G c fp a dx xs, Abs E B G H c σ fp ∧ B.br a ∧ B.H0 a ≠ none ∧ B.G0 a = none ∧ σ[0]? = some (some (V.ref a)) ∧ a ∉ fp ∧ H a = some (.ins C dx xs) ∧ xs.length + r.length ≤ 900 ∧ (∀ p ∈ r, p.1 ∉ xs.map (·.1)) ∧ (r.map (·.1)).Nodup ∧
  match iniL r c with
  | .ok ps => ∀ ys G' H', Same G G' → Abs E B G' H' c σ fp → H' a = some (.ins C dx (xs ++ ys)) → ys.map (·.1) = ps.map (·.1) → RpL E G' (ys.map (·.2)) (ps.map (·.2)) → Dn.nx σ H'
  | _ => False
section
variable {X : Cx} {C : Addr} {f : Str} {e : Expr} {g : Env → R D} {p p' pos : Pos} {st : List Stmt} {r : List (Str × (Env → R D))}
theorem pi_nil : PSs X [] (tI ⟨X.K, X.mg, X.w⟩ C []) := pss_mono pss_nil fun Dn σ H h => by
  obtain ⟨B, G, c, fp, a, dx, xs, A, _, _, _, _, _, hH, _, _, _, q⟩ := h
  exact q [] G H (Same.refl _) A (by rw [List.append_nil]; exact hH) rfl .nil
theorem pi_cons (hc : Cls X.K C) (ha : NoAttr X.K C f) (he : PX X W0 true e g) (h : PSs X st (tI ⟨X.K, X.mg, X.w⟩ C r)) (hN : X.N[0]? = some ("self" : Str) := by rfl) (hv : Vis X.env.scope ("self" : Str) := by first | exact Or.inl rfl | exact Or.inr (Or.inl rfl) | exact Or.inr (Or.inr rfl)) (hs : swapsWith e (some (.Attribute (.Name "self" p) f p')) pos.line X.env = pure false := by rfl) :
    PSs X (.Assign [.Attribute (.Name "self" p) f p'] e pos :: st) (tI ⟨X.K, X.mg, X.w⟩ C ((f, g) :: r)) :=
  pss_mono (pss_cons (ps_fld (pe_var hN hv) he hs) h) fun Dn σ H h => by
    obtain ⟨B, G, c, fp, a, dx, xs, A, hbr, h0, g0, hσ, hfp, hH, hl, hnew, hnd, q⟩ := h
    rw [iniL] at q
    cases hg : g c with
    | stuck => rw [hg] at q; exact q.elim
    | ex x => rw [hg] at q; exact q.elim
    | ok d =>
      rw [hg, noX_ok, ok_bind] at q
      cases hr : iniL r c with
      | stuck => rw [hr] at q; exact q.elim
      | ex x => rw [hr] at q; exact q.elim
      | ok ps =>
        rw [hr, ok_bind] at q
        refine ⟨B, G, c, fp, A, ?_⟩
        rw [hg]
        intro v G1 H1 s1 t1 A1 r1
        have r1 : Rp ⟨X.K, X.mg, X.w⟩ G1 v d := r1
        have hH1 := t1 a _ hH
        have hG1 : G1 a = none := A1.fine.x a h0 g0
        have hf : f ∉ xs.map (·.1) := hnew (f, g) List.mem_cons_self
        rw [List.length_cons] at hl
        obtain ⟨n1, n2⟩ := List.nodup_cons.mp hnd
        refine ⟨.ref a, hσ, a, C, dx, xs, rfl, hH1, hc, ha, by omega, ?_⟩
        rw [putF_new hf]
        refine ⟨B, G1, c, fp, a, dx, xs ++ [(f, v)], A1.pokeBr hfp hG1 hbr h0 rfl, hbr, h0, g0, hσ, hfp, upd_same, by rw [List.length_append, List.length_singleton]; omega, fun p hp => ?_, n2, ?_⟩
        · rw [List.map_append]
          intro z
          rcases List.mem_append.mp z with z | z
          · exact hnew p (List.mem_cons_of_mem _ hp) z
          · have e : p.1 = f := List.mem_singleton.mp z
            exact n1 (List.mem_map.mpr ⟨p, hp, e⟩)
        · rw [hr]
          intro ys G' H' s' A' hH' hn hR
          refine q ((f, v) :: ys) G' H' (s1.trans s') A' ?_ (by rw [List.map_cons, List.map_cons, hn]) (.cons (r1.mono s') hR)
          rw [hH', List.append_assoc]; rfl
end
section
variable {P : Program} {w : World} {K : PySem.W.Frag} {mg : Str → Option Value} {base : Heap}
/-- a class whose objects may be made -/
structure KCal (P : Program) (w : World) (K : PySem.W.Frag) (mg : Str → Option Value) (base : Heap) (k : Nat) (nm : Str) (n : Nat) (m : List D → R (List (Str × D))) : Prop where
  ex : ∃ C f fd ps, Mk K C f ∧ mg nm = some (.ref C) ∧ FnOk P w K mg base CX0 k f fd ps (spN ⟨K, mg, w⟩ C n m) ∧ L2.Binds K fd ps []
theorem fni_of {C f : Addr} {qual : Str} {st : Stmt} {fd : FuncData} {N ps : List Str} {k : Nat} {r : List (Str × (Env → R D))} (F : Fun K "__init__" qual st f fd) (S : FnScope N ("self" :: ps) (defScope st)) (hN : 1 + ps.length ≤ N.length) (hr0 : r.length ≤ 900) (hnd : (r.map (·.1)).Nodup)
    (hbody : ∀ (cdv : Value) (A : Around) (outer : List PySem.Env) (s : Shared) (H : Hp) (E : XK), Room k (A.deeper (envOfC qual (defScope st) s.heap.objs.size f cdv)) → PSs (cxOf CX0 P w K mg base N qual (defScope st) f cdv A outer s H E).nox (defBody st) (tI ⟨K, mg, w⟩ C r)) :
    FnOk P w K mg base CX0 (k + 1) f fd ("self" :: ps) (spN ⟨K, mg, w⟩ C ps.length (runI N.length r)) := by
  refine F.ok S (fun vs H Q E h => ?_) (fun cdv A outer s H vs Q E hr h => ?_)
  · obtain ⟨_, _, _, ws, _, rfl, hl, _⟩ := h
    simp [hl]
  · obtain ⟨G, a, dx, ws, ds, rfl, hl, sG, hG, tp, hH, rr, q⟩ := h
    refine ⟨_, hbody cdv A outer s H E hr, ?_⟩
    have hvl : ws.length = ds.length := rr.length
    have hst : L2.start N (V.ref a :: ws) = some (V.ref a) :: (ws.map some ++ List.replicate (N.length - 1 - ds.length) none) := by
      unfold L2.start
      rw [List.map_cons, List.length_cons, List.cons_append, hvl, show N.length - (ds.length + 1) = N.length - 1 - ds.length by omega]
    rw [hst]
    refine ⟨⟨H, G, [], fun x => x = a⟩, G, none :: (ds.map (fun d => some (O.v d)) ++ List.replicate (N.length - 1 - ds.length) none), [], a, dx, [], ⟨⟨fun a o e _ => e, fun a e => e, fun a _ e => e, sG, tp⟩, .no (cells_start _ rr), List.nodup_nil, (fun p hp => nomatch hp), (fun q hq => nomatch hq)⟩, rfl, (show H a ≠ none from by rw [hH]; exact (fun z => nomatch z)), hG, rfl, (fun z => nomatch z), hH, by simpa using hr0, (fun p _ z => nomatch z), hnd, ?_⟩
    have hq : runI N.length r ds = iniL r (none :: (ds.map (fun d => some (O.v d)) ++ List.replicate (N.length - 1 - ds.length) none)) := rfl
    rw [hq] at q
    cases e : iniL r (none :: (ds.map (fun d => some (O.v d)) ++ List.replicate (N.length - 1 - ds.length) none)) with
    | stuck => rw [e] at q; exact q.elim
    | ex x => rw [e] at q; exact q.elim
    | ok ps =>
      rw [e] at q
      intro ys G' H' s' A' hH' hn hR
      refine q ys G' H' s' A'.fine.le (fun b o hb eb => A'.fine.base b o eb hb) A'.fine.x A'.fine.tup (by rw [hH']; rfl) hn hR
end
section
variable {P : Program} {w : World} {K : PySem.W.Frag} {mg : Str → Option Value} {base : Heap}
/-- where an `__init__` stands -/
structure IDef (K : PySem.W.Frag) (mg : Str → Option Value) (nm qual : Str) (st : Stmt) (fs : List Str) : Prop where
  ex : ∃ C f fd, mg nm = some (.ref C) ∧ Mk K C f ∧ Cls K C ∧ (∀ x ∈ fs, NoAttr K C x) ∧ Fun K "__init__" qual st f fd
theorem na_nil {C : Addr} : ∀ x ∈ ([] : List Str), NoAttr K C x := fun x h => nomatch h
theorem na_cons {C : Addr} {y : Str} {l : List Str} (h : NoAttr K C y) (t : ∀ x ∈ l, NoAttr K C x) : ∀ x ∈ y :: l, NoAttr K C x := fun x hx => by
  rcases List.mem_cons.mp hx with rfl | z
  · exact h
  · exact t x z
theorem kcal_of {nm qual : Str} {st : Stmt} {N ps fs : List Str} {k : Nat} {r : List (Str × (Env → R D))} (T : IDef K mg nm qual st fs) (S : FnScope N ("self" :: ps) (defScope st)) (hN : 1 + ps.length ≤ N.length) (hr0 : r.length ≤ 900) (hnd : (r.map (·.1)).Nodup)
    (hb : ∀ (kV doc pm : Value) (an : Option Addr) (cdv ct : Value) (us : List Value), us.length = ("self" :: ps : List Str).length → bindArgs (PySem.W.fnOf "__init__" qual (defArgs st) (defBody st) (defScope st) .none kV doc pm an cdv ct) ⟨us, []⟩ = pure (("self" :: ps : List Str).zip us))
    (hbody : ∀ (C f : Addr) (_ : Cls K C) (_ : ∀ x ∈ fs, NoAttr K C x) (cdv : Value) (A : Around) (outer : List PySem.Env) (s : Shared) (H : Hp) (E : XK), Room k (A.deeper (envOfC qual (defScope st) s.heap.objs.size f cdv)) → PSs (cxOf CX0 P w K mg base N qual (defScope st) f cdv A outer s H E).nox (defBody st) (tI ⟨K, mg, w⟩ C r)) :
    KCal P w K mg base (k + 1) nm ps.length (runI N.length r) := by
  obtain ⟨C, f, fd, hm, hk, hc, hn, F⟩ := T.ex
  exact ⟨C, f, fd, _, hk, hm, fni_of F S hN hr0 hnd (hbody C f hc hn), F.binds hb⟩
theorem ats_mk {nm f : Str} {C : Addr} (h : mg nm = some (.ref C)) (c : Cls K C) (n : NoAttr K C f) : Ats K mg nm f := fun C' h' => by
  rw [h] at h'
  cases h'
  exact ⟨c, n⟩
end
section
variable {X : Cx} {W : WX} {k j n : Nat} {x : Str} {p pos : Pos} {e : Expr} {es : List Expr} {gs : Env → R (List D)} {m : List D → R (List (Str × D))}
def eMake (x : Str) (m : List D → R (List (Str × D))) (gs : Env → R (List D)) : Env → R D := fun c => gs c >>= fun ds => noX (m ds) >>= fun ps => if (ps.map (·.1)).head? ≠ some ("!" : Str) then .ok (.obj x (ps.map (·.1)) (ps.map (·.2))) else .stuck
theorem px_make (C : KCal X.prog X.w X.K X.mg X.base k x n m) (hr : Room j X.A) (hkj : k + 1 ≤ j) (ha : PXA X W true (e :: es) gs) (hn : ∀ c ds, gs c = .ok ds → ds.length = n) (hg : Gl X x := by rfl)
    (hdb : (x == ("__debug__" : Str)) = false := by decide) (he : starEach (e :: es) X.env = (false, eval e X.env) :: starEach es X.env := by rfl) (hpl : (backTo pos (starEach es X.env)).any (·.1) = false := by rfl) :
    PX X W true (.Call (.Name x p) (e :: es) [] pos) (eMake x m gs) := by
  obtain ⟨C, f, fd, ps, M, hm, F, hb⟩ := C.ex
  refine pe_mono (pe_make (E := E0) M F (hr.mono hkj) hg hm hb .nil pass0 ha hdb he hpl) fun σ H Q ⟨B, G, c, fp, A, q⟩ => txa_seq A q fun ds e vs G1 H1 s1 t1 A1 r1 q1 a dx na ndx hne => ?_
  have r1 : RpL ⟨X.K, X.mg, X.w⟩ G1 vs ds := r1
  rw [List.append_nil]
  have hGa : G1 a = none := A1.fine.fresh na
  have up : ∀ b o, H1 b = some o → upd (upd H1 dx (.own a)) a (.ins C dx []) b = some o := fun b o z => by
    rw [upd_ne (ne_of_none z na), upd_ne (ne_of_none z ndx)]; exact z
  refine ⟨G1, a, dx, vs, ds, rfl, by rw [r1.length]; exact hn c ds e, fun b o z => up b o (A1.fine.le b o z), hGa, fun b u z k => ?_, upd_same, r1, ?_⟩
  · by_cases hba : b = a
    · rw [hba, upd_same] at z; cases z; cases k
    · rw [upd_ne hba] at z
      by_cases hbd : b = dx
      · rw [hbd, upd_same] at z; cases z; cases k
      · rw [upd_ne hbd] at z
        exact A1.fine.tup b u z k
  · cases hms : m ds with
    | stuck => rw [hms] at q1; exact q1.elim
    | ex y => rw [hms] at q1; exact q1.elim
    | ok pss =>
      rw [hms] at q1
      have q1 : Res ⟨X.K, X.mg, X.w⟩ W B c σ fp G1 H1 (if (pss.map (·.1)).head? ≠ some ("!" : Str) then R.ok (D.obj x (pss.map (·.1)) (pss.map (·.2))) else .stuck) (Post ⟨X.K, X.mg, X.w⟩ B c σ fp G H true Q) := q1
      by_cases hh : (pss.map (·.1)).head? ≠ some ("!" : Str)
      · rw [if_pos hh] at q1
        intro xs G' H' s' l' t' gr' tp' hH' hn' hR
        have th : Same H1 H' := fun b o z => t' b o (ne_of_none z na) (up b o z)
        have hGa' : G' a = none := gr' a (by rw [upd_same]; exact fun z => nomatch z) hGa
        have A2 : Abs ⟨X.K, X.mg, X.w⟩ B G' H' c σ fp := A1.call s' th l' (fun b h1 h2 => gr' b (fun z => by
          cases ho : H1 b with
          | none => exact h1 ho
          | some o => rw [up b o ho] at z; cases z) h2) tp'
        have hfp : a ∉ fp := fun z => A1.cells.there a z na
        have h0 : B.H0 a = none := A1.fine.there a na
        have A3 := A2.know (u := .ins C dx xs) hfp hGa' h0 hH'
        refine ⟨rfl, q1 (.ref a) _ H' (s1.trans (s'.trans (same_upd hGa'))) (t1.trans th) A3 ?_⟩
        have hhd : hdO xs := fun p hp => fun z => hh (by
          rw [← hn', List.head?_map]
          have hp : xs.head? = some p := hp
          rw [hp]
          exact congrArg some z)
        exact .obj (Or.inl ⟨upd_same, hhd⟩) hm hn'.symm (hR.mono (same_upd hGa'))
      · rw [if_neg hh] at q1; exact q1.elim
end
end VS

/-! VS: xs.index(e) of any plain data; a fresh list repeated. -/
namespace VS
open PySem PySem.Spec PyProof.Rows L2
/-! ### xs.index(e) -/
def fLIxD (ds : List D) : List D → Option D
  | [d] => if D.pln 64 d && D.pln 64 (.lst ds) then (if (ds.findIdx fun z => D.eqv z d) < ds.length then some (.int ((ds.findIdx fun z => D.eqv z d : Nat) : Int)) else none) else none
  | _ => none
def eLIxD (g : Env → R D) (gs : Env → R (List D)) : Env → R D := fun c => g c >>= fun d => match d with
  | .lst ds => gs c >>= fun es => lift (fLIxD ds es)
  | _ => .stuck
section
variable {X : Cx} {W : WX} {b b1 b' : Bool}
theorem px_liD {o e : Expr} {es : List Expr} {g : Env → R D} {gs : Env → R (List D)} {apos cpos : Pos} (hu : X.A.units + 65 < cLine)
    (ho : PX X W b1 o g) (ha : PXA X W b (e :: es) gs)
    (hbase : attributeBase o "index" X.env (eval o X.env) = eval o X.env := by rfl)
    (hfew : ((backTo cpos (starEach (e :: es) X.env)).all (fun x => !x.1) && (backToKw cpos (keywordEach [] X.env)).all (fun x => x.1.isSome)
      && decide ((e :: es).length + ([] : List Keyword).length + (if ([] : List Keyword).isEmpty then 0 else 1) < 30)) = true := by rfl)
    (hline : (apos.endLine == cpos.line) = true := by rfl) (hs : starEach (e :: es) X.env = (false, eval e X.env) :: starEach es X.env := by rfl) (hplain : (backTo cpos (starEach es X.env)).any (·.1) = false := by rfl) :
    PX X W b' (.Call (.Attribute o "index" apos) (e :: es) [] cpos) (eLIxD g gs) :=
  pe_mono (pe_bm PySem.F.plainAttrs_list PySem.F.slot_list_index PySem.F.type_list_index (mt_indexD hu) ho ha hbase hfew hline hs hplain) fun σ H Q ⟨B, G, c, fp, A, q⟩ => tx_seq A q fun d e v G1 H1 s1 t1 A1 r1 q1 => by
    cases d with
    | lst ds =>
      have r0 := vw_rp A1.fine.le r1
      obtain ⟨a, vs, rfl, h2, r2⟩ := r1.lstH A1.fine.le
      refine ⟨.inl ⟨rfl, _, h2⟩, txa_seq A1 q1 fun es e2 ws G2 H2 s2 t2 A2 r3 q2 => ?_⟩
      obtain ⟨d3, e3, p3⟩ := Res.lift q2
      unfold fLIxD at e3
      split at e3
      · rename_i d
        split at e3
        · rename_i hc
          simp only [Bool.and_eq_true] at hc
          obtain ⟨h1, h3⟩ := hc
          split at e3
          · rename_i hlt
            cases e3
            obtain ⟨v, rfl, rv⟩ := r3.one
            have rv := vw_rp A2.fine.le rv
            have h4 : D.plns 63 ds = true := by rw [D.pln] at h3; exact h3
            have hd := Rp.dp 64 _ _ (r0.mono t2) h3
            rw [D.py] at hd
            have hs := D.shaped (Nat.le_refl _) h3
            rw [D.py] at hs
            have h5 := h4
            rw [plns_all] at h5
            have eqv : ∀ z ∈ ds, PyData.eqv z.py d.py = D.eqv z d := fun z hz => by
              rw [List.all_eq_true] at h5
              exact D.eqv_py 63 64 z d (h5 z hz) h1
            have hfi := List.findIdx_getElem (p := fun z => D.eqv z d) (xs := ds) (w := hlt)
            refine ⟨a, v, d.py, D.pys ds, _, (ds[ds.findIdx fun z => D.eqv z d]).py, rfl, rfl, hd, Rp.dp 64 _ _ rv h1, hs, D.shaped (Nat.le_refl _) h1, ?_, ?_, ?_, (p3.grow (s1.trans s2) (t1.trans t2)).here A2 (.int _)⟩
            · rw [D.pys_map, List.getElem?_map, List.getElem?_eq_getElem hlt]; rfl
            · rw [eqv _ (List.getElem_mem hlt)]; exact hfi
            · intro m z hm hz
              rw [D.pys_map, List.getElem?_map] at hz
              obtain ⟨y, hy, rfl⟩ := Option.map_eq_some_iff.mp hz
              obtain ⟨hml, rfl⟩ := List.getElem?_eq_some_iff.mp hy
              rw [eqv _ (List.getElem_mem hml)]
              simpa using List.not_of_lt_findIdx (p := fun z => D.eqv z d) (xs := ds) (i := m) hm
          · cases e3
        · cases e3
      · cases e3
    | _ => exact False.elim q1
/-! ### [e, ..] * number -/
def eRepL (k : Int) (gs : Env → R (List D)) : Env → R D := fun c => gs c >>= fun ds => if 0 ≤ k ∧ k < 1000 ∧ ds.length * k.toNat ≤ 16777216 ∧ ds.length ≤ 16777216 then .ok (.lst (List.replicate k.toNat ds).flatten) else .stuck
theorem rpL_app {E : Wd} {G : Hp} : ∀ {vs ws : List V} {ds es : List D}, RpL E G vs ds → RpL E G ws es → RpL E G (vs ++ ws) (ds ++ es)
  | _, _, _, _, .nil, r => r
  | _, _, _, _, .cons h r, s => .cons h (rpL_app r s)
theorem rpL_rep {E : Wd} {G : Hp} {vs : List V} {ds : List D} (r : RpL E G vs ds) : ∀ k : Nat, RpL E G (List.replicate k vs).flatten (List.replicate k ds).flatten
  | 0 => .nil
  | k + 1 => by
    rw [List.replicate_succ, List.replicate_succ, List.flatten_cons, List.flatten_cons]
    exact rpL_app r (rpL_rep r k)
theorem px_repL {es : List Expr} {gs : Env → R (List D)} {k : Int} {j : Nat} {p p2 pos : Pos} (h : PXA X W true es gs) : PX X W true (.BinOp (.List es p) .Mult (.Constant (.int k) j p2) pos) (eRepL k gs) :=
  pe_mono (pe_op op_rep (pe_lst h) pe_int) fun σ H Q ⟨B, G, c, fp, A, q⟩ => by
    refine txa_seq A q fun ds e vs G1 H1 s1 t1 A1 r1 q1 => ?_
    have r1 : RpL ⟨X.K, X.mg, X.w⟩ G1 vs ds := r1
    by_cases hc : 0 ≤ k ∧ k < 1000 ∧ ds.length * k.toNat ≤ 16777216 ∧ ds.length ≤ 16777216
    · rw [if_pos hc] at q1
      have q1 : Post ⟨X.K, X.mg, X.w⟩ B c σ fp G H true Q (.lst (List.replicate k.toNat ds).flatten) := q1
      have hl : vs.length = ds.length := r1.length
      refine ⟨by rw [hl, sizeLine_eq]; exact hc.2.2.2, fun p hp => ⟨p, k, vs, rfl, rfl, upd_same, by omega, by omega, by rw [hl, sizeLine_eq]; exact hc.2.2.1, fun p2 hp2 => ?_⟩⟩
      have A2 : Abs ⟨X.K, X.mg, X.w⟩ B G1 (upd H1 p (.lst vs)) c σ fp := A1.newO hp rfl
      exact (q1.grow s1 (t1.trans (same_upd hp))).new A2 hp2 fun s => .lst (.inl (.inl upd_same)) ((rpL_rep r1 k.toNat).mono s)
    · rw [if_neg hc] at q1; exact q1.elim
end
end VS

set_option maxHeartbeats 8000000
namespace GW
open PySem PySem.Spec PyProof.Rows L2 VS
noncomputable section
def wN : Nat := 1000000000
def BLnumber : VS.Env → Rs :=
    (sSeq (sSet 2 (eOp2 (opAdd true true) (eOp2 (opMul) (eFn (fSum) (eCons (eV 0) eNil)) (eC (.int 31))) (eOp2 (opMul) (eC (.int 1000003)) (eOp2 (opAdd true true) (eV 1) (eC (.int 1))))))
    (sSeq (sIf (eB (eOp2 (opRel fun i j => decide (i < j)) (eV 1) (eFn (fLen) (eCons (eV 0) eNil))))
    (sSet 2 (eOp2 (opIx true) (eV 0) (eV 1)))
    sNil)
    (sRet (eFn (fAbs) (eCons (eV 2) eNil)))))
def MLnumber : List D → R D := runF 3 BLnumber
def BLdraws : VS.Env → Rs :=
    (sSeq (sSet 4 (eCall MLnumber (eCons (eV 0) (eCons (eV 1) eNil))))
    (sSeq (sSetO 5 (eFnO fLstO eNil))
    (sSeq (sIf (eB (eOp2 (opRel fun i j => decide (j ≤ i)) (eV 4) (eOp2 (opPow) (eC (.int 10)) (eC (.int 18)))))
    (sSeq (sSet 4 (eOp2 (opSub) (eV 4) (eOp2 (opPow) (eC (.int 10)) (eC (.int 18)))))
    (sSeq (sFor 6 (eItR (eC (.int 0)) (eV 2))
    (sSeq (sApp 5 (eOp2 (opMod) (eV 4) (eV 3)))
    (sSet 4 (eOp2 (opDiv) (eV 4) (eV 3)))))
    (sFz 5 (sRet (eV 5)))))
    sNil)
    (sSeq (sSet 7 (eOp2 (opAdd true true) (eOp2 (opMod) (eV 4) (eC (.int 2147483647))) (eC (.int 1))))
    (sSeq (sFor 6 (eItR (eC (.int 0)) (eV 2))
    (sSeq (sSet 7 (eOp2 (opMod) (eOp2 (opAdd true true) (eOp2 (opAdd true true) (eOp2 (opMul) (eV 7) (eC (.int 48271))) (eOp2 (opMul) (eC (.int 11)) (eV 6))) (eC (.int 7))) (eC (.int 2147483647))))
    (sSeq (sSet 8 (eOp2 (opMod) (eOp2 (opAdd true true) (eOp2 (opAdd true true) (eOp2 (opMul) (eV 7) (eV 7)) (eOp2 (opMul) (eC (.int 69621)) (eV 6))) (eC (.int 5))) (eC (.int 2147483629))))
    (sApp 5 (eOp2 (opMod) (eOp2 (opDiv) (eV 8) (eC (.int 64))) (eV 3))))))
    (sFz 5 (sRet (eV 5))))))))
def MLdraws : List D → R D := runF 9 BLdraws
def BLmachine : VS.Env → Rs :=
    (sSeq (sSet 4 (eCall MLdraws (eCons (eV 0) (eCons (eV 1) (eCons (eOp2 (opAdd true true) (eOp2 (opMul) (eV 3) (eV 2)) (eV 3)) (eCons (eOp2 (opMul) (eV 3) (eC (.int 2))) eNil))))))
    (sSeq (sSetO 5 (eFnO fLstO eNil))
    (sSeq (sFor 6 (eItR (eC (.int 0)) (eV 3))
    (sApp 5 (eFn (fTuple true) (eCons (eLc (eIt true (eSl true (eV 4) (eO (eOp2 (opMul) (eV 6) (eV 2))) (eO (eOp2 (opAdd true true) (eOp2 (opMul) (eV 6) (eV 2)) (eV 2))))) tYes' (eOp2 (opMod) (eV 8) (eV 3)) 8) eNil))))
    (sSeq (sSet 7 (eLc (eItR (eC (.int 0)) (eV 3)) (eB (eOp2 (opEq) (eOp2 (opMod) (eOp2 (opIx true) (eV 4) (eOp2 (opAdd true true) (eOp2 (opMul) (eV 3) (eV 2)) (eV 6))) (eC (.int 2))) (eC (.int 1)))) (eV 6) 6))
    (sRet (eFn fTup (eCons (eV 2) (eCons (eFn (fTuple false) (eCons (eL 5) eNil)) (eCons (eFn (fTuple true) (eCons (eV 7) eNil)) eNil)))))))))
def MLmachine : List D → R D := runF 9 BLmachine
def Bis_final : VS.Env → Rs :=
    (sRet (eOp2 (opInS) (eV 1) (eOp2 (opIx true) (eV 0) (eC (.int 2)))))
def Mis_final : List D → R D := runF 2 Bis_final
def Bfirst_parts : VS.Env → Rs :=
    (sRet (eLk (eDcO (eIt true (eV 1)) tYes' (eV 2) (eFn (fInt) (eCons (eCall Mis_final (eCons (eV 0) (eCons (eV 2) eNil))) eNil)) 2)))
def Mfirst_parts : List D → R D := runF 3 Bfirst_parts
def Bfiner_parts : VS.Env → Rs :=
    (sSeq (sSetO 2 eNNew)
    (sSeq (sSetO 3 eDNew)
    (sSeq (sFor 4 (eItK (eV 1))
    (sSeq (sSet 5 (eFn fTup (eCons (eDIx 1 (eV 4)) (eCons (eFn (fTuple true) (eCons (eLc (eIt true (eOp2 (opIx true) (eOp2 (opIx true) (eV 0) (eC (.int 1))) (eV 4))) tYes' (eDIx 1 (eV 6)) 6) eNil)) eNil))))
    (sSeq (sIf (eB (eNIn true 2 (eV 5)))
    (sNSet 2 (eV 5) (eFn fLenN (eCons (eL 2) eNil)))
    sNil)
    (sDSet 3 (eV 4) (eNIx 2 (eV 5))))))
    (sFzK 3 (sRet (eV 3))))))
def Mfiner_parts : List D → R D := runF 7 Bfiner_parts
def Baccess_from : VS.Env → Rs :=
    (sSeq (sSetO 2 (eLcO (eIt true (eOp2 (opIx true) (eV 0) (eC (.int 1)))) tYes' (eC .non) 5))
    (sSeq (sIxSet 2 (eV 1) (eC (.str [])))
    (sSeq (sSetO 3 (eFnO fLstO (eCons (eV 1) eNil)))
    (sSeq (sSet 4 (eC (.int 0)))
    (sSeq (whileL (eB (eOp2 (opRel fun i j => decide (i < j)) (eV 4) (eFn (fLen) (eCons (eL 3) eNil))))
    (sSeq (sSet 5 (eIxo 3 (eV 4)))
    (sSeq (sFor 6 (eItR (eC (.int 0)) (eOp2 (opIx true) (eV 0) (eC (.int 0))))
    (sSeq (sSet 7 (eOp2 (opIx true) (eOp2 (opIx true) (eOp2 (opIx true) (eV 0) (eC (.int 1))) (eV 5)) (eV 6)))
    (sIf (eB (eOp2 (opIs) (eIxo 2 (eV 7)) (eC .non)))
    (sSeq (sIxSet 2 (eV 7) (eOp2 (opAdd true true) (eIxo 2 (eV 5)) (eOp2 (opIx true) (eC (.str [97, 98, 99])) (eV 6))))
    (sApp 3 (eV 7)))
    sNil)))
    (sSet 4 (eOp2 (opAdd true true) (eV 4) (eC (.int 1)))))) wN)
    (sFz 2 (sRet (eV 2))))))))
def Maccess_from : List D → R D := runF 8 Baccess_from
def Baccess_words : VS.Env → Rs :=
    (sRet (eCall Maccess_from (eCons (eV 0) (eCons (eC (.int 0)) eNil))))
def Maccess_words : List D → R D := runF 1 Baccess_words
def Breachable : VS.Env → Rs :=
    (sSeq (sSet 1 (eCall Maccess_words (eCons (eV 0) eNil)))
    (sRet (eLc (eItR (eC (.int 0)) (eFn (fLen) (eCons (eV 1) eNil))) (eB (eOp2 (opIsnt) (eOp2 (opIx true) (eV 1) (eV 2)) (eC .non))) (eV 2) 2)))
def Mreachable : List D → R D := runF 3 Breachable
def Bpart_count : VS.Env → Rs :=
    (sRet (eLenSet (eVals (eV 0))))
def Mpart_count : List D → R D := runF 1 Bpart_count
def Bsame_parts : VS.Env → Rs :=
    (sSeq (sSet 1 (eCall Mfirst_parts (eCons (eV 0) (eCons (eCall Mreachable (eCons (eV 0) eNil)) eNil))))
    (sSeq (sSet 2 (eCall Mfiner_parts (eCons (eV 0) (eCons (eV 1) eNil))))
    (sSeq (whileL (eB (eOp2 (opRel fun i j => decide (j < i)) (eCall Mpart_count (eCons (eV 2) eNil)) (eCall Mpart_count (eCons (eV 1) eNil))))
    (sSeq (sSet 1 (eV 2))
    (sSet 2 (eCall Mfiner_parts (eCons (eV 0) (eCons (eV 1) eNil))))) wN)
    (sRet (eV 1)))))
def Msame_parts : List D → R D := runF 3 Bsame_parts
def Bnumbered_states : VS.Env → Rs :=
    (sSeq (sSetO 2 (eFnO fLstO (eCons (eC (.int 0)) eNil)))
    (sSeq (sSetO 3 (eD1x (eDIx 1 (eC (.int 0))) (eC (.bl true))))
    (sSeq (sSet 4 (eC (.int 0)))
    (sSeq (whileL (eB (eOp2 (opRel fun i j => decide (i < j)) (eV 4) (eFn (fLen) (eCons (eL 2) eNil))))
    (sSeq (sFor 5 (eIt true (eOp2 (opIx true) (eOp2 (opIx true) (eV 0) (eC (.int 1))) (eIxo 2 (eV 4))))
    (sIf (eB (eDIn true 3 (eDIx 1 (eV 5))))
    (sSeq (sDSet 3 (eDIx 1 (eV 5)) (eC (.bl true)))
    (sApp 2 (eV 5)))
    sNil))
    (sSet 4 (eOp2 (opAdd true true) (eV 4) (eC (.int 1))))) wN)
    (sFz 2 (sRet (eV 2)))))))
def Mnumbered_states : List D → R D := runF 6 Bnumbered_states
def Bleast : VS.Env → Rs :=
    (sSeq (sSet 1 (eCall Msame_parts (eCons (eV 0) eNil)))
    (sSeq (sSet 2 (eCall Mnumbered_states (eCons (eV 0) (eCons (eV 1) eNil))))
    (sSeq (sSetO 3 (eDcO (eItR (eC (.int 0)) (eFn (fLen) (eCons (eV 2) eNil))) tYes' (eDIx 1 (eOp2 (opIx true) (eV 2) (eV 6))) (eV 6) 6))
    (sSeq (sSet 4 (eLc (eIt true (eV 2)) tYes' (eFn (fTuple true) (eCons (eLc (eIt true (eOp2 (opIx true) (eOp2 (opIx true) (eV 0) (eC (.int 1))) (eV 7))) tYes' (eDIx 3 (eDIx 1 (eV 8))) 8) eNil)) 7))
    (sSeq (sSet 5 (eLc (eItR (eC (.int 0)) (eFn (fLen) (eCons (eV 2) eNil))) (eTru (eCall Mis_final (eCons (eV 0) (eCons (eOp2 (opIx true) (eV 2) (eV 6)) eNil)))) (eV 6) 6))
    (sRet (eFn fTup (eCons (eOp2 (opIx true) (eV 0) (eC (.int 0))) (eCons (eFn (fTuple true) (eCons (eV 4) eNil)) (eCons (eFn (fTuple true) (eCons (eV 5) eNil)) eNil))))))))))
def Mleast : List D → R D := runF 9 Bleast
def Bbounded : VS.Env → Rs :=
    (sSeq (sSet 1 (eCall Mleast (eCons (eV 0) eNil)))
    (sSeq (sIf (eB (eOp2 (opRel fun i j => decide (j < i)) (eFn (fLen) (eCons (eOp2 (opIx true) (eV 1) (eC (.int 1))) eNil)) (eC (.int 40))))
    sNo
    sNil)
    (sRet (eV 1))))
def Mbounded : List D → R D := runF 2 Bbounded
def Bfinal_set : VS.Env → Rs :=
    (sRet (eFn (fSum) (eCons (eLc (eIt true (eOp2 (opIx true) (eV 0) (eC (.int 2)))) tYes' (eOp2 (opShl) (eC (.int 1)) (eV 1)) 1) eNil)))
def Mfinal_set : List D → R D := runF 2 Bfinal_set
def BBackWalk_begin : VS.Env → Rs :=
    (sRet (eCall Mfinal_set (eCons (eAtt ["BackWalk"] "machine" (eV 0)) eNil)))
def MBackWalk_begin : List D → R D := runF 1 BBackWalk_begin
def Bhas_state : VS.Env → Rs :=
    (sRet (eOp2 (opEq) (eOp2 (opBit Builtin.bitAnd) (eOp2 (opShr) (eV 0) (eV 1)) (eC (.int 1))) (eC (.int 1))))
def Mhas_state : List D → R D := runF 2 Bhas_state
def Bsource_set : VS.Env → Rs :=
    (sSeq (sSet 3 (eC (.int 0)))
    (sSeq (sFor 4 (eItR (eC (.int 0)) (eFn (fLen) (eCons (eOp2 (opIx true) (eV 0) (eC (.int 1))) eNil)))
    (sIf (eTru (eCall Mhas_state (eCons (eV 1) (eCons (eOp2 (opIx true) (eOp2 (opIx true) (eOp2 (opIx true) (eV 0) (eC (.int 1))) (eV 4)) (eV 2)) eNil))))
    (sSet 3 (eOp2 (opBit Builtin.bitOr) (eV 3) (eOp2 (opShl) (eC (.int 1)) (eV 4))))
    sNil))
    (sRet (eV 3))))
def Msource_set : List D → R D := runF 5 Bsource_set
def BBackWalk_follow : VS.Env → Rs :=
    (sRet (eCall Msource_set (eCons (eAtt ["BackWalk"] "machine" (eV 0)) (eCons (eV 1) (eCons (eV 2) eNil)))))
def MBackWalk_follow : List D → R D := runF 3 BBackWalk_follow
def BBackWalk_ends : VS.Env → Rs :=
    (sRet (eCall Mhas_state (eCons (eV 1) (eCons (eC (.int 0)) eNil))))
def MBackWalk_ends : List D → R D := runF 2 BBackWalk_ends
def Bexplored : VS.Env → Rs :=
    (sSeq (sSetO 2 (eFnO fLstO (eCons (eMth [("BackWalk", MBackWalk_begin)] "begin" (eV 0) eNil) eNil)))
    (sSeq (sSetO 3 (eD1x (eIxo 2 (eC (.int 0))) (eC (.int 0))))
    (sSeq (sSetO 4 (eFnO fLstO eNil))
    (sSeq (whileL (eB (eOp2 (opRel fun i j => decide (i < j)) (eFn (fLen) (eCons (eL 4) eNil)) (eFn (fLen) (eCons (eL 2) eNil))))
    (sSeq (sSetO 5 (eFnO fLstO eNil))
    (sSeq (sFor 6 (eItR (eC (.int 0)) (eV 1))
    (sSeq (sSet 7 (eMth [("BackWalk", MBackWalk_follow)] "follow" (eV 0) (eCons (eIxo 2 (eFn (fLen) (eCons (eL 4) eNil))) (eCons (eV 6) eNil))))
    (sSeq (sIf (eB (eDIn true 3 (eV 7)))
    (sSeq (sDSet 3 (eV 7) (eFn (fLen) (eCons (eL 2) eNil)))
    (sApp 2 (eV 7)))
    sNil)
    (sApp 5 (eDIx 3 (eV 7))))))
    (sSeq (sIf (eB (eOp2 (opRel fun i j => decide (j < i)) (eFn (fLen) (eCons (eL 2) eNil)) (eC (.int 1000))))
    sNo
    sNil)
    (sApp 4 (eFn (fTuple false) (eCons (eL 5) eNil)))))) wN)
    (sSeq (sSet 8 (eLc (eItR (eC (.int 0)) (eFn (fLen) (eCons (eL 2) eNil))) (eTru (eMth [("BackWalk", MBackWalk_ends)] "ends" (eV 0) (eCons (eIxo 2 (eV 9)) eNil))) (eV 9) 9))
    (sRet (eFn fTup (eCons (eV 1) (eCons (eFn (fTuple false) (eCons (eL 4) eNil)) (eCons (eFn (fTuple true) (eCons (eV 8) eNil)) eNil))))))))))
def Mexplored : List D → R D := runF 10 Bexplored
def BBackWalk_init : List (Str × (VS.Env → R D)) :=
    [("machine", (eV 1))]
def MBackWalk_init : List D → R (List (Str × D)) := runI 2 BBackWalk_init
def Breversal : VS.Env → Rs :=
    (sRet (eCall Mbounded (eCons (eCall Mexplored (eCons (eMake "BackWalk" MBackWalk_init (eCons (eV 0) eNil)) (eCons (eOp2 (opIx true) (eV 0) (eC (.int 0))) eNil))) eNil)))
def Mreversal : List D → R D := runF 1 Breversal
def BLwords : VS.Env → Rs :=
    (sSeq (sSet 2 (eFn fLst (eCons (eC (.str [])) eNil)))
    (sSeq (sSet 3 (eFn fLst (eCons (eC (.str [])) eNil)))
    (sSeq (sFor 4 (eItR (eC (.int 0)) (eV 1))
    (sSeq (sSetO 5 (eFnO fLstO eNil))
    (sSeq (sFor 6 (eIt true (eV 3))
    (sFor 7 (eIt true (eSl true (eC (.str [97, 98, 99])) eNoO (eO (eV 0))))
    (sApp 5 (eOp2 (opAdd true true) (eV 6) (eV 7)))))
    (sSeq (sSet 2 (eOp2 (opAdd true false) (eV 2) (eL 5)))
    (sFz 5 (sSet 3 (eV 5)))))))
    (sRet (eV 2)))))
def MLwords : List D → R D := runF 8 BLwords
def BLsame (MLsame : List D → R D) : VS.Env → Rs :=
    (sSeq (sIf (tOr' (eTru (eIs .bool (eV 1))) (eTru (eIs .bool (eV 0))))
    (sRet (eAnd (eIs .bool (eV 1)) (eAnd (eIs .bool (eV 0)) (eOp2 (opEq) (eV 0) (eV 1)))))
    sNil)
    (sSeq (sIf (tOr' (eB (eOp2 (opIs) (eV 1) (eC .non))) (eTru (eIs .int (eV 1))))
    (sRet (eAnd (eOp2 (opEq) (eV 0) (eV 1)) (eOr (eOp2 (opIs) (eV 1) (eC .non)) (eIs .int (eV 0)))))
    sNil)
    (sSeq (sIf (eTru (eIs .str (eV 1)))
    (sRet (eAnd (eIs .str (eV 0)) (eOp2 (opEq) (eV 0) (eV 1))))
    sNil)
    (sSeq (sIf (tOr' (eB (eOp2 (opNe) (eIs .list (eV 1)) (eIs .list (eV 0)))) (eB (eOp2 (opNe) (eIs .tuple (eV 1)) (eIs .tuple (eV 0)))))
    (sRet (eC (.bl false)))
    sNil)
    (sSeq (sIf (eB (eOp2 (opNe) (eFn (fLen) (eCons (eV 0) eNil)) (eFn (fLen) (eCons (eV 1) eNil))))
    (sRet (eC (.bl false)))
    sNil)
    (sSeq (sFor 2 (eItR (eC (.int 0)) (eFn (fLen) (eCons (eV 1) eNil)))
    (sIf (tNot' (eTru (eCall MLsame (eCons (eOp2 (opIx true) (eV 0) (eV 2)) (eCons (eOp2 (opIx true) (eV 1) (eV 2)) eNil)))))
    (sRet (eC (.bl false)))
    sNil))
    (sRet (eC (.bl true)))))))))
def MLsameN : Nat → List D → R D
  | 0 => fun _ => .stuck
  | n + 1 => runF 3 (BLsame (MLsameN n))
def MLsame : List D → R D := MLsameN 64
def BLparted : VS.Env → Rs :=
    (sSeq (sSetO 2 eNNew)
    (sSeq (sSet 3 (eOp2 (opSub) (eC (.int 0)) (eC (.int 1))))
    (sSeq (whileL (eB (eOp2 (opRel fun i j => decide (j < i)) (eFn fLenN (eCons (eL 2) eNil)) (eV 3)))
    (sSeq (sSet 3 (eFn fLenN (eCons (eL 2) eNil)))
    (sFor 4 (eIt true (eV 1))
    (sFor 5 (eIt true (eV 1))
    (sSeq (sSet 6 (eOp2 (opNe) (eOp2 (opInS) (eV 4) (eOp2 (opIx true) (eV 0) (eC (.int 2)))) (eOp2 (opInS) (eV 5) (eOp2 (opIx true) (eV 0) (eC (.int 2))))))
    (sSeq (sFor 7 (eItR (eC (.int 0)) (eOp2 (opIx true) (eV 0) (eC (.int 0))))
    (sIf (eB (eNIn false 2 (eFn fTup (eCons (eOp2 (opIx true) (eOp2 (opIx true) (eOp2 (opIx true) (eV 0) (eC (.int 1))) (eV 4)) (eV 7)) (eCons (eOp2 (opIx true) (eOp2 (opIx true) (eOp2 (opIx true) (eV 0) (eC (.int 1))) (eV 5)) (eV 7)) eNil)))))
    (sSet 6 (eC (.bl true)))
    sNil))
    (sIf (eTru (eV 6))
    (sNSet 2 (eFn fTup (eCons (eV 4) (eCons (eV 5) eNil))) (eC (.bl true)))
    sNil)))))) wN)
    (sFz 2 (sRet (eV 2))))))
def MLparted : List D → R D := runF 8 BLparted
def BLleast : VS.Env → Rs :=
    (sSeq (sSetO 1 (eFnO fLstO (eCons (eC (.int 0)) eNil)))
    (sSeq (sSet 2 (eC (.int 0)))
    (sSeq (whileL (eB (eOp2 (opRel fun i j => decide (i < j)) (eV 2) (eFn (fLen) (eCons (eL 1) eNil))))
    (sSeq (sFor 3 (eIt true (eOp2 (opIx true) (eOp2 (opIx true) (eV 0) (eC (.int 1))) (eIxo 1 (eV 2))))
    (sIf (eB (eOp2 (opNotInS) (eV 3) (eL 1)))
    (sApp 1 (eV 3))
    sNil))
    (sSet 2 (eOp2 (opAdd true true) (eV 2) (eC (.int 1))))) wN)
    (sSeq (sFz 1 (sSet 4 (eCall MLparted (eCons (eV 0) (eCons (eV 1) eNil)))))
    (sSeq (sSetO 5 (eFnO fLstO eNil))
    (sSeq (sFor 6 (eIt true (eV 1))
    (sIf (eB (eOp2 (opEq) (eFn (fLen) (eCons (eLc (eIt false (eL 5)) (eB (eNIn true 4 (eFn fTup (eCons (eV 6) (eCons (eV 3) eNil))))) (eV 3) 3) eNil)) (eC (.int 0))))
    (sApp 5 (eV 6))
    sNil))
    (sSeq (sSetO 7 (eFnO fLstO (eCons (eIxo 5 (eC (.int 0))) eNil)))
    (sSeq (sSet 2 (eC (.int 0)))
    (sSeq (whileL (eB (eOp2 (opRel fun i j => decide (i < j)) (eV 2) (eFn (fLen) (eCons (eL 7) eNil))))
    (sSeq (sFor 8 (eIt true (eOp2 (opIx true) (eOp2 (opIx true) (eV 0) (eC (.int 1))) (eIxo 7 (eV 2))))
    (sSeq (sSet 3 (eOp2 (opIx true) (eLc (eIt false (eL 5)) (eB (eNIn true 4 (eFn fTup (eCons (eV 8) (eCons (eV 10) eNil))))) (eV 10) 10) (eC (.int 0))))
    (sIf (eB (eOp2 (opNotInS) (eV 3) (eL 7)))
    (sApp 7 (eV 3))
    sNil)))
    (sSet 2 (eOp2 (opAdd true true) (eV 2) (eC (.int 1))))) wN)
    (sSeq (sSetO 9 (eFnO fLstO eNil))
    (sSeq (sFz 7 (sFor 6 (eIt true (eV 7))
    (sApp 9 (eFn (fTuple true) (eCons (eLc (eIt true (eOp2 (opIx true) (eOp2 (opIx true) (eV 0) (eC (.int 1))) (eV 6))) tYes' (eOp2 (opIx true) (eLc (eItR (eC (.int 0)) (eFn (fLen) (eCons (eL 7) eNil))) (eB (eNIn true 4 (eFn fTup (eCons (eV 3) (eCons (eIxo 7 (eV 11)) eNil))))) (eV 11) 11) (eC (.int 0))) 3) eNil)))))
    (sRet (eFn fTup (eCons (eOp2 (opIx true) (eV 0) (eC (.int 0))) (eCons (eFn (fTuple false) (eCons (eL 9) eNil)) (eCons (eFn (fTuple true) (eCons (eLc (eItR (eC (.int 0)) (eFn (fLen) (eCons (eL 7) eNil))) (eB (eOp2 (opInS) (eIxo 7 (eV 11)) (eOp2 (opIx true) (eV 0) (eC (.int 2))))) (eV 11) 11) eNil)) eNil))))))))))))))))
def MLleast : List D → R D := runF 12 BLleast
def BLback : VS.Env → Rs :=
    (sSeq (sSet 1 (eFn (fLen) (eCons (eOp2 (opIx true) (eV 0) (eC (.int 1))) eNil)))
    (sSeq (sSetO 2 (eFnO fLstO (eCons (eFn (fTuple true) (eCons (eLc (eItR (eC (.int 0)) (eV 1)) (eB (eOp2 (opInS) (eV 8) (eOp2 (opIx true) (eV 0) (eC (.int 2))))) (eV 8) 8) eNil)) eNil)))
    (sSeq (sSetO 3 (eFnO fLstO eNil))
    (sSeq (sSet 4 (eC (.int 0)))
    (sSeq (whileL (eB (eOp2 (opRel fun i j => decide (i < j)) (eV 4) (eFn (fLen) (eCons (eL 2) eNil))))
    (sSeq (sSetO 5 (eFnO fLstO eNil))
    (sSeq (sFor 6 (eItR (eC (.int 0)) (eOp2 (opIx true) (eV 0) (eC (.int 0))))
    (sSeq (sSet 7 (eFn (fTuple true) (eCons (eLc (eItR (eC (.int 0)) (eV 1)) (eB (eOp2 (opInS) (eOp2 (opIx true) (eOp2 (opIx true) (eOp2 (opIx true) (eV 0) (eC (.int 1))) (eV 8)) (eV 6)) (eIxo 2 (eV 4)))) (eV 8) 8) eNil)))
    (sSeq (sIf (eB (eOp2 (opNotInS) (eV 7) (eL 2)))
    (sApp 2 (eV 7))
    sNil)
    (sApp 5 (eLIxD (eL 2) (eCons (eV 7) eNil))))))
    (sSeq (sApp 3 (eFn (fTuple false) (eCons (eL 5) eNil)))
    (sSet 4 (eOp2 (opAdd true true) (eV 4) (eC (.int 1))))))) wN)
    (sRet (eCall MLleast (eCons (eFn fTup (eCons (eOp2 (opIx true) (eV 0) (eC (.int 0))) (eCons (eFn (fTuple false) (eCons (eL 3) eNil)) (eCons (eFn (fTuple true) (eCons (eLc (eItR (eC (.int 0)) (eFn (fLen) (eCons (eL 2) eNil))) (eB (eOp2 (opInS) (eC (.int 0)) (eIxo 2 (eV 9)))) (eV 9) 9) eNil)) eNil)))) eNil))))))))
def MLback : List D → R D := runF 10 BLback
def BLstate : VS.Env → Rs :=
    (sSeq (sFor 3 (eIt true (eV 2))
    (sSet 1 (eOp2 (opIx true) (eOp2 (opIx true) (eOp2 (opIx true) (eV 0) (eC (.int 1))) (eV 1)) (eMS fSIndex (eC (.str [97, 98, 99])) (eCons (eV 3) eNil)))))
    (sRet (eV 1)))
def MLstate : List D → R D := runF 4 BLstate
def BLaccepts : VS.Env → Rs :=
    (sRet (eOp2 (opInS) (eCall MLstate (eCons (eV 0) (eCons (eC (.int 0)) (eCons (eV 1) eNil)))) (eOp2 (opIx true) (eV 0) (eC (.int 2)))))
def MLaccepts : List D → R D := runF 2 BLaccepts
def BLturned : VS.Env → Rs :=
    (sRet (eMS fJoin (eC (.str [])) (eCons (eLc (eItR (eC (.int 0)) (eFn (fLen) (eCons (eV 0) eNil))) tYes' (eOp2 (opIx true) (eV 0) (eOp2 (opSub) (eOp2 (opSub) (eFn (fLen) (eCons (eV 0) eNil)) (eC (.int 1))) (eV 1))) 1) eNil)))
def MLturned : List D → R D := runF 2 BLturned
def Blaw : VS.Env → Rs :=
    (sSeq (sSet 1 (eCall MLdraws (eCons (eV 0) (eCons (eC (.int 0)) (eCons (eC (.int 2)) (eCons (eC (.int 720)) eNil))))))
    (sSeq (sSet 2 (eOp2 (opAdd true true) (eC (.int 1)) (eOp2 (opMod) (eOp2 (opIx true) (eV 1) (eC (.int 0))) (eC (.int 3)))))
    (sSeq (sSet 3 (eCall MLmachine (eCons (eV 0) (eCons (eC (.int 1)) (eCons (eV 2) (eCons (eOp2 (opAdd true true) (eC (.int 1)) (eOp2 (opMod) (eOp2 (opIx true) (eV 1) (eC (.int 1))) (eC (.int 5)))) eNil))))))
    (sSeq (sSet 4 (eCall Mreversal (eCons (eV 3) eNil)))
    (sSeq (sIf (tNot' (eTru (eCall MLsame (eCons (eV 4) (eCons (eCall MLback (eCons (eV 3) eNil)) eNil)))))
    (sRet (eC (.bl false)))
    sNil)
    (sSeq (sFor 5 (eIt true (eCall MLwords (eCons (eV 2) (eCons (eOp2 (opIx true) (eFn fLst (eCons (eC (.int 8)) (eCons (eC (.int 6)) (eCons (eC (.int 4)) eNil)))) (eOp2 (opSub) (eV 2) (eC (.int 1)))) eNil))))
    (sIf (eB (eOp2 (opNe) (eCall MLaccepts (eCons (eV 4) (eCons (eV 5) eNil))) (eCall MLaccepts (eCons (eV 3) (eCons (eCall MLturned (eCons (eV 5) eNil)) eNil)))))
    (sRet (eC (.bl false)))
    sNil))
    (sRet (eCall MLsame (eCons (eCall Mreversal (eCons (eV 4) eNil)) (eCons (eCall MLleast (eCons (eV 3) eNil)) eNil))))))))))
def Mlaw : List D → R D := runF 6 Blaw
end
end GW

set_option maxHeartbeats 4000000
namespace GW
open PySem PySem.Spec PyProof.Rows L2 VS
theorem asInts_map' (ns : List Int) : asInts (ns.map D.int) = some ns := by
  induction ns with
  | nil => rfl
  | cons n ns ih => rw [List.map_cons, asInts_cons, ih]; rfl
theorem Lnumber_spec (ns : List Int) (k : Nat) : ∃ v : Int, 0 ≤ v ∧ MLnumber [.lst (ns.map D.int), .int k] = .ok (.int v) := by
  unfold MLnumber BLnumber
  rw [runF_def]
  by_cases h : (k : Int) < ns.length
  · have hk : k < ns.length := by omega
    simp -implicitDefEqProofs [asInts_map', h, List.getElem?_eq_getElem hk]
    split <;> omega
  · simp -implicitDefEqProofs [asInts_map', h]
    split <;> omega
theorem hpow18 : opPow (.int 10) (.int 18) = some (.int 1000000000000000000) := (rfl)
theorem asI_0 : asI (.int 0) = some 0 := (rfl)
theorem Ldraws_a (ns : List Int) (k count : Nat) (many v : Int) (hc : count ≤ 1000000) (h1 : 0 < many) (h2 : many < 1073741824) (hv : 0 ≤ v) (e : MLnumber [.lst (ns.map D.int), .int k] = .ok (.int v)) (h : (1000000000000000000 : Int) ≤ v) : ∃ l : List Int, MLdraws [.lst (ns.map D.int), .int k, .int count, .int many] = .ok (.lst (l.map D.int)) ∧ l.length = count ∧ ∀ x ∈ l, 0 ≤ x ∧ x < many := by
  unfold MLdraws BLdraws
  rw [runF_def]
  have hi : asI (.int (count : Int)) = some (count : Int) := by rw [asI_int, if_pos ⟨by omega, by omega⟩]
  obtain ⟨c', hc', l, x, st, hcl, hll, hlx⟩ := forL_rg 6 (sSeq (sApp 5 (eOp2 (opMod) (eV 4) (eV 3))) (sSet 4 (eOp2 (opDiv) (eV 4) (eV 3)))) count
    (fun j c => ∃ (l : List Int) (x : Option O) (st : Int), c = [some (.v (.lst (ns.map D.int))), some (.v (.int k)), some (.v (.int count)), some (.v (.int many)), some (.v (.int st)), some (.lst (l.map fun i => .v (.int i))), x, none, none] ∧ l.length = j ∧ ∀ x ∈ l, 0 ≤ x ∧ x < many)
    [some (.v (.lst (ns.map D.int))), some (.v (.int k)), some (.v (.int count)), some (.v (.int many)), some (.v (.int (v - 1000000000000000000))), some (.lst []), none, none, none]
    (by
      rintro j c hj ⟨l, x, st, rfl, hl, hx⟩
      have hlt : j < 16777216 := by omega
      refine ⟨_, by simp -implicitDefEqProofs [hlt, hl, h1, h2]; rfl, l ++ [st % many], some (.v (.int j)), st / many, by simp, by simp -implicitDefEqProofs [hl], ?_⟩
      intro y hy
      rcases List.mem_append.mp hy with hy | hy
      · exact hx y hy
      · rw [List.mem_singleton.mp hy]; exact ⟨Int.emod_nonneg _ (by omega), Int.emod_lt_of_pos _ h1⟩)
    ⟨[], none, v - 1000000000000000000, by simp, rfl, by simp⟩
  refine ⟨l, ?_, by rw [hll]; simp, hlx⟩
  simp -implicitDefEqProofs [e, hpow18, h, hi, asI_0]
  rw [hc', hcl]; simp

theorem Ldraws_b (ns : List Int) (k count : Nat) (many v : Int) (hc : count ≤ 1000000) (h1 : 0 < many) (h2 : many < 1073741824) (hv : 0 ≤ v) (e : MLnumber [.lst (ns.map D.int), .int k] = .ok (.int v)) (h : ¬ (1000000000000000000 : Int) ≤ v) : ∃ l : List Int, MLdraws [.lst (ns.map D.int), .int k, .int count, .int many] = .ok (.lst (l.map D.int)) ∧ l.length = count ∧ ∀ x ∈ l, 0 ≤ x ∧ x < many := by
  unfold MLdraws BLdraws
  rw [runF_def]
  have hi : asI (.int (count : Int)) = some (count : Int) := by rw [asI_int, if_pos ⟨by omega, by omega⟩]
  obtain ⟨c', hc', l, x, y, st, hcl, hll, hlx, _⟩ := forL_rg 6 (sSeq (sSet 7 (eOp2 (opMod) (eOp2 (opAdd true true) (eOp2 (opAdd true true) (eOp2 (opMul) (eV 7) (eC (.int 48271))) (eOp2 (opMul) (eC (.int 11)) (eV 6))) (eC (.int 7))) (eC (.int 2147483647))))
  (sSeq (sSet 8 (eOp2 (opMod) (eOp2 (opAdd true true) (eOp2 (opAdd true true) (eOp2 (opMul) (eV 7) (eV 7)) (eOp2 (opMul) (eC (.int 69621)) (eV 6))) (eC (.int 5))) (eC (.int 2147483629))))
  (sApp 5 (eOp2 (opMod) (eOp2 (opDiv) (eV 8) (eC (.int 64))) (eV 3))))) count
    (fun j c => ∃ (l : List Int) (x y : Option O) (st : Int), c = [some (.v (.lst (ns.map D.int))), some (.v (.int k)), some (.v (.int count)), some (.v (.int many)), some (.v (.int v)), some (.lst (l.map fun i => .v (.int i))), x, some (.v (.int st)), y] ∧ l.length = j ∧ (∀ x ∈ l, 0 ≤ x ∧ x < many) ∧ 0 ≤ st ∧ st < 2 ^ 32)
    [some (.v (.lst (ns.map D.int))), some (.v (.int k)), some (.v (.int count)), some (.v (.int many)), some (.v (.int v)), some (.lst []), none, some (.v (.int (v % 2147483647 + 1))), none]
    (by
      rintro j c hj ⟨l, x, y, st, rfl, hl, hx, hs, hs'⟩
      have g1 : 0 ≤ (st * 48271 + 11 * (j : Int) + 7) % 2147483647 := Int.emod_nonneg _ (by omega)
      have g2 : (st * 48271 + 11 * (j : Int) + 7) % 2147483647 < 2147483647 := Int.emod_lt_of_pos _ (by omega)
      have hlt : j < 16777216 := by omega
      have g3 : -18446744073709551616 < (st * 48271 + 11 * (j : Int) + 7) % 2147483647 := by omega
      have g4 : (st * 48271 + 11 * (j : Int) + 7) % 2147483647 < 18446744073709551616 := by omega
      refine ⟨_, by simp -implicitDefEqProofs [hlt, hl, h1, h2, g3, g4]; rfl, l ++ [(((st * 48271 + 11 * (j : Int) + 7) % 2147483647) * ((st * 48271 + 11 * (j : Int) + 7) % 2147483647) + 69621 * (j : Int) + 5) % 2147483629 / 64 % many], some (.v (.int j)), some (.v (.int ((((st * 48271 + 11 * (j : Int) + 7) % 2147483647) * ((st * 48271 + 11 * (j : Int) + 7) % 2147483647) + 69621 * (j : Int) + 5) % 2147483629))), (st * 48271 + 11 * (j : Int) + 7) % 2147483647, by simp, by simp -implicitDefEqProofs [hl], ?_, g1, by omega⟩
      intro y hy
      rcases List.mem_append.mp hy with hy | hy
      · exact hx y hy
      · rw [List.mem_singleton.mp hy]; exact ⟨Int.emod_nonneg _ (by omega), Int.emod_lt_of_pos _ h1⟩)
    ⟨[], none, none, v % 2147483647 + 1, by simp, rfl, by simp, by omega, by omega⟩
  refine ⟨l, ?_, by rw [hll]; simp, hlx⟩
  simp -implicitDefEqProofs [e, hpow18, h, hi, asI_0]
  rw [hc', hcl]; simp

theorem Ldraws_spec (ns : List Int) (k count : Nat) (many : Int) (hc : count ≤ 1000000) (h1 : 0 < many) (h2 : many < 1073741824) : ∃ l : List Int, MLdraws [.lst (ns.map D.int), .int k, .int count, .int many] = .ok (.lst (l.map D.int)) ∧ l.length = count ∧ ∀ x ∈ l, 0 ≤ x ∧ x < many := by
  obtain ⟨v, hv, e⟩ := Lnumber_spec ns k
  by_cases h : (1000000000000000000 : Int) ≤ v
  · exact Ldraws_a ns k count many v hc h1 h2 hv e h
  · exact Ldraws_b ns k count many v hc h1 h2 hv e h
end GW

namespace GW
open PySem PySem.Spec PyProof.Rows L2 VS
theorem Lsame_loop (m : Nat) (ds : List D) (tu : List D → D) (htu : tu = D.lst ∨ tu = D.tup) (h : ∀ d ∈ ds, MLsameN m [d, d] = .ok (.bl true)) :
    ∃ c', forL 2 (sIf (tNot' (eTru (eCall (MLsameN m) (eCons (eOp2 (opIx true) (eV 0) (eV 2)) (eCons (eOp2 (opIx true) (eV 1) (eV 2)) eNil))))) (sRet (eC (.bl false))) sNil) (rangeD 0 ds.length) [some (.v (tu ds)), some (.v (tu ds)), none] = .ok .nx c' := by
  obtain ⟨c', h1, _⟩ := forL_rg 2 (sIf (tNot' (eTru (eCall (MLsameN m) (eCons (eOp2 (opIx true) (eV 0) (eV 2)) (eCons (eOp2 (opIx true) (eV 1) (eV 2)) eNil))))) (sRet (eC (.bl false))) sNil) ds.length
    (fun j c => ∃ x, c = [some (.v (tu ds)), some (.v (tu ds)), x]) [some (.v (tu ds)), some (.v (tu ds)), none]
    (by
      rintro j c hj ⟨x, rfl⟩
      have hj' : j < ds.length := by omega
      have hd : atI ds (j : Int) = some ds[j] := by rw [atI_ofNat, List.getElem?_eq_getElem hj']
      have hm := h _ (List.getElem_mem hj')
      refine ⟨_, ?_, some (.v (.int j)), rfl⟩
      rcases htu with rfl | rfl <;> simp -implicitDefEqProofs [hd, hm]) ⟨none, rfl⟩
  exact ⟨c', h1⟩
theorem Lsame_n {n : Nat} {d : D} (s : Sm n d) : ∀ m, n < m → MLsameN m [d, d] = .ok (.bl true) := by
  induction s with
  | non => rintro (_ | m) h; · omega
           simp -implicitDefEqProofs [MLsameN, BLsame, isI, opEq, D.eqv]
  | bl t => rintro (_ | m) h; · omega
            simp -implicitDefEqProofs [MLsameN, BLsame, isI]
  | int i => rintro (_ | m) h; · omega
             simp -implicitDefEqProofs [MLsameN, BLsame, isI]
  | str l hl =>
    rintro (_ | m) h; · omega
    simp -implicitDefEqProofs [MLsameN, BLsame, isI, opEq_self (d := .str l) (by rw [pln_str]; exact hl)]
  | lst ds hl hk ih =>
    rintro (_ | m) h; · omega
    obtain ⟨c', e⟩ := Lsame_loop m ds D.lst (.inl rfl) fun d hd => ih d hd m (by omega)
    simp -implicitDefEqProofs [MLsameN, BLsame, isI, asI_small (i := (ds.length : Int)) (by omega) hl, asI_zero]
    rw [e]
  | tup ds hl hk ih =>
    rintro (_ | m) h; · omega
    obtain ⟨c', e⟩ := Lsame_loop m ds D.tup (.inr rfl) fun d hd => ih d hd m (by omega)
    simp -implicitDefEqProofs [MLsameN, BLsame, isI, asI_small (i := (ds.length : Int)) (by omega) hl, asI_zero]
    rw [e]
theorem Lsame_ok {d : D} (s : Sm 63 d) : MLsame [d, d] = .ok (.bl true) := Lsame_n s 64 (by omega)
end GW

namespace GW
open PySem PySem.Spec PyProof.Rows L2 VS
/-! machines -/
abbrev ni (x : Nat) : D := .int (x : Int)
def rowD (r : List Nat) : D := .tup (r.map ni)
def mach (lt : Nat) (rows : List (List Nat)) (fin : List Nat) : D := .tup [.int lt, .tup (rows.map rowD), .tup (fin.map ni)]
structure Wf (lt n : Nat) (rows : List (List Nat)) : Prop where
  l1 : 1 ≤ lt
  l2 : lt ≤ 3
  n1 : 0 < n
  n2 : n ≤ 1100
  len : rows.length = n
  row : ∀ r ∈ rows, r.length = lt ∧ ∀ x ∈ r, x < n
def rowAt (rows : List (List Nat)) (p : Nat) : List Nat := rows.getD p []
def stp (rows : List (List Nat)) (p c : Nat) : Nat := (rowAt rows p).getD (c - 97) 0
def run (rows : List (List Nat)) (p : Nat) (w : List Nat) : Nat := w.foldl (stp rows) p
def Wd' (lt : Nat) (w : List Nat) : Prop := ∀ c ∈ w, 97 ≤ c ∧ c < 97 + lt
section
variable {lt n : Nat} {rows : List (List Nat)} {fin : List Nat}
theorem ix0 : opIx true (mach lt rows fin) (.int 0) = some (.int lt) := (rfl)
theorem ix1 : opIx true (mach lt rows fin) (.int 1) = some (.tup (rows.map rowD)) := (rfl)
theorem ixf : opIx true (mach lt rows fin) (.int 2) = some (.tup (fin.map ni)) := (rfl)
theorem Wf.getrow (h : Wf lt n rows) {p : Nat} (hp : p < n) : rowAt rows p ∈ rows ∧ rows[p]? = some (rowAt rows p) := by
  have : p < rows.length := by rw [h.len]; exact hp
  unfold rowAt
  rw [List.getD_eq_getElem?_getD, List.getElem?_eq_getElem this]
  exact ⟨List.getElem_mem this, rfl⟩
theorem ix2 (h : Wf lt n rows) {p : Nat} (hp : p < n) : opIx true (.tup (rows.map rowD)) (.int (p : Int)) = some (.tup ((rowAt rows p).map ni)) := by
  rw [opIx_tup, atI_ofNat, List.getElem?_map, (h.getrow hp).2]
  rfl
theorem ix3 (h : Wf lt n rows) {p k : Nat} (hp : p < n) (hk : k < lt) : opIx true (.tup ((rowAt rows p).map ni)) (.int (k : Int)) = some (.int ((stp rows p (97 + k) : Nat) : Int)) ∧ stp rows p (97 + k) < n := by
  have hr := h.row _ (h.getrow hp).1
  have hk' : k < (rowAt rows p).length := by omega
  unfold stp
  rw [opIx_tup, atI_ofNat, List.getElem?_map, Nat.add_sub_cancel_left, List.getD_eq_getElem?_getD (i := k), List.getElem?_eq_getElem hk']
  exact ⟨rfl, hr.2 _ (List.getElem_mem hk')⟩
theorem idx_let {k : Nat} (hk : k < 3) : fSIndex [97, 98, 99] [.str [97 + k]] = some (.int (k : Int)) := by
  have : k = 0 ∨ k = 1 ∨ k = 2 := by omega
  have o : Builtin.Str.occurrences (S [97, 98, 99]) (S [97]) 0 3 1 = [0] ∧ Builtin.Str.occurrences (S [97, 98, 99]) (S [98]) 0 3 1 = [1] ∧ Builtin.Str.occurrences (S [97, 98, 99]) (S [99]) 0 3 1 = [2] := by decide +kernel
  rcases this with rfl | rfl | rfl <;> simp [fSIndex, o]
theorem run_app (p : Nat) (w : List Nat) (c : Nat) : run rows p (w ++ [c]) = stp rows (run rows p w) c := by
  unfold run; rw [List.foldl_append]; rfl
theorem stp_lt (h : Wf lt n rows) {p c : Nat} (hp : p < n) (h1 : 97 ≤ c) (h2 : c < 97 + lt) : stp rows p c < n := by
  have := (ix3 h hp (k := c - 97) (by omega)).2
  rwa [Nat.add_sub_cancel' h1] at this
theorem run_lt (h : Wf lt n rows) : ∀ (w : List Nat) (p : Nat), p < n → Wd' lt w → run rows p w < n
  | [], p, hp, _ => hp
  | c :: w, p, hp, hw => run_lt h w _ (stp_lt h hp (hw c List.mem_cons_self).1 (hw c List.mem_cons_self).2) fun d hd => hw d (List.mem_cons_of_mem _ hd)
theorem Wd'.take (j : Nat) {w : List Nat} (hw : Wd' lt w) : Wd' lt (w.take j) := fun c hc => hw c (List.mem_of_mem_take hc)
end
end GW

namespace VS
open PySem
theorem compL_mapm {α : Type} (g : Env → R D) (i : Nat) (c : Env) (k : α → D) (f : α → D) : ∀ (l : List α), (∀ x ∈ l, g (c.set i (some (.v (k x)))) = .ok (f x)) → compL tYes' g i c (l.map k) = .ok (l.map f)
  | [], _ => rfl
  | d :: ds, h => by
    rw [List.map_cons, compL_cons, tYes_def]
    simp only [noX_ok, ok_bind, if_true]
    rw [h d List.mem_cons_self, compL_mapm g i c k f ds fun d hd => h d (List.mem_cons_of_mem _ hd)]
    rfl
theorem compL_filterm {α : Type} (t : Env → R Bool) (g : Env → R D) (i : Nat) (c : Env) (k : α → D) (p : α → Bool) (f : α → D) : ∀ (l : List α), (∀ x ∈ l, t (c.set i (some (.v (k x)))) = .ok (p x)) → (∀ x ∈ l, p x = true → g (c.set i (some (.v (k x)))) = .ok (f x)) → compL t g i c (l.map k) = .ok ((l.filter p).map f)
  | [], _, _ => rfl
  | d :: ds, h, q => by
    have ih := compL_filterm t g i c k p f ds (fun d hd => h d (List.mem_cons_of_mem _ hd)) fun d hd => q d (List.mem_cons_of_mem _ hd)
    rw [List.map_cons, compL_cons, h d List.mem_cons_self]
    simp only [noX_ok, ok_bind]
    cases hp : p d with
    | true =>
      rw [if_pos rfl, q d List.mem_cons_self hp, ih, List.filter_cons_of_pos hp]
      rfl
    | false =>
      rw [if_neg (by decide), ih, List.filter_cons_of_neg (by simp [hp])]
end VS
namespace GW
open PySem PySem.Spec PyProof.Rows L2 VS
section
variable {lt n : Nat} {rows : List (List Nat)} {fin : List Nat}
theorem abc_at {k : Nat} (hk : k < 3) : opIx true (.str [97, 98, 99]) (.int (k : Int)) = some (.str [97 + k]) := by
  have : k = 0 ∨ k = 1 ∨ k = 2 := by omega
  rcases this with rfl | rfl | rfl <;> rfl
theorem joinL_one (l : List Nat) : TL.joinL [] (l.map fun x => [x]) = l := by
  induction l with
  | nil => rfl
  | cons a l ih =>
    cases l with
    | nil => rfl
    | cons b l =>
      rw [List.map_cons, List.map_cons, TL.joinL]
      simpa using ih
theorem flats_ni : ∀ r : List Nat, D.flats (r.map ni) = true
  | [] => by simp [D.flats]
  | a :: r => by rw [List.map_cons, D.flats, flats_ni r]; rfl
theorem flats_rows {α : Type} (f : α → List Nat) : ∀ l : List α, D.flats (l.map fun a => rowD (f a)) = true
  | [] => by simp [D.flats]
  | a :: r => by rw [List.map_cons, D.flats, flats_rows f r, rowD, D.flat, flats_ni]; rfl
theorem Lmachine_spec (ns : List Int) (k : Nat) (h1 : 1 ≤ lt) (h2 : lt ≤ 3) (h3 : 0 < n) (h4 : n ≤ 1100) :
    ∃ rows fin, MLmachine [.lst (ns.map D.int), .int k, .int lt, .int n] = .ok (mach lt rows fin) ∧ Wf lt n rows ∧ (∀ x ∈ fin, x < n) ∧ fin.length ≤ n ∧ fin.Pairwise (· < ·) := by
  obtain ⟨l, e, hl, hx⟩ := Ldraws_spec ns k (n * lt + n) (n * 2) (by have := Nat.mul_le_mul h4 h2; omega) (by omega) (by omega)
  have ec : ((n * lt + n : Nat) : Int) = (n : Int) * lt + n := by push_cast; rfl
  rw [ec] at e
  have hn1 : -18446744073709551616 < (n : Int) := by omega
  have hn2 : (n : Int) < 18446744073709551616 := by omega
  obtain ⟨R, hR⟩ : ∃ R : Nat → List Nat, ∀ p, R p = ((l.drop (p * lt)).take lt).map fun x => (x % (n : Int)).toNat := ⟨_, fun _ => rfl⟩
  obtain ⟨c', e1, x, hc⟩ := forL_rg 6 (sApp 5 (eFn (fTuple true) (eCons (eLc (eIt true (eSl true (eV 4) (eO (eOp2 (opMul) (eV 6) (eV 2))) (eO (eOp2 (opAdd true true) (eOp2 (opMul) (eV 6) (eV 2)) (eV 2))))) tYes' (eOp2 (opMod) (eV 8) (eV 3)) 8) eNil))) n
    (fun j c => ∃ x, c = [some (.v (.lst (ns.map D.int))), some (.v (.int k)), some (.v (.int lt)), some (.v (.int n)), some (.v (.lst (l.map D.int))), some (.lst ((List.range j).map fun p => .v (rowD (R p)))), x, none, none])
    [some (.v (.lst (ns.map D.int))), some (.v (.int k)), some (.v (.int lt)), some (.v (.int n)), some (.v (.lst (l.map D.int))), some (.lst []), none, none, none] (by
      rintro j c hj ⟨x, rfl⟩
      refine ⟨_, ?_, some (.v (.int j)), rfl⟩
      have a1 : ((j * lt : Nat) : Int) = (j : Int) * lt := by push_cast; rfl
      have a2 : ((j * lt + lt : Nat) : Int) = (j : Int) * lt + lt := by push_cast; rfl
      have hjl : j * lt + lt ≤ l.length := by
        rw [hl]
        have : (j + 1) * lt ≤ n * lt := Nat.mul_le_mul_right _ (by omega)
        rw [Nat.succ_mul] at this
        omega
      have hcut : cutD (l.map D.int) (some ((j : Int) * lt)) (some ((j : Int) * lt + lt)) = ((l.drop (j * lt)).take lt).map D.int := by
        rw [← a2, ← a1, cut_nat, List.length_map, Nat.min_eq_left (by omega), Nat.min_eq_left (by omega), Nat.add_sub_cancel_left, List.map_take, List.map_drop]
      have ecmp := compL_mapm (eOp2 (opMod) (eV 8) (eV 3)) 8 [some (.v (.lst (ns.map D.int))), some (.v (.int k)), some (.v (.int lt)), some (.v (.int n)), some (.v (.lst (l.map D.int))), some (.lst ((List.range j).map fun p => .v (rowD (R p)))), some (.v (.int j)), none, none] D.int (fun x => D.int ((x % (n : Int)).toNat : Nat)) ((l.drop (j * lt)).take lt) (by
        intro x hx
        simp -implicitDefEqProofs [h3, Int.toNat_of_nonneg (Int.emod_nonneg x (show (n : Int) ≠ 0 by omega))])
      have hlen : ((l.drop (j * lt)).take lt).length ≤ 16777216 := by rw [List.length_take]; omega
      simp -implicitDefEqProofs [show -18446744073709551616 < (j : Int) by omega, show (j : Int) < 18446744073709551616 by omega, hcut, -List.map_take, -List.map_drop, -List.length_take]
      rw [ecmp]
      simp -implicitDefEqProofs [-List.length_take, -List.map_take, -List.map_drop]
      rw [if_pos (by rw [List.length_take, List.length_drop]; omega)]
      simp -implicitDefEqProofs [-List.length_take, -List.map_take, -List.map_drop, show j < 16777216 by omega, List.range_succ, rowD, hR, Function.comp_def]) ⟨none, by simp⟩
  obtain ⟨q, hp⟩ : ∃ q : Nat → Int, ∀ p, p < n → atI (l.map D.int) ((n : Int) * lt + p) = some (.int (q p)) := by
    refine ⟨fun p => l.getD (n * lt + p) 0, ?_⟩
    intro p hp
    have : ((n * lt + p : Nat) : Int) = (n : Int) * lt + p := by push_cast; rfl
    have h : n * lt + p < l.length := by omega
    rw [← this, atI_map_int, List.getElem?_eq_getElem h]
    simp [List.getElem?_eq_getElem h]
  have e2 := compL_filterm (eB (eOp2 (opEq) (eOp2 (opMod) (eOp2 (opIx true) (eV 4) (eOp2 (opAdd true true) (eOp2 (opMul) (eV 3) (eV 2)) (eV 6))) (eC (.int 2))) (eC (.int 1)))) (eV 6) 6
    ([some (.v (.lst (ns.map D.int))), some (.v (.int k)), some (.v (.int lt)), some (.v (.int n)), some (.v (.lst (l.map D.int))), some (.lst ((List.range n).map fun p => .v (rowD (R p)))), x, none, none] : VS.Env) ni (fun p => q p % 2 == 1) ni (List.range n)
    (by
      intro p hpm
      simp -implicitDefEqProofs [hn1, hn2, hp p (List.mem_range.mp hpm)])
    (by
      intro p hpm _
      simp -implicitDefEqProofs)
  refine ⟨(List.range n).map R, (List.range n).filter (fun p => q p % 2 == 1), ?_, ?_, ?_⟩
  · have er : rangeD 0 n = (List.range n).map ni := rangeD_nat n
    have hf : ((List.range n).filter (fun p => q p % 2 == 1)).length ≤ 16777216 := by
      have := List.length_filter_le (fun p => q p % 2 == 1) (List.range n)
      rw [List.length_range] at this
      omega
    unfold MLmachine BLmachine
    refine ret_of (.seq (.set (by simp -implicitDefEqProofs [hn1, hn2]; exact congrArg noX e)) (.seq (.setO (by simp -implicitDefEqProofs)) (.seq (.for (by simp -implicitDefEqProofs [asI_zero, asI_small (i := (n : Int)) (by omega) (by omega)]) (e1.trans (by rw [hc, Int.toNat_natCast]))) (.seq (.set (d := .lst (((List.range n).filter (fun p => q p % 2 == 1)).map ni)) ?_) (.ret ?_)))))
    · simp -implicitDefEqProofs [asI_zero, asI_small (i := (n : Int)) (by omega) (by omega), er]
      rw [e2]
      simp -implicitDefEqProofs [hf]
    · simp -implicitDefEqProofs [mach, Function.comp_def, D.flats, flats_rows]
  · exact ⟨h1, h2, h3, h4, by simp, by
      intro r hr
      obtain ⟨p, hp, rfl⟩ := List.mem_map.mp hr
      have hp := List.mem_range.mp hp
      refine ⟨?_, ?_⟩
      · simp only [hR, List.length_map, List.length_take, List.length_drop]
        have : (p + 1) * lt ≤ n * lt := Nat.mul_le_mul_right _ (by omega)
        rw [Nat.succ_mul] at this
        omega
      · intro x hx
        rw [hR] at hx
        obtain ⟨y, _, rfl⟩ := List.mem_map.mp hx
        have := Int.emod_lt_of_pos y (show (0 : Int) < n by omega)
        have := Int.emod_nonneg y (show (n : Int) ≠ 0 by omega)
        omega⟩
  · refine ⟨fun x hx => List.mem_range.mp (List.mem_filter.mp hx).1, ?_, List.pairwise_lt_range.filter _⟩
    have := List.length_filter_le (fun p => q p % 2 == 1) (List.range n)
    rw [List.length_range] at this
    exact this
end
end GW

namespace VS
open PySem PySem.Spec PyProof.Rows L2
/-- a loop each of whose turns goes on, or returns; told by the number of turns -/
theorem forL_ix {β : Type} (i : Nat) (g : Env → Rs) (emb : β → D) (P : Nat → Env → Prop) (R : D → Prop) : ∀ (xs : List β) (n : Nat) (c : Env), P n c →
    (∀ j c x, xs[j]? = some x → P (n + j) c → (∃ c', Nx g (c.set i (some (.v (emb x)))) c' ∧ P (n + j + 1) c') ∨ ∃ d, R d ∧ Ret g (c.set i (some (.v (emb x)))) d) →
    (∃ c', forL i g (xs.map emb) c = .ok .nx c' ∧ P (n + xs.length) c') ∨ ∃ d c', R d ∧ forL i g (xs.map emb) c = .ok (.rt d) c'
  | [], n, c, e, _ => .inl ⟨c, rfl, e⟩
  | x :: xs, n, c, e, h => by
    rcases h 0 c x rfl e with ⟨c', h1, e'⟩ | ⟨d, hp, c', h1⟩
    · have h1 : g (c.set i (some (.v (emb x)))) = .ok .nx c' := h1
      rcases forL_ix i g emb P R xs (n + 1) c' e' (fun j c y hy hP => by
        have := h (j + 1) c y (by simpa using hy) (by rw [show n + (j + 1) = n + 1 + j by omega]; exact hP)
        rw [show n + (j + 1) = n + 1 + j by omega] at this
        exact this) with ⟨c2, b, e2⟩ | ⟨d, c2, hd, b⟩
      · exact .inl ⟨c2, by rw [List.map_cons, forL_cons, h1]; exact b, by rw [List.length_cons, show n + (xs.length + 1) = n + 1 + xs.length by omega]; exact e2⟩
      · exact .inr ⟨d, c2, hd, by rw [List.map_cons, forL_cons, h1]; exact b⟩
    · exact .inr ⟨d, c', hp, by rw [List.map_cons, forL_cons, h1]⟩
theorem whileL_or (t : Env → R Bool) (g : Env → Rs) (P : Nat → Env → Prop) (Q : Env → Prop) (R : D → Prop) (h : ∀ m c, P m c → (t c = .ok false ∧ Q c) ∨ (t c = .ok true ∧ ∃ m' c', m' < m ∧ Nx g c c' ∧ P m' c') ∨ (t c = .ok true ∧ ∃ d, R d ∧ Ret g c d)) : ∀ (f m : Nat) (c : Env), m < f → P m c →
    (∃ c', whileL t g f c = .ok .nx c' ∧ Q c') ∨ ∃ d c', R d ∧ whileL t g f c = .ok (.rt d) c' := by
  intro f
  induction f with
  | zero => intro m c hm; omega
  | succ f ih =>
    intro m c hm p
    rcases h m c p with ⟨ht, q⟩ | ⟨ht, m', c', hlt, hg, p'⟩ | ⟨ht, d, hd, c', hg⟩
    · refine .inl ⟨c, ?_, q⟩
      rw [whileL, ht]; rfl
    · have hg : g c = .ok .nx c' := hg
      rcases ih m' c' (by omega) p' with ⟨c2, a, b⟩ | ⟨d, c2, a, b⟩
      · refine .inl ⟨c2, ?_, b⟩
        rw [whileL, ht, st_ok, if_pos rfl, hg]; exact a
      · refine .inr ⟨d, c2, a, ?_⟩
        rw [whileL, ht, st_ok, if_pos rfl, hg]; exact b
    · refine .inr ⟨d, c', hd, ?_⟩
      rw [whileL, ht, st_ok, if_pos rfl, hg]
theorem Ret.for {i : Nat} {gs : Env → R (List D)} {g : Env → Rs} {c : Env} {ds : List D} {d : D} (h : gs c = .ok ds) (k : ∃ c', forL i g ds c = .ok (.rt d) c') : Ret (sFor i gs g) c d := by
  obtain ⟨c', k⟩ := k
  exact ⟨c', by rw [sFor_def, h]; exact k⟩
theorem sNSet_def (i : Nat) (gi g : Env → R D) (c : Env) : sNSet i gi g c = (g c).st c fun d => (lift (atN i c)).st c fun q => (gi c).st c fun k => (lift (D.nk k)).st c fun kk => (lift (nPut q.1 q.2 k kk d)).st c fun o => .ok .nx (c.set i (some o)) := (rfl)
theorem eNIx_def (i : Nat) (gk : Env → R D) (c : Env) : eNIx i gk c = match atNk i c with
  | some q => gk c >>= fun k => lift (D.nk k) >>= fun kk => lift ((nGet q.1 q.2 kk).bind fun o => match o with | .v d => some d | _ => none)
  | none => .stuck := (rfl)
theorem eNIn_def (neg : Bool) (i : Nat) (gk : Env → R D) (c : Env) : eNIn neg i gk c = match atNk i c with
  | some q => gk c >>= fun k => lift (D.nk k) >>= fun kk => .ok (.bl (cond neg (!nHas q.1 kk) (nHas q.1 kk)))
  | none => .stuck := (rfl)
theorem eN1_def (gk gv : Env → R D) (c : Env) : eN1 gk gv c = gk c >>= fun k => gv c >>= fun d => lift (D.nk k) >>= fun _ => .ok (.ndc [k] [.v d]) := (rfl)
end VS
namespace GW
open PySem PySem.Spec PyProof.Rows L2 VS
abbrev oD (d : D) : Option O := some (.v d)
theorem okElT (ds : List D) : okEl true ds = true := by unfold okEl; rfl
theorem add_nat (a b : Nat) : opAdd true true (ni a) (ni b) = some (ni (a + b)) := by rw [opAdd_int]; simp [ni]
theorem nd_len : ∀ (n : Nat) {q : List Nat}, q.Nodup → (∀ p ∈ q, p < n) → q.length ≤ n
  | 0, q, _, h => by
    cases q with
    | nil => exact Nat.le_refl 0
    | cons x q => exact absurd (h x List.mem_cons_self) (Nat.not_lt_zero x)
  | n + 1, q, hn, h => by
    have h1 : (q.erase n).length ≤ n := nd_len n (hn.erase n) fun p hp => by
      have a := h p (List.mem_of_mem_erase hp)
      have b : p ≠ n := fun e => by
        rw [e] at hp
        exact ((List.Nodup.mem_erase_iff hn).mp hp).1 rfl
      omega
    by_cases e : n ∈ q
    · rw [List.length_erase_of_mem e] at h1
      omega
    · rw [List.erase_of_not_mem e] at h1
      omega
/-! pairs of states -/
abbrev Pr := Nat × Nat
def pD (a : Pr) : D := .tup [ni a.1, ni a.2]
def kP (a : Pr) : NestedKey := .tup [.num a.1, .num a.2]
theorem nk_pair (a : Pr) : D.nk (pD a) = some (kP a) := by
  unfold pD D.nk
  simp only [D.nq, D.nqs, Option.bind_some, Option.map_some]
  rw [if_pos (by simp [NestedKey.depth, NestedKey.depthAll])]
  rfl
theorem kP_inj {a b : Pr} : kP a = kP b ↔ a = b := by
  constructor
  · intro h
    unfold kP at h
    injection h with h
    injection h with h1 h2
    injection h2 with h2 _
    injection h1 with h1
    injection h2 with h2
    exact Prod.ext (by omega) (by omega)
  · rintro rfl; rfl
theorem nHas_pairs (K : List Pr) (a : Pr) : nHas (K.map pD) (kP a) = decide (a ∈ K) := by
  unfold nHas
  rw [List.any_map, Bool.eq_iff_iff, List.any_eq_true, decide_eq_true_iff]
  constructor
  · rintro ⟨x, hx, h⟩
    have h : D.nk (pD x) = some (kP a) := of_decide_eq_true h
    rw [nk_pair] at h
    rw [← kP_inj.mp (Option.some.inj h)]; exact hx
  · intro h
    exact ⟨a, h, decide_eq_true (nk_pair a)⟩
theorem nPut_new {K : List Pr} {os : List O} {a : Pr} {d : D} (h : a ∉ K) (hl : K.length ≤ 4000000) : nPut (K.map pD) os (pD a) (kP a) d = some (.ndc ((K ++ [a]).map pD) (os ++ [.v d])) := by
  unfold nPut
  rw [List.length_map, if_pos (by omega), nHas_pairs, decide_eq_false h, if_neg Bool.false_ne_true, List.map_append]; rfl
theorem nRep_true (k : NestedKey) : ∀ K : List Pr, nRep (K.map pD) (K.map fun _ => O.v (.bl true)) k (.bl true) = K.map fun _ => O.v (.bl true)
  | [] => rfl
  | x :: K => by rw [List.map_cons, List.map_cons, nRep, nRep_true k K, ite_self]
theorem nPut_true {K : List Pr} {a : Pr} (hl : K.length ≤ 4000000) : nPut (K.map pD) (K.map fun _ => O.v (.bl true)) (pD a) (kP a) (.bl true) = some (.ndc ((if a ∈ K then K else K ++ [a]).map pD) ((if a ∈ K then K else K ++ [a]).map fun _ => O.v (.bl true))) := by
  by_cases h : a ∈ K
  · unfold nPut
    rw [List.length_map, if_pos (by omega), nHas_pairs, decide_eq_true h, if_pos rfl, nRep_true, if_pos h]
  · rw [nPut_new h hl, if_neg h, List.map_append, List.map_append]; rfl
theorem pr_len {n1 n2 : Nat} {K : List Pr} (hn : K.Nodup) (h : ∀ a ∈ K, a.1 < n1 ∧ a.2 < n2) : K.length ≤ n1 * n2 := by
  have hnd : (K.map fun a => a.1 * n2 + a.2).Nodup := by
    unfold List.Nodup
    rw [List.pairwise_map]
    refine List.Pairwise.imp_of_mem ?_ hn
    intro a b ha hb hab e
    have h1 := h a ha
    have h2 := h b hb
    have hpos : 0 < n2 := by omega
    have e1 : a.1 = b.1 := by
      have := congrArg (· / n2) e
      simp only [Nat.mul_comm _ n2] at this
      rw [Nat.mul_add_div hpos, Nat.mul_add_div hpos, Nat.div_eq_of_lt h1.2, Nat.div_eq_of_lt h2.2] at this
      omega
    rw [e1] at e
    exact hab (Prod.ext e1 (by omega))
  have := nd_len (n1 * n2) hnd fun p hp => by
    obtain ⟨a, ha, rfl⟩ := List.mem_map.mp hp
    have h1 := h a ha
    have : (a.1 + 1) * n2 ≤ n1 * n2 := Nat.mul_le_mul_right _ h1.1
    rw [Nat.succ_mul] at this
    omega
  rwa [List.length_map] at this
/-! the search for a word that parts -/
abbrev It := List Nat × Pr
section
variable {lt n1 n2 p0 q0 : Nat} {r1 r2 : List (List Nat)} {f1 f2 : List Nat}
def nxt (r1 r2 : List (List Nat)) (a : Pr) (k : Nat) : Pr := (stp r1 a.1 (97 + k), stp r2 a.2 (97 + k))
def exp1 (r1 r2 : List (List Nat)) (it : It) (L : List It) (k : Nat) : List It := if nxt r1 r2 it.2 k ∈ L.map (·.2) then L else L ++ [(it.1 ++ [97 + k], nxt r1 r2 it.2 k)]
def expd (r1 r2 : List (List Nat)) (it : It) (L : List It) (j : Nat) : List It := (List.range j).foldl (exp1 r1 r2 it) L
theorem expd_succ (it : It) (L : List It) (j : Nat) : expd r1 r2 it L (j + 1) = exp1 r1 r2 it (expd r1 r2 it L j) j := by
  unfold expd
  rw [List.range_succ, List.foldl_append]; rfl
def dif (f1 f2 : List Nat) (a : Pr) : Bool := !(decide (a.1 ∈ f1) == decide (a.2 ∈ f2))
def srch (r1 r2 : List (List Nat)) (f1 f2 : List Nat) (lt : Nat) : Nat → Nat → List It → Option (List Nat)
  | 0, _, _ => none
  | m + 1, a, L => match L[a]? with
    | none => none
    | some it => if dif f1 f2 it.2 then some it.1 else srch r1 r2 f1 f2 lt m (a + 1) (expd r1 r2 it L lt)
structure IvS (r1 r2 : List (List Nat)) (lt n1 n2 p0 q0 : Nat) (L : List It) : Prop where
  nd : (L.map (·.2)).Nodup
  wd : ∀ it ∈ L, Wd' lt it.1 ∧ run r1 p0 it.1 = it.2.1 ∧ run r2 q0 it.1 = it.2.2 ∧ it.2.1 < n1 ∧ it.2.2 < n2 ∧ it.1.length + 1 ≤ L.length
theorem IvS.len {L : List It} (I : IvS r1 r2 lt n1 n2 p0 q0 L) : L.length ≤ n1 * n2 := by
  have := pr_len (n1 := n1) (n2 := n2) I.nd fun a ha => by
    obtain ⟨it, hi, rfl⟩ := List.mem_map.mp ha
    exact ⟨(I.wd it hi).2.2.2.1, (I.wd it hi).2.2.2.2.1⟩
  rwa [List.length_map] at this
theorem IvS.exp1 (h1 : Wf lt n1 r1) (h2 : Wf lt n2 r2) {L : List It} (I : IvS r1 r2 lt n1 n2 p0 q0 L) {it : It} (hi : it ∈ L) {k : Nat} (hk : k < lt) :
    IvS r1 r2 lt n1 n2 p0 q0 (GW.exp1 r1 r2 it L k) ∧ nxt r1 r2 it.2 k ∈ (GW.exp1 r1 r2 it L k).map (·.2) ∧ ∃ s, GW.exp1 r1 r2 it L k = L ++ s := by
  unfold GW.exp1
  by_cases hm : nxt r1 r2 it.2 k ∈ L.map (·.2)
  · rw [if_pos hm]
    exact ⟨I, hm, [], by simp⟩
  · rw [if_neg hm]
    obtain ⟨a, b, c, d, e, f⟩ := I.wd it hi
    refine ⟨⟨?_, fun x hx => ?_⟩, by simp, _, rfl⟩
    · rw [List.map_append, List.nodup_append]
      exact ⟨I.nd, by simp, fun x hx y hy e => hm (by
        have hy : y = nxt r1 r2 it.2 k := by simpa using hy
        rw [← hy, ← e]; exact hx)⟩
    · rw [List.length_append, List.length_singleton]
      rcases List.mem_append.mp hx with z | z
      · obtain ⟨a, b, c, d, e, f⟩ := I.wd x z
        exact ⟨a, b, c, d, e, by omega⟩
      · rw [List.mem_singleton.mp z]
        refine ⟨fun y hy => ?_, by rw [run_app, b]; rfl, by rw [run_app, c]; rfl, stp_lt h1 d (by omega) (by omega), stp_lt h2 e (by omega) (by omega), by rw [List.length_append, List.length_singleton]; omega⟩
        rcases List.mem_append.mp hy with w | w
        · exact a y w
        · rw [List.mem_singleton.mp w]; omega
theorem IvS.expd (h1 : Wf lt n1 r1) (h2 : Wf lt n2 r2) {L : List It} (I : IvS r1 r2 lt n1 n2 p0 q0 L) {it : It} (hi : it ∈ L) : ∀ j, j ≤ lt →
    IvS r1 r2 lt n1 n2 p0 q0 (GW.expd r1 r2 it L j) ∧ (∀ k < j, nxt r1 r2 it.2 k ∈ (GW.expd r1 r2 it L j).map (·.2)) ∧ ∃ s, GW.expd r1 r2 it L j = L ++ s
  | 0, _ => ⟨I, (fun k hk => absurd hk (Nat.not_lt_zero k)), [], by simp [GW.expd]⟩
  | j + 1, hj => by
    obtain ⟨a, b, s, hs⟩ := IvS.expd h1 h2 I hi j (by omega)
    have hi' : it ∈ GW.expd r1 r2 it L j := by rw [hs]; exact List.mem_append_left _ hi
    obtain ⟨c, d, s2, hs2⟩ := a.exp1 h1 h2 hi' (k := j) (by omega)
    rw [expd_succ]
    refine ⟨c, fun k hk => ?_, s ++ s2, by rw [hs2, hs, List.append_assoc]⟩
    by_cases e : k = j
    · rw [e]; exact d
    · rw [hs2, List.map_append]
      exact List.mem_append_left _ (b k (by omega))
theorem srch_spec (h1 : Wf lt n1 r1) (h2 : Wf lt n2 r2) : ∀ (m a : Nat) (L : List It), IvS r1 r2 lt n1 n2 p0 q0 L → a ≤ L.length → n1 * n2 + 1 ≤ m + a → (p0, q0) ∈ L.map (·.2) →
    (∀ it ∈ L.take a, dif f1 f2 it.2 = false ∧ ∀ k < lt, nxt r1 r2 it.2 k ∈ L.map (·.2)) →
    match srch r1 r2 f1 f2 lt m a L with
    | some w => Wd' lt w ∧ w.length ≤ n1 * n2 ∧ ¬ (run r1 p0 w ∈ f1 ↔ run r2 q0 w ∈ f2)
    | none => ∀ w, Wd' lt w → (run r1 p0 w ∈ f1 ↔ run r2 q0 w ∈ f2)
  | 0, a, L, I, ha, hm, _, _ => by
    have := I.len
    omega
  | m + 1, a, L, I, ha, hm, h0, hcl => by
    rw [srch]
    cases e : L[a]? with
    | none =>
      have hle : L.length ≤ a := by
        refine Classical.byContradiction fun z => ?_
        rw [List.getElem?_eq_getElem (by omega)] at e
        cases e
      rw [List.take_of_length_le hle] at hcl
      have key : ∀ (w : List Nat) (x : Pr), x ∈ L.map (·.2) → Wd' lt w → (run r1 x.1 w, run r2 x.2 w) ∈ L.map (·.2) := by
        intro w
        induction w with
        | nil => exact fun x hx _ => hx
        | cons c w ih =>
          intro x hx hwd
          obtain ⟨g1, g2⟩ := hwd c List.mem_cons_self
          obtain ⟨it, hi, rfl⟩ := List.mem_map.mp hx
          have := (hcl it hi).2 (c - 97) (by omega)
          unfold nxt at this
          rw [Nat.add_sub_cancel' g1] at this
          exact ih _ this fun d hd => hwd d (List.mem_cons_of_mem _ hd)
      intro w hwd
      obtain ⟨it, hi, he⟩ := List.mem_map.mp (key w _ h0 hwd)
      have := (hcl it hi).1
      have he : it.2 = (run r1 p0 w, run r2 q0 w) := he
      rw [he] at this
      unfold dif at this
      simpa using this
    | some it =>
      obtain ⟨hal, hit⟩ := List.getElem?_eq_some_iff.mp e
      have hi : it ∈ L := by rw [← hit]; exact List.getElem_mem hal
      obtain ⟨x1, x2, x3, x4, x5, x6⟩ := I.wd it hi
      cases hd : dif f1 f2 it.2 with
      | true =>
        dsimp only
        rw [if_pos hd]
        refine ⟨x1, by have := I.len; omega, ?_⟩
        rw [x2, x3]
        unfold dif at hd
        simpa using hd
      | false =>
        obtain ⟨I', b, s, hs⟩ := I.expd h1 h2 hi lt (Nat.le_refl _)
        dsimp only
        rw [if_neg (by rw [hd]; exact Bool.false_ne_true)]
        refine srch_spec h1 h2 m (a + 1) _ I' (by rw [hs, List.length_append]; omega) (by omega) (by rw [hs, List.map_append]; exact List.mem_append_left _ h0) fun y hy => ?_
        rw [hs, List.take_append_of_le_length (by omega), List.take_succ_eq_append_getElem hal, hit] at hy
        rcases List.mem_append.mp hy with z | z
        · refine ⟨(hcl y z).1, fun k hk => ?_⟩
          rw [hs, List.map_append]
          exact List.mem_append_left _ ((hcl y z).2 k hk)
        · rw [List.mem_singleton.mp z]
          exact ⟨hd, b⟩
end
end GW

namespace VS
open PySem PySem.Spec PyProof.Rows L2
theorem sTup_2 {i j : Nat} {g : Env → R D} {c : Env} {a b : D} (h : g c = .ok (.tup [a, b])) : Nx (sTup [i, j] g) c ((c.set i (some (.v a))).set j (some (.v b))) := by
  unfold Nx sTup
  rw [h]; rfl
end VS
namespace GW
open PySem PySem.Spec PyProof.Rows L2 VS
def enc : Option (List Nat) → D
  | none => .non
  | some w => .str w
theorem any_fin (p : Nat) : ∀ fin : List Nat, ((fin.map ni).any fun z => D.eqv z (.int p)) = decide (p ∈ fin)
  | [] => rfl
  | q :: fin => by
    rw [List.map_cons, List.any_cons, any_fin p fin, eqv_int]
    by_cases e : q = p
    · rw [e]; simp
    · have : ((q : Int) == (p : Int)) = false := by
        rw [beq_eq_false_iff_ne]; omega
      rw [this, Bool.false_or]
      by_cases h : p ∈ fin
      · rw [decide_eq_true h, decide_eq_true (List.mem_cons_of_mem _ h)]
      · rw [decide_eq_false h, decide_eq_false (fun z => by rcases List.mem_cons.mp z with z | z; exact e z.symm; exact h z)]
theorem plns_ni (n : Nat) : ∀ l : List Nat, D.plns n (l.map ni) = true
  | [] => by rw [List.map_nil, D.plns]
  | x :: l => by rw [List.map_cons, D.plns, pln_int, plns_ni n l]; rfl
theorem in_fin (p : Nat) (fin : List Nat) : opInS (ni p) (.tup (fin.map ni)) = some (.bl (decide (p ∈ fin))) := by
  unfold opInS
  rw [inS, if_pos (by rw [pln_int, pln_tup, plns_ni]; rfl), Option.map_some, any_fin]
section
variable {lt n1 n2 p0 q0 n : Nat} {r1 r2 rows : List (List Nat)} {f1 f2 fin : List Nat}
theorem isfin_spec (p : Nat) : Mis_final [mach lt rows fin, ni p] = .ok (.bl (decide (p ∈ fin))) := by
  have h := in_fin p fin
  unfold Mis_final Bis_final
  refine ret_of (.ret ?_)
  show (eOp2 _ _ _) [oD (mach lt rows fin), oD (ni p)] = _
  simp -implicitDefEqProofs only [eOp2_def, eC_def, eV_def, List.getElem?_cons_zero, List.getElem?_cons_succ, ok_bind, ixf, lift_some, h]
theorem atN_of {c : VS.Env} {i : Nat} {ks : List D} {os : List O} (h : c[i]? = some (some (.ndc ks os))) : atN i c = some (ks, os) := by unfold atN; rw [h]
theorem atNk_of {c : VS.Env} {i : Nat} {ks : List D} {os : List O} (h : c[i]? = some (some (.ndc ks os))) : atNk i c = some (ks, os) := by unfold atNk; rw [h]
theorem atNk_v {c : VS.Env} {i : Nat} {ks ds : List D} (h : c[i]? = some (oD (.ndk ks ds))) : atNk i c = some (ks, ds.map .v) := by unfold atNk; rw [h]
theorem nset_new {c : VS.Env} {i : Nat} {K : List Pr} {os : List O} {gi g : VS.Env → R D} {a : Pr} {d : D} (h : c[i]? = some (some (.ndc (K.map pD) os))) (hi : gi c = .ok (pD a)) (hg : g c = .ok d) (ha : a ∉ K) (hl : K.length ≤ 4000000) : Nx (sNSet i gi g) c (c.set i (some (.ndc ((K ++ [a]).map pD) (os ++ [.v d])))) := by
  unfold Nx
  rw [sNSet_def, hg, st_ok, atN_of h, lift_some, st_ok, hi, st_ok, nk_pair, lift_some, st_ok, nPut_new ha hl, lift_some, st_ok]
theorem nset_true {c : VS.Env} {i : Nat} {K : List Pr} {gi g : VS.Env → R D} {a : Pr} (h : c[i]? = some (some (.ndc (K.map pD) (K.map fun _ => O.v (.bl true))))) (hi : gi c = .ok (pD a)) (hg : g c = .ok (.bl true)) (hl : K.length ≤ 4000000) : Nx (sNSet i gi g) c (c.set i (some (.ndc ((if a ∈ K then K else K ++ [a]).map pD) ((if a ∈ K then K else K ++ [a]).map fun _ => O.v (.bl true))))) := by
  unfold Nx
  rw [sNSet_def, hg, st_ok, atN_of h, lift_some, st_ok, hi, st_ok, nk_pair, lift_some, st_ok, nPut_true hl, lift_some, st_ok]
theorem nin_is {c : VS.Env} {i : Nat} {K : List Pr} {os : List O} {gk : VS.Env → R D} {a : Pr} (neg : Bool) (h : atNk i c = some (K.map pD, os)) (hk : gk c = .ok (pD a)) : eNIn neg i gk c = .ok (.bl (cond neg (!decide (a ∈ K)) (decide (a ∈ K)))) := by
  rw [eNIn_def, h]
  show (gk c >>= fun k => lift (D.nk k) >>= fun kk => R.ok (D.bl (cond neg (!nHas (K.map pD) kk) (nHas (K.map pD) kk)))) = _
  rw [hk, ok_bind, nk_pair, lift_some, ok_bind, nHas_pairs]
abbrev wO (L : List It) : Option O := some (.ndc ((L.map (·.2)).map pD) (L.map fun it => O.v (.str it.1)))
abbrev qO (L : List It) : Option O := some (.lst (L.map fun it => O.v (pD it.2)))
theorem nGet_items : ∀ {L : List It} {it : It}, (L.map (·.2)).Nodup → it ∈ L → nGet ((L.map (·.2)).map pD) (L.map fun it => O.v (.str it.1)) (kP it.2) = some (.v (.str it.1))
  | [], it, _, h => nomatch h
  | x :: L, it, n, h => by
    rw [List.map_cons, List.map_cons, List.map_cons, nGet, nk_pair]
    rcases List.mem_cons.mp h with z | z
    · rw [z, if_pos rfl]
    · have hn := List.nodup_cons.mp (show (x.2 :: L.map (·.2)).Nodup from n)
      rw [if_neg (fun e => hn.1 (by rw [kP_inj.mp (Option.some.inj e)]; exact List.mem_map.mpr ⟨it, z, rfl⟩))]
      exact nGet_items hn.2 z
abbrev letB : VS.Env → Rs := (sSeq (sSet 11 (eFn fTup (eCons (eOp2 (opIx true) (eOp2 (opIx true) (eOp2 (opIx true) (eV 0) (eC (.int 1))) (eV 7)) (eV 10)) (eCons (eOp2 (opIx true) (eOp2 (opIx true) (eOp2 (opIx true) (eV 1) (eC (.int 1))) (eV 8)) (eV 10)) eNil))))
    (sIf (eB (eNIn true 4 (eV 11)))
    (sSeq (sNSet 4 (eV 11) (eOp2 (opAdd true true) (eV 9) (eOp2 (opIx true) (eC (.str [97, 98, 99])) (eV 10))))
    (sApp 5 (eV 11)))
    sNil))
theorem letter_step (h1 : Wf lt n1 r1) (h2 : Wf lt n2 r2) (hN : n1 * n2 ≤ 2000000) {L : List It} (I : IvS r1 r2 lt n1 n2 p0 q0 L) {it : It} (hi : it ∈ L) {k : Nat} (hk : k < lt) (x2 x3 x6 x11 : Option O) :
    ∃ y11, Nx letB [oD (mach lt r1 f1), oD (mach lt r2 f2), x2, x3, wO L, qO L, x6, oD (ni it.2.1), oD (ni it.2.2), oD (.str it.1), oD (ni k), x11] [oD (mach lt r1 f1), oD (mach lt r2 f2), x2, x3, wO (exp1 r1 r2 it L k), qO (exp1 r1 r2 it L k), x6, oD (ni it.2.1), oD (ni it.2.2), oD (.str it.1), oD (ni k), y11] := by
  obtain ⟨x1, _, _, hp, hq, hl⟩ := I.wd it hi
  have hlen := I.len
  have l2 := h1.l2
  have i1 := ix3 h1 hp hk
  have i2 := ix3 h2 hq hk
  have j1 := ix2 h1 hp
  have j2 := ix2 h2 hq
  have ab := abc_at (k := k) (by omega)
  have hset : Nx (sSet 11 (eFn fTup (eCons (eOp2 (opIx true) (eOp2 (opIx true) (eOp2 (opIx true) (eV 0) (eC (.int 1))) (eV 7)) (eV 10)) (eCons (eOp2 (opIx true) (eOp2 (opIx true) (eOp2 (opIx true) (eV 1) (eC (.int 1))) (eV 8)) (eV 10)) eNil)))) [oD (mach lt r1 f1), oD (mach lt r2 f2), x2, x3, wO L, qO L, x6, oD (ni it.2.1), oD (ni it.2.2), oD (.str it.1), oD (ni k), x11] [oD (mach lt r1 f1), oD (mach lt r2 f2), x2, x3, wO L, qO L, x6, oD (ni it.2.1), oD (ni it.2.2), oD (.str it.1), oD (ni k), oD (pD (nxt r1 r2 it.2 k))] := by
    refine .set (d := pD (nxt r1 r2 it.2 k)) ?_
    simp -implicitDefEqProofs only [eFn_def, eCons_def, eNil_def, eOp2_def, eV_def, eC_def, List.getElem?_cons_zero, List.getElem?_cons_succ, ok_bind, ix1, lift_some, j1, j2, i1.1, i2.1]
    rfl
  have ht : (eB (eNIn true 4 (eV 11))) [oD (mach lt r1 f1), oD (mach lt r2 f2), x2, x3, wO L, qO L, x6, oD (ni it.2.1), oD (ni it.2.2), oD (.str it.1), oD (ni k), oD (pD (nxt r1 r2 it.2 k))] = .ok (!decide (nxt r1 r2 it.2 k ∈ L.map (·.2))) := by
    rw [eB_def, nin_is (a := nxt r1 r2 it.2 k) true (atNk_of rfl) rfl]; rfl
  unfold GW.exp1
  by_cases hm : nxt r1 r2 it.2 k ∈ L.map (·.2)
  · rw [if_pos hm]
    exact ⟨_, .seq hset (.no (ht.trans (by rw [decide_eq_true hm]; rfl)) .nil)⟩
  · rw [if_neg hm]
    refine ⟨oD (pD (nxt r1 r2 it.2 k)), .seq hset (.yes (ht.trans (by rw [decide_eq_false hm]; rfl)) (.seq (c' := [oD (mach lt r1 f1), oD (mach lt r2 f2), x2, x3, wO (L ++ [(it.1 ++ [97 + k], nxt r1 r2 it.2 k)]), qO L, x6, oD (ni it.2.1), oD (ni it.2.2), oD (.str it.1), oD (ni k), oD (pD (nxt r1 r2 it.2 k))]) ?_ ?_))⟩
    · have hv : (eOp2 (opAdd true true) (eV 9) (eOp2 (opIx true) (eC (.str [97, 98, 99])) (eV 10))) [oD (mach lt r1 f1), oD (mach lt r2 f2), x2, x3, wO L, qO L, x6, oD (ni it.2.1), oD (ni it.2.2), oD (.str it.1), oD (ni k), oD (pD (nxt r1 r2 it.2 k))] = .ok (.str (it.1 ++ [97 + k])) := by
        simp -implicitDefEqProofs only [eOp2_def, eV_def, eC_def, List.getElem?_cons_zero, List.getElem?_cons_succ, ok_bind, ab, lift_some]
        rw [opAdd_str, if_pos (by rw [List.length_singleton]; omega)]; rfl
      refine (nset_new (K := L.map (·.2)) (a := nxt r1 r2 it.2 k) rfl rfl hv hm (by rw [List.length_map]; omega)).to ?_
      have e1 : (L ++ [(it.1 ++ [97 + k], nxt r1 r2 it.2 k)]).map (·.2) = L.map (·.2) ++ [nxt r1 r2 it.2 k] := by rw [List.map_append]; rfl
      have e2 : (L ++ [(it.1 ++ [97 + k], nxt r1 r2 it.2 k)]).map (fun it => O.v (.str it.1)) = L.map (fun it => O.v (.str it.1)) ++ [O.v (.str (it.1 ++ [97 + k]))] := by rw [List.map_append]; rfl
      unfold wO
      rw [e1, e2]; rfl
    · unfold Nx
      rw [sApp_def]
      show (if (L.map fun it => O.v (pD it.2)).length < 16777216 then _ else _) = _
      rw [List.length_map, if_pos (by omega)]
      show Rs.ok .nx [_, _, _, _, _, some (.lst (_ ++ [_])), _, _, _, _, _, _] = _
      unfold qO
      rw [List.map_append]; rfl
end
end GW

namespace GW
open PySem PySem.Spec PyProof.Rows L2 VS
def itD (it : It) : D := .tup [.str it.1, ni it.2.1, ni it.2.2]
theorem it0 (it : It) : opIx true (itD it) (.int 0) = some (.str it.1) := rfl
theorem it1 (it : It) : opIx true (itD it) (.int 1) = some (ni it.2.1) := rfl
theorem it2 (it : It) : opIx true (itD it) (.int 2) = some (ni it.2.2) := rfl
theorem p0D (a : Pr) : opIx true (pD a) (.int 0) = some (ni a.1) := rfl
theorem p1D (a : Pr) : opIx true (pD a) (.int 1) = some (ni a.2) := rfl
section
variable {lt n1 n2 p0 q0 n : Nat} {r1 r2 rows : List (List Nat)} {f1 f2 fin : List Nat}
abbrev bO (K : List Pr) : Option O := some (.ndc (K.map pD) (K.map fun _ => O.v (.bl true)))
abbrev tO (L : List It) : Option O := some (.lst (L.map fun it => O.v (itD it)))
abbrev letL : VS.Env → Rs := (sSeq (sSet 9 (eFn fTup (eCons (eOp2 (opIx true) (eOp2 (opIx true) (eOp2 (opIx true) (eV 0) (eC (.int 1))) (eOp2 (opIx true) (eV 7) (eC (.int 1)))) (eV 8)) (eCons (eOp2 (opIx true) (eOp2 (opIx true) (eOp2 (opIx true) (eV 1) (eC (.int 1))) (eOp2 (opIx true) (eV 7) (eC (.int 2)))) (eV 8)) eNil))))
    (sIf (eB (eNIn true 4 (eV 9)))
    (sSeq (sNSet 4 (eV 9) (eC (.bl true)))
    (sApp 6 (eFn fTup (eCons (eOp2 (opAdd true true) (eOp2 (opIx true) (eV 7) (eC (.int 0))) (eOp2 (opIx true) (eC (.str [97, 98, 99])) (eV 8))) (eCons (eOp2 (opIx true) (eV 9) (eC (.int 0))) (eCons (eOp2 (opIx true) (eV 9) (eC (.int 1))) eNil))))))
    sNil))
theorem letter_stepL (h1 : Wf lt n1 r1) (h2 : Wf lt n2 r2) (hN : n1 * n2 ≤ 2000000) {L : List It} (I : IvS r1 r2 lt n1 n2 p0 q0 L) {it : It} (hi : it ∈ L) {k : Nat} (hk : k < lt) {b : Nat} (hb : b ≤ L.length) (x2 x3 x5 x9 : Option O) :
    ∃ y9, Nx letL [oD (mach lt r1 f1), oD (mach lt r2 f2), x2, x3, bO (L.map (·.2)), x5, tO (L.drop b), oD (itD it), oD (ni k), x9] [oD (mach lt r1 f1), oD (mach lt r2 f2), x2, x3, bO ((exp1 r1 r2 it L k).map (·.2)), x5, tO ((exp1 r1 r2 it L k).drop b), oD (itD it), oD (ni k), y9] := by
  obtain ⟨x1, _, _, hp, hq, hl⟩ := I.wd it hi
  have hlen := I.len
  have l2 := h1.l2
  have i1 := ix3 h1 hp hk
  have i2 := ix3 h2 hq hk
  have j1 := ix2 h1 hp
  have j2 := ix2 h2 hq
  have ab := abc_at (k := k) (by omega)
  have hset : Nx (sSet 9 (eFn fTup (eCons (eOp2 (opIx true) (eOp2 (opIx true) (eOp2 (opIx true) (eV 0) (eC (.int 1))) (eOp2 (opIx true) (eV 7) (eC (.int 1)))) (eV 8)) (eCons (eOp2 (opIx true) (eOp2 (opIx true) (eOp2 (opIx true) (eV 1) (eC (.int 1))) (eOp2 (opIx true) (eV 7) (eC (.int 2)))) (eV 8)) eNil)))) [oD (mach lt r1 f1), oD (mach lt r2 f2), x2, x3, bO (L.map (·.2)), x5, tO (L.drop b), oD (itD it), oD (ni k), x9] [oD (mach lt r1 f1), oD (mach lt r2 f2), x2, x3, bO (L.map (·.2)), x5, tO (L.drop b), oD (itD it), oD (ni k), oD (pD (nxt r1 r2 it.2 k))] := by
    refine .set (d := pD (nxt r1 r2 it.2 k)) ?_
    simp -implicitDefEqProofs only [eFn_def, eCons_def, eNil_def, eOp2_def, eV_def, eC_def, List.getElem?_cons_zero, List.getElem?_cons_succ, ok_bind, ix1, it1, it2, lift_some, j1, j2, i1.1, i2.1]
    rfl
  have ht : (eB (eNIn true 4 (eV 9))) [oD (mach lt r1 f1), oD (mach lt r2 f2), x2, x3, bO (L.map (·.2)), x5, tO (L.drop b), oD (itD it), oD (ni k), oD (pD (nxt r1 r2 it.2 k))] = .ok (!decide (nxt r1 r2 it.2 k ∈ L.map (·.2))) := by
    rw [eB_def, nin_is (a := nxt r1 r2 it.2 k) true (atNk_of rfl) rfl]; rfl
  unfold GW.exp1
  by_cases hm : nxt r1 r2 it.2 k ∈ L.map (·.2)
  · rw [if_pos hm]
    exact ⟨_, .seq hset (.no (ht.trans (by rw [decide_eq_true hm]; rfl)) .nil)⟩
  · rw [if_neg hm]
    have e1 : (L ++ [(it.1 ++ [97 + k], nxt r1 r2 it.2 k)]).map (·.2) = L.map (·.2) ++ [nxt r1 r2 it.2 k] := by rw [List.map_append]; rfl
    have e2 : (L ++ [(it.1 ++ [97 + k], nxt r1 r2 it.2 k)]).drop b = L.drop b ++ [(it.1 ++ [97 + k], nxt r1 r2 it.2 k)] := List.drop_append_of_le_length hb
    rw [e1, e2]
    refine ⟨oD (pD (nxt r1 r2 it.2 k)), .seq hset (.yes (ht.trans (by rw [decide_eq_false hm]; rfl)) (.seq (c' := [oD (mach lt r1 f1), oD (mach lt r2 f2), x2, x3, bO (L.map (·.2) ++ [nxt r1 r2 it.2 k]), x5, tO (L.drop b), oD (itD it), oD (ni k), oD (pD (nxt r1 r2 it.2 k))]) ?_ ?_))⟩
    · have := nset_true (c := [oD (mach lt r1 f1), oD (mach lt r2 f2), x2, x3, bO (L.map (·.2)), x5, tO (L.drop b), oD (itD it), oD (ni k), oD (pD (nxt r1 r2 it.2 k))]) (i := 4) (gi := eV 9) (g := eC (.bl true)) (a := nxt r1 r2 it.2 k) rfl rfl rfl (by rw [List.length_map]; omega)
      rw [if_neg hm] at this
      exact this.to rfl
    · have hv : (eFn fTup (eCons (eOp2 (opAdd true true) (eOp2 (opIx true) (eV 7) (eC (.int 0))) (eOp2 (opIx true) (eC (.str [97, 98, 99])) (eV 8))) (eCons (eOp2 (opIx true) (eV 9) (eC (.int 0))) (eCons (eOp2 (opIx true) (eV 9) (eC (.int 1))) eNil)))) [oD (mach lt r1 f1), oD (mach lt r2 f2), x2, x3, bO (L.map (·.2) ++ [nxt r1 r2 it.2 k]), x5, tO (L.drop b), oD (itD it), oD (ni k), oD (pD (nxt r1 r2 it.2 k))] = .ok (itD (it.1 ++ [97 + k], nxt r1 r2 it.2 k)) := by
        simp -implicitDefEqProofs only [eFn_def, eCons_def, eNil_def, eOp2_def, eV_def, eC_def, List.getElem?_cons_zero, List.getElem?_cons_succ, ok_bind, it0, lift_some, ab, p0D, p1D]
        rw [opAdd_str, if_pos (by rw [List.length_singleton]; omega)]; rfl
      unfold Nx
      rw [sApp_def, hv]
      show (if ((L.drop b).map fun it => O.v (itD it)).length < 16777216 then _ else _) = _
      rw [List.length_map, List.length_drop, if_pos (by omega)]
      show Rs.ok .nx [_, _, _, _, _, _, some (.lst (_ ++ [_])), _, _, _] = _
      unfold tO
      rw [List.map_append]; rfl
abbrev itemB : VS.Env → Rs := (sSeq (sIf (eB (eOp2 (opNe) (eOp2 (opInS) (eOp2 (opIx true) (eV 7) (eC (.int 1))) (eOp2 (opIx true) (eV 0) (eC (.int 2)))) (eOp2 (opInS) (eOp2 (opIx true) (eV 7) (eC (.int 2))) (eOp2 (opIx true) (eV 1) (eC (.int 2))))))
    (sRet (eOp2 (opIx true) (eV 7) (eC (.int 0))))
    sNil)
    (sFor 8 (eItR (eC (.int 0)) (eOp2 (opIx true) (eV 0) (eC (.int 0)))) letL))
theorem item_step (h1 : Wf lt n1 r1) (h2 : Wf lt n2 r2) (hN : n1 * n2 ≤ 2000000) {L : List It} (I : IvS r1 r2 lt n1 n2 p0 q0 L) {it : It} (hi : it ∈ L) {b : Nat} (hb : b ≤ L.length) (x2 x3 x5 x8 x9 : Option O) :
    (dif f1 f2 it.2 = true ∧ Ret itemB [oD (mach lt r1 f1), oD (mach lt r2 f2), x2, x3, bO (L.map (·.2)), x5, tO (L.drop b), oD (itD it), x8, x9] (.str it.1)) ∨
    (dif f1 f2 it.2 = false ∧ ∃ y8 y9, Nx itemB [oD (mach lt r1 f1), oD (mach lt r2 f2), x2, x3, bO (L.map (·.2)), x5, tO (L.drop b), oD (itD it), x8, x9] [oD (mach lt r1 f1), oD (mach lt r2 f2), x2, x3, bO ((expd r1 r2 it L lt).map (·.2)), x5, tO ((expd r1 r2 it L lt).drop b), oD (itD it), y8, y9]) := by
  have l2 := h1.l2
  have ht : (eB (eOp2 (opNe) (eOp2 (opInS) (eOp2 (opIx true) (eV 7) (eC (.int 1))) (eOp2 (opIx true) (eV 0) (eC (.int 2)))) (eOp2 (opInS) (eOp2 (opIx true) (eV 7) (eC (.int 2))) (eOp2 (opIx true) (eV 1) (eC (.int 2)))))) [oD (mach lt r1 f1), oD (mach lt r2 f2), x2, x3, bO (L.map (·.2)), x5, tO (L.drop b), oD (itD it), x8, x9] = .ok (dif f1 f2 it.2) := by
    have e1 := in_fin it.2.1 f1
    have e2 := in_fin it.2.2 f2
    simp -implicitDefEqProofs only [eB_def, eOp2_def, eC_def, eV_def, List.getElem?_cons_zero, List.getElem?_cons_succ, ok_bind, it1, it2, ixf, lift_some, e1, e2, opNe_bl, asB_bl]
    rfl
  cases hd : dif f1 f2 it.2 with
  | true =>
    rw [hd] at ht
    exact .inl ⟨rfl, .fst (.yes ht (.ret rfl))⟩
  | false =>
    rw [hd] at ht
    obtain ⟨c', hfor, y8, y9, rfl⟩ := forL_rg 8 letL (lt : Int) (fun j c => ∃ y8 y9, c = [oD (mach lt r1 f1), oD (mach lt r2 f2), x2, x3, bO ((expd r1 r2 it L j).map (·.2)), x5, tO ((expd r1 r2 it L j).drop b), oD (itD it), y8, y9])
      [oD (mach lt r1 f1), oD (mach lt r2 f2), x2, x3, bO (L.map (·.2)), x5, tO (L.drop b), oD (itD it), x8, x9] (by
        rintro j c hj ⟨y8, y9, rfl⟩
        obtain ⟨I', _, s, hs'⟩ := I.expd h1 h2 hi j (by omega)
        obtain ⟨z9, hN'⟩ := letter_stepL (f1 := f1) (f2 := f2) h1 h2 hN I' (it := it) (by rw [hs']; exact List.mem_append_left _ hi) (k := j) (by omega) (b := b) (by rw [hs', List.length_append]; omega) x2 x3 x5 y9
        exact ⟨_, hN', oD (ni j), z9, by rw [expd_succ]⟩) ⟨x8, x9, rfl⟩
    rw [Int.toNat_natCast] at hfor
    refine .inr ⟨rfl, y8, y9, .seq (.no ht .nil) (.for (ds := rangeD 0 (lt : Int)) ?_ hfor)⟩
    simp -implicitDefEqProofs only [eItR_def, eOp2_def, eV_def, eC_def, List.getElem?_cons_zero, List.getElem?_cons_succ, ok_bind, ix0, lift_some, asI_zero, asI_small (i := (lt : Int)) (by omega) (by omega)]
end
end GW

namespace VS
open PySem
theorem fLenN_ndk (ks ds : List D) (h : ks.length < 4000000) : fLenN [.ndk ks ds] = some (.int ks.length) := by
  unfold fLenN
  dsimp only
  rw [if_pos (by omega)]
end VS
namespace GW
open PySem PySem.Spec PyProof.Rows L2 VS
/-! the pairs of states that some word parts -/
section
variable {lt n : Nat} {rows : List (List Nat)} {fin : List Nat}
def apt (rows : List (List Nat)) (fin : List Nat) (K : List Pr) (a : Pr) (j : Nat) : Bool := dif fin fin a || (List.range j).any fun k => decide (nxt rows rows a k ∈ K)
def pst (rows : List (List Nat)) (fin : List Nat) (lt : Nat) (K : List Pr) (a : Pr) : List Pr := if apt rows fin K a lt then (if a ∈ K then K else K ++ [a]) else K
def pss (rows : List (List Nat)) (fin : List Nat) (lt : Nat) (K : List Pr) (xs : List Pr) : List Pr := xs.foldl (pst rows fin lt) K
def prs (S : List Nat) : List Pr := S.flatMap fun p => S.map fun q => (p, q)
theorem pst_pre (K : List Pr) (a : Pr) : ∃ s, pst rows fin lt K a = K ++ s := by
  unfold pst
  split
  · split
    · exact ⟨[], by simp⟩
    · exact ⟨[a], rfl⟩
  · exact ⟨[], by simp⟩
theorem pss_pre : ∀ (xs : List Pr) (K : List Pr), ∃ s, pss rows fin lt K xs = K ++ s
  | [], K => ⟨[], by simp [pss]⟩
  | x :: xs, K => by
    obtain ⟨s, hs⟩ := pst_pre (rows := rows) (fin := fin) (lt := lt) K x
    obtain ⟨s2, hs2⟩ := pss_pre xs (pst rows fin lt K x)
    exact ⟨s ++ s2, by show pss rows fin lt (pst rows fin lt K x) xs = _; rw [hs2, hs, List.append_assoc]⟩
theorem pss_fix : ∀ (xs : List Pr) (K : List Pr), (pss rows fin lt K xs).length ≤ K.length → ∀ x ∈ xs, apt rows fin K x lt = true → x ∈ K
  | [], K, _, x, hx, _ => nomatch hx
  | y :: xs, K, h, x, hx, ha => by
    obtain ⟨s, hs⟩ := pst_pre (rows := rows) (fin := fin) (lt := lt) K y
    obtain ⟨s2, hs2⟩ := pss_pre (rows := rows) (fin := fin) (lt := lt) xs (pst rows fin lt K y)
    have h : (pss rows fin lt (pst rows fin lt K y) xs).length ≤ K.length := h
    have e : pst rows fin lt K y = K := by
      rw [hs2, hs, List.length_append, List.length_append] at h
      have : s = [] := List.length_eq_zero_iff.mp (by omega)
      rw [hs, this, List.append_nil]
    rcases List.mem_cons.mp hx with z | z
    · subst z
      unfold pst at e
      rw [if_pos ha] at e
      by_cases hm : x ∈ K
      · exact hm
      · rw [if_neg hm] at e
        have := congrArg List.length e
        rw [List.length_append, List.length_singleton] at this
        omega
    · rw [e] at h
      exact pss_fix xs K h x z ha
def Apart (rows : List (List Nat)) (fin : List Nat) (lt : Nat) (a : Pr) : Prop := ∃ w, Wd' lt w ∧ ¬ (run rows a.1 w ∈ fin ↔ run rows a.2 w ∈ fin)
structure Snd (rows : List (List Nat)) (fin : List Nat) (lt n : Nat) (K : List Pr) : Prop where
  nd : K.Nodup
  bd : ∀ a ∈ K, a.1 < n ∧ a.2 < n
  ap : ∀ a ∈ K, Apart rows fin lt a
theorem dif_iff {f1 f2 : List Nat} {a : Pr} : dif f1 f2 a = true ↔ ¬ (a.1 ∈ f1 ↔ a.2 ∈ f2) := by
  unfold dif
  simp
theorem Snd.step {K : List Pr} (h : Snd rows fin lt n K) {a : Pr} (ha : a.1 < n ∧ a.2 < n) : Snd rows fin lt n (pst rows fin lt K a) := by
  unfold pst
  split
  · rename_i hap
    split
    · exact h
    · rename_i hm
      refine ⟨?_, fun b hb => ?_, fun b hb => ?_⟩
      · rw [List.nodup_append]
        exact ⟨h.nd, by simp, fun x hx y hy e => hm (by rw [← List.mem_singleton.mp hy, ← e]; exact hx)⟩
      · rcases List.mem_append.mp hb with z | z
        · exact h.bd b z
        · rw [List.mem_singleton.mp z]; exact ha
      · rcases List.mem_append.mp hb with z | z
        · exact h.ap b z
        · rw [List.mem_singleton.mp z]
          unfold apt at hap
          rw [Bool.or_eq_true] at hap
          rcases hap with hd | hk
          · exact ⟨[], (fun c hc => nomatch hc), dif_iff.mp hd⟩
          · obtain ⟨k, hk1, hk2⟩ := List.any_eq_true.mp hk
            obtain ⟨w, hw1, hw2⟩ := h.ap _ (of_decide_eq_true hk2)
            refine ⟨(97 + k) :: w, fun c hc => ?_, hw2⟩
            rcases List.mem_cons.mp hc with z | z
            · rw [z]; have := List.mem_range.mp hk1; omega
            · exact hw1 c z
  · exact h
theorem Snd.all {xs : List Pr} : ∀ {K : List Pr}, Snd rows fin lt n K → (∀ a ∈ xs, a.1 < n ∧ a.2 < n) → Snd rows fin lt n (pss rows fin lt K xs) := by
  induction xs with
  | nil => exact fun h _ => h
  | cons x xs ih => exact fun {K} h hx => ih (h.step (hx x List.mem_cons_self)) fun a ha => hx a (List.mem_cons_of_mem _ ha)
theorem Snd.len {K : List Pr} (h : Snd rows fin lt n K) : K.length ≤ n * n := pr_len h.nd h.bd
theorem mem_prs {S : List Nat} {a : Pr} : a ∈ prs S ↔ a.1 ∈ S ∧ a.2 ∈ S := by
  unfold prs
  rw [List.mem_flatMap]
  constructor
  · rintro ⟨p, hp, h⟩
    obtain ⟨q, hq, rfl⟩ := List.mem_map.mp h
    exact ⟨hp, hq⟩
  · rintro ⟨h1, h2⟩
    exact ⟨a.1, h1, List.mem_map.mpr ⟨a.2, h2, rfl⟩⟩
theorem fix_in {S : List Nat} {K : List Pr} (hcl : ∀ p ∈ S, ∀ k < lt, stp rows p (97 + k) ∈ S) (hfix : ∀ x ∈ prs S, apt rows fin K x lt = true → x ∈ K) : ∀ (w : List Nat) (a : Pr), a ∈ prs S → Wd' lt w → ¬ (run rows a.1 w ∈ fin ↔ run rows a.2 w ∈ fin) → a ∈ K
  | [], a, ha, _, hne => by
    refine hfix a ha ?_
    unfold apt
    rw [dif_iff.mpr hne]; rfl
  | c :: w, a, ha, hw, hne => by
    obtain ⟨h1, h2⟩ := hw c List.mem_cons_self
    obtain ⟨a1, a2⟩ := mem_prs.mp ha
    have hn : nxt rows rows a (c - 97) ∈ prs S := mem_prs.mpr ⟨hcl _ a1 _ (by omega), hcl _ a2 _ (by omega)⟩
    have e : nxt rows rows a (c - 97) = (stp rows a.1 c, stp rows a.2 c) := by unfold nxt; rw [Nat.add_sub_cancel' h1]
    have hin := fix_in hcl hfix w _ hn (fun d hd => hw d (List.mem_cons_of_mem _ hd)) (by rw [e]; exact hne)
    refine hfix a ha ?_
    unfold apt
    rw [Bool.or_eq_true]
    exact .inr (List.any_eq_true.mpr ⟨c - 97, List.mem_range.mpr (by omega), decide_eq_true hin⟩)
/-- nothing new: the pairs are those that are parted -/
theorem fix_iff {S : List Nat} {K : List Pr} (hK : Snd rows fin lt n K) (hcl : ∀ p ∈ S, ∀ k < lt, stp rows p (97 + k) ∈ S) (hfix : ∀ x ∈ prs S, apt rows fin K x lt = true → x ∈ K) {a : Pr} (ha : a ∈ prs S) : a ∈ K ↔ Apart rows fin lt a :=
  ⟨hK.ap a, fun ⟨w, hw, hne⟩ => fix_in hcl hfix w a ha hw hne⟩
/-! .. as the law has it -/
abbrev iB : VS.Env → Rs := (sIf (eB (eNIn false 2 (eFn fTup (eCons (eOp2 (opIx true) (eOp2 (opIx true) (eOp2 (opIx true) (eV 0) (eC (.int 1))) (eV 4)) (eV 7)) (eCons (eOp2 (opIx true) (eOp2 (opIx true) (eOp2 (opIx true) (eV 0) (eC (.int 1))) (eV 5)) (eV 7)) eNil)))))
    (sSet 6 (eC (.bl true)))
    sNil)
abbrev qB : VS.Env → Rs := (sSeq (sSet 6 (eOp2 (opNe) (eOp2 (opInS) (eV 4) (eOp2 (opIx true) (eV 0) (eC (.int 2)))) (eOp2 (opInS) (eV 5) (eOp2 (opIx true) (eV 0) (eC (.int 2))))))
    (sSeq (sFor 7 (eItR (eC (.int 0)) (eOp2 (opIx true) (eV 0) (eC (.int 0)))) iB)
    (sIf (eTru (eV 6))
    (sNSet 2 (eFn fTup (eCons (eV 4) (eCons (eV 5) eNil))) (eC (.bl true)))
    sNil)))
theorem q_step (hw : Wf lt n rows) (hN : n * n ≤ 2000000) {K : List Pr} (hK : Snd rows fin lt n K) {a : Pr} (ha : a.1 < n ∧ a.2 < n) (x1 x3 x6 x7 : Option O) :
    ∃ y6 y7, Nx qB [oD (mach lt rows fin), x1, bO K, x3, oD (ni a.1), oD (ni a.2), x6, x7] [oD (mach lt rows fin), x1, bO (pst rows fin lt K a), x3, oD (ni a.1), oD (ni a.2), y6, y7] := by
  have l2 := hw.l2
  have hl := hK.len
  have e1 := in_fin a.1 fin
  have e2 := in_fin a.2 fin
  obtain ⟨c', hfor, y7, rfl⟩ := forL_rg 7 iB (lt : Int) (fun j c => ∃ y7, c = [oD (mach lt rows fin), x1, bO K, x3, oD (ni a.1), oD (ni a.2), oD (.bl (apt rows fin K a j)), y7]) [oD (mach lt rows fin), x1, bO K, x3, oD (ni a.1), oD (ni a.2), oD (.bl (dif fin fin a)), x7] (by
    rintro j c hj ⟨y7, rfl⟩
    have hj : j < lt := by omega
    have i1 := ix3 hw ha.1 hj
    have i2 := ix3 hw ha.2 hj
    have j1 := ix2 hw ha.1
    have j2 := ix2 hw ha.2
    have hk : (eFn fTup (eCons (eOp2 (opIx true) (eOp2 (opIx true) (eOp2 (opIx true) (eV 0) (eC (.int 1))) (eV 4)) (eV 7)) (eCons (eOp2 (opIx true) (eOp2 (opIx true) (eOp2 (opIx true) (eV 0) (eC (.int 1))) (eV 5)) (eV 7)) eNil))) [oD (mach lt rows fin), x1, bO K, x3, oD (ni a.1), oD (ni a.2), oD (.bl (apt rows fin K a j)), oD (ni j)] = .ok (pD (nxt rows rows a j)) := by
      simp -implicitDefEqProofs only [eFn_def, eCons_def, eNil_def, eOp2_def, eV_def, eC_def, List.getElem?_cons_zero, List.getElem?_cons_succ, ok_bind, ix1, lift_some, j1, j2, i1.1, i2.1]
      rfl
    have ht : (eB (eNIn false 2 (eFn fTup (eCons (eOp2 (opIx true) (eOp2 (opIx true) (eOp2 (opIx true) (eV 0) (eC (.int 1))) (eV 4)) (eV 7)) (eCons (eOp2 (opIx true) (eOp2 (opIx true) (eOp2 (opIx true) (eV 0) (eC (.int 1))) (eV 5)) (eV 7)) eNil))))) [oD (mach lt rows fin), x1, bO K, x3, oD (ni a.1), oD (ni a.2), oD (.bl (apt rows fin K a j)), oD (ni j)] = .ok (decide (nxt rows rows a j ∈ K)) := by
      rw [eB_def, nin_is (a := nxt rows rows a j) false (atNk_of rfl) hk]; rfl
    have hap : apt rows fin K a (j + 1) = (apt rows fin K a j || decide (nxt rows rows a j ∈ K)) := by
      unfold apt
      rw [List.range_succ, List.any_append, List.any_cons, List.any_nil, Bool.or_false, Bool.or_assoc]
    by_cases hm : nxt rows rows a j ∈ K
    · refine ⟨_, Nx.yes (ht.trans (by rw [decide_eq_true hm])) (.set rfl), oD (ni j), ?_⟩
      rw [hap, decide_eq_true hm, Bool.or_true]; rfl
    · refine ⟨_, Nx.no (ht.trans (by rw [decide_eq_false hm])) .nil, oD (ni j), ?_⟩
      rw [hap, decide_eq_false hm, Bool.or_false]; rfl) ⟨x7, by unfold apt; simp⟩
  rw [Int.toNat_natCast] at hfor
  have hset : Nx (sSet 6 (eOp2 (opNe) (eOp2 (opInS) (eV 4) (eOp2 (opIx true) (eV 0) (eC (.int 2)))) (eOp2 (opInS) (eV 5) (eOp2 (opIx true) (eV 0) (eC (.int 2)))))) [oD (mach lt rows fin), x1, bO K, x3, oD (ni a.1), oD (ni a.2), x6, x7] [oD (mach lt rows fin), x1, bO K, x3, oD (ni a.1), oD (ni a.2), oD (.bl (dif fin fin a)), x7] := by
    refine .set (d := .bl (dif fin fin a)) ?_
    simp -implicitDefEqProofs only [eOp2_def, eC_def, eV_def, List.getElem?_cons_zero, List.getElem?_cons_succ, ok_bind, ixf, lift_some, e1, e2, opNe_bl]
    rfl
  have hsrc : (eItR (eC (.int 0)) (eOp2 (opIx true) (eV 0) (eC (.int 0)))) [oD (mach lt rows fin), x1, bO K, x3, oD (ni a.1), oD (ni a.2), oD (.bl (dif fin fin a)), x7] = .ok (rangeD 0 (lt : Int)) := by
    simp -implicitDefEqProofs only [eItR_def, eOp2_def, eV_def, eC_def, List.getElem?_cons_zero, List.getElem?_cons_succ, ok_bind, ix0, lift_some, asI_zero, asI_small (i := (lt : Int)) (by omega) (by omega)]
  unfold pst
  cases hap : apt rows fin K a lt with
  | true =>
    rw [hap] at hfor
    refine ⟨oD (.bl true), y7, .seq hset (.seq (.for hsrc hfor) (.yes rfl ?_))⟩
    rw [if_pos rfl]
    exact (nset_true (c := [oD (mach lt rows fin), x1, bO K, x3, oD (ni a.1), oD (ni a.2), oD (.bl true), y7]) (i := 2) (gi := eFn fTup (eCons (eV 4) (eCons (eV 5) eNil))) (g := eC (.bl true)) (a := a) rfl rfl rfl (by omega)).to rfl
  | false =>
    rw [hap] at hfor
    refine ⟨oD (.bl false), y7, .seq hset (.seq (.for hsrc hfor) (.no rfl ?_))⟩
    rw [if_neg Bool.false_ne_true]
    exact .nil
theorem pss_app (K : List Pr) (xs ys : List Pr) : pss rows fin lt K (xs ++ ys) = pss rows fin lt (pss rows fin lt K xs) ys := by unfold pss; rw [List.foldl_append]
abbrev pB : VS.Env → Rs := (sFor 5 (eIt true (eV 1)) qB)
theorem p_step (hw : Wf lt n rows) (hN : n * n ≤ 2000000) {S : List Nat} (hS : ∀ p ∈ S, p < n) {K : List Pr} (hK : Snd rows fin lt n K) {p : Nat} (hp : p < n) (x3 x5 x6 x7 : Option O) :
    ∃ y5 y6 y7, Nx pB [oD (mach lt rows fin), oD (.lst (S.map ni)), bO K, x3, oD (ni p), x5, x6, x7] [oD (mach lt rows fin), oD (.lst (S.map ni)), bO (pss rows fin lt K (S.map fun q => (p, q))), x3, oD (ni p), y5, y6, y7] := by
  obtain ⟨c', main, y5, y6, y7, rfl⟩ := forL_ex 5 qB (fun j c => ∃ y5 y6 y7, c = [oD (mach lt rows fin), oD (.lst (S.map ni)), bO (pss rows fin lt K ((S.take j).map fun q => (p, q))), x3, oD (ni p), y5, y6, y7]) (S.map ni) [oD (mach lt rows fin), oD (.lst (S.map ni)), bO K, x3, oD (ni p), x5, x6, x7] (by
    rintro j d c hd ⟨y5, y6, y7, rfl⟩
    rw [List.getElem?_map] at hd
    obtain ⟨q, hq, rfl⟩ := Option.map_eq_some_iff.mp hd
    obtain ⟨hj, rfl⟩ := List.getElem?_eq_some_iff.mp hq
    have hK' : Snd rows fin lt n (pss rows fin lt K ((S.take j).map fun q => (p, q))) := hK.all fun a ha => by
      obtain ⟨q, hq, rfl⟩ := List.mem_map.mp ha
      exact ⟨hp, hS q (List.mem_of_mem_take hq)⟩
    obtain ⟨z6, z7, hN'⟩ := q_step (fin := fin) hw hN hK' (a := (p, S[j])) ⟨hp, hS _ (List.getElem_mem hj)⟩ (oD (.lst (S.map ni))) x3 y6 y7
    refine ⟨_, hN', oD (ni S[j]), z6, z7, ?_⟩
    rw [List.take_succ_eq_append_getElem hj, List.map_append, pss_app]; rfl) ⟨x5, x6, x7, rfl⟩
  rw [List.length_map, List.take_length] at main
  refine ⟨y5, y6, y7, .for ?_ main⟩
  show lift (asA true (.lst _)) = _
  rw [asA_lst, if_pos (okElT _)]; rfl
theorem pass_step (hw : Wf lt n rows) (hN : n * n ≤ 2000000) {S : List Nat} (hS : ∀ p ∈ S, p < n) {K : List Pr} (hK : Snd rows fin lt n K) (x3 x4 x5 x6 x7 : Option O) :
    ∃ y4 y5 y6 y7, Nx (sFor 4 (eIt true (eV 1)) pB) [oD (mach lt rows fin), oD (.lst (S.map ni)), bO K, x3, x4, x5, x6, x7] [oD (mach lt rows fin), oD (.lst (S.map ni)), bO (pss rows fin lt K (prs S)), x3, y4, y5, y6, y7] := by
  obtain ⟨c', main, y4, y5, y6, y7, rfl⟩ := forL_ex 4 pB (fun j c => ∃ y4 y5 y6 y7, c = [oD (mach lt rows fin), oD (.lst (S.map ni)), bO (pss rows fin lt K ((S.take j).flatMap fun p => S.map fun q => (p, q))), x3, y4, y5, y6, y7]) (S.map ni) [oD (mach lt rows fin), oD (.lst (S.map ni)), bO K, x3, x4, x5, x6, x7] (by
    rintro j d c hd ⟨y4, y5, y6, y7, rfl⟩
    rw [List.getElem?_map] at hd
    obtain ⟨q, hq, rfl⟩ := Option.map_eq_some_iff.mp hd
    obtain ⟨hj, rfl⟩ := List.getElem?_eq_some_iff.mp hq
    have hK' : Snd rows fin lt n (pss rows fin lt K ((S.take j).flatMap fun p => S.map fun q => (p, q))) := hK.all fun a ha => by
      obtain ⟨p, hp, h⟩ := List.mem_flatMap.mp ha
      obtain ⟨q, hq, rfl⟩ := List.mem_map.mp h
      exact ⟨hS p (List.mem_of_mem_take hp), hS q hq⟩
    obtain ⟨z5, z6, z7, hN'⟩ := p_step (fin := fin) hw hN hS hK' (p := S[j]) (hS _ (List.getElem_mem hj)) x3 y5 y6 y7
    refine ⟨_, hN', oD (ni S[j]), z5, z6, z7, ?_⟩
    rw [List.take_succ_eq_append_getElem hj, List.flatMap_append, pss_app]
    simp) ⟨x4, x5, x6, x7, rfl⟩
  rw [List.length_map, List.take_length] at main
  refine ⟨y4, y5, y6, y7, .for ?_ main⟩
  show lift (asA true (.lst _)) = _
  rw [asA_lst, if_pos (okElT _)]; rfl
theorem parted_spec (hw : Wf lt n rows) (hN : n * n ≤ 2000000) {S : List Nat} (hS : ∀ p ∈ S, p < n) (hcl : ∀ p ∈ S, ∀ k < lt, stp rows p (97 + k) ∈ S) :
    ∃ K : List Pr, MLparted [mach lt rows fin, .lst (S.map ni)] = .ok (.ndk (K.map pD) (K.map fun _ => .bl true)) ∧ K.length ≤ 2000000 ∧ ∀ p ∈ S, ∀ q ∈ S, ((p, q) ∈ K ↔ Apart rows fin lt (p, q)) := by
  have hlt : ∀ a ∈ prs S, a.1 < n ∧ a.2 < n := fun a ha => ⟨hS _ (mem_prs.mp ha).1, hS _ (mem_prs.mp ha).2⟩
  obtain ⟨c', e, K, x3, x4, x5, x6, x7, rfl, hK, hfix⟩ := whileL_ex (eB (eOp2 (opRel fun i j => decide (j < i)) (eFn fLenN (eCons (eL 2) eNil)) (eV 3))) (sSeq (sSet 3 (eFn fLenN (eCons (eL 2) eNil)))
    (sFor 4 (eIt true (eV 1)) pB))
    (fun m c => ∃ (K : List Pr) (bn : Nat) (x4 x5 x6 x7 : Option O), c = [oD (mach lt rows fin), oD (.lst (S.map ni)), bO K, oD (.int ((bn : Int) - 1)), x4, x5, x6, x7] ∧ Snd rows fin lt n K ∧ m + bn = n * n + 2 ∧ (K.length < bn → ∃ K0, K = pss rows fin lt K0 (prs S) ∧ K0.length + 1 = bn))
    (fun c => ∃ K x3 x4 x5 x6 x7, c = [oD (mach lt rows fin), oD (.lst (S.map ni)), bO K, x3, x4, x5, x6, x7] ∧ Snd rows fin lt n K ∧ ∀ x ∈ prs S, apt rows fin K x lt = true → x ∈ K)
    (by
      rintro m c ⟨K, bn, x4, x5, x6, x7, rfl, hK, hm, hb⟩
      have hlen := hK.len
      have hll : fLenN [O.toD (.ndc (K.map pD) (K.map fun _ => O.v (.bl true)))] = some (ni K.length) := by
        rw [O.toD, fLenN_ndk _ _ (by rw [List.length_map]; omega), List.length_map]
      have hv : ∀ x3 x4 x5 x6 x7, (eFn fLenN (eCons (eL 2) eNil)) [oD (mach lt rows fin), oD (.lst (S.map ni)), bO K, x3, x4, x5, x6, x7] = .ok (ni K.length) := by
        intro x3 x4 x5 x6 x7
        simp -implicitDefEqProofs only [eFn_def, eCons_def, eNil_def, eL_def, List.getElem?_cons_zero, List.getElem?_cons_succ, ok_bind, hll, lift_some]
      have ht : (eB (eOp2 (opRel fun i j => decide (j < i)) (eFn fLenN (eCons (eL 2) eNil)) (eV 3))) [oD (mach lt rows fin), oD (.lst (S.map ni)), bO K, oD (.int ((bn : Int) - 1)), x4, x5, x6, x7] = .ok (decide (bn ≤ K.length)) := by
        rw [eB_def, eOp2_def, hv]
        simp -implicitDefEqProofs only [eV_def, List.getElem?_cons_zero, List.getElem?_cons_succ, ok_bind, opRel_int, lift_some, asB_bl]
        exact congrArg R.ok (by rw [Bool.eq_iff_iff, decide_eq_true_iff, decide_eq_true_iff]; omega)
      by_cases h : bn ≤ K.length
      · obtain ⟨y4, y5, y6, y7, hN'⟩ := pass_step (fin := fin) hw hN hS hK (oD (ni K.length)) x4 x5 x6 x7
        refine .inr ⟨ht.trans (by rw [decide_eq_true h]), n * n + 1 - K.length, _, by omega, Nx.seq ((Nx.set (hv _ _ _ _ _)).to rfl) hN', pss rows fin lt K (prs S), K.length + 1, y4, y5, y6, y7, ?_, hK.all hlt, by omega, fun _ => ⟨K, rfl, rfl⟩⟩
        rw [show (((K.length + 1 : Nat) : Int) - 1) = (K.length : Int) by omega]
      · obtain ⟨K0, rfl, h0⟩ := hb (by omega)
        refine .inl ⟨ht.trans (by rw [decide_eq_false h]), _, _, _, _, _, _, rfl, hK, ?_⟩
        have hle : (pss rows fin lt K0 (prs S)).length ≤ K0.length := by omega
        have hfix := pss_fix (prs S) K0 hle
        obtain ⟨s, hs⟩ := pss_pre (rows := rows) (fin := fin) (lt := lt) (prs S) K0
        have e : pss rows fin lt K0 (prs S) = K0 := by
          rw [hs, List.length_append] at hle
          rw [hs, List.length_eq_zero_iff.mp (show s.length = 0 by omega), List.append_nil]
        rw [e]
        exact hfix)
    wN (n * n + 2) [oD (mach lt rows fin), oD (.lst (S.map ni)), bO [], oD (.int (-1)), none, none, none, none] (by unfold wN; omega) ⟨[], 0, none, none, none, none, rfl, ⟨List.nodup_nil, (fun a ha => nomatch ha), fun a ha => nomatch ha⟩, by omega, fun h => absurd h (Nat.not_lt_zero _)⟩
  refine ⟨K, ?_, by have := hK.len; omega, fun p hp q hq => fix_iff hK hcl hfix (mem_prs.mpr ⟨hp, hq⟩)⟩
  unfold MLparted BLparted
  refine ret_of ?_
  show Ret _ [oD (mach lt rows fin), oD (.lst (S.map ni)), none, none, none, none, none, none] _
  refine .seq ((Nx.setO (d := .ndc [] []) rfl).to rfl) (.seq ((Nx.set (d := .int (-1)) rfl).to rfl) (.seq (show Nx (whileL _ _ _) _ _ from e) (.fz (.ret ?_))))
  show R.ok (O.toD (.ndc (K.map pD) (K.map fun _ => O.v (.bl true)))) = _
  rw [O.toD, O.toDs_map, List.map_map]
  have : (O.toD ∘ fun _ : Pr => O.v (.bl true)) = fun _ => .bl true := compToD _
  rw [this]
end
end GW

namespace GW
open PySem PySem.Spec PyProof.Rows L2 VS
/-! a list that grows by what its own items lead to -/
def add1 (L : List Nat) (q : Nat) : List Nat := if q ∈ L then L else L ++ [q]
def gx (rep : Nat → Nat) (rows : List (List Nat)) (p : Nat) (L : List Nat) (j : Nat) : List Nat := (List.range j).foldl (fun L k => add1 L (rep (stp rows p (97 + k)))) L
theorem gx_succ (rep : Nat → Nat) (rows : List (List Nat)) (p : Nat) (L : List Nat) (j : Nat) : gx rep rows p L (j + 1) = add1 (gx rep rows p L j) (rep (stp rows p (97 + j))) := by
  unfold gx
  rw [List.range_succ, List.foldl_append]; rfl
def gro (rep : Nat → Nat) (rows : List (List Nat)) (lt : Nat) : Nat → Nat → List Nat → List Nat
  | 0, _, L => L
  | m + 1, a, L => match L[a]? with
    | none => L
    | some p => gro rep rows lt m (a + 1) (gx rep rows p L lt)
structure IvG (P : Nat → Prop) (L : List Nat) : Prop where
  nd : L.Nodup
  pr : ∀ p ∈ L, P p
section
variable {lt n : Nat} {rows : List (List Nat)} {fin : List Nat} {P : Nat → Prop} {rep : Nat → Nat}
theorem IvG.len {L : List Nat} (hn : ∀ p, P p → p < n) (I : IvG P L) : L.length ≤ n := nd_len n I.nd fun p hp => hn p (I.pr p hp)
theorem IvG.add {L : List Nat} (I : IvG P L) {q : Nat} (hq : P q) : IvG P (add1 L q) ∧ q ∈ add1 L q ∧ ∃ s, add1 L q = L ++ s := by
  unfold add1
  by_cases h : q ∈ L
  · rw [if_pos h]
    exact ⟨I, h, [], by simp⟩
  · rw [if_neg h]
    refine ⟨⟨?_, fun p hp => ?_⟩, by simp, _, rfl⟩
    · rw [List.nodup_append]
      exact ⟨I.nd, by simp, fun x hx y hy e => h (by rw [← List.mem_singleton.mp hy, ← e]; exact hx)⟩
    · rcases List.mem_append.mp hp with z | z
      · exact I.pr p z
      · rw [List.mem_singleton.mp z]; exact hq
theorem IvG.gx (hP : ∀ p, P p → ∀ k < lt, P (rep (stp rows p (97 + k)))) {L : List Nat} (I : IvG P L) {p : Nat} (hp : P p) : ∀ j, j ≤ lt →
    IvG P (gx rep rows p L j) ∧ (∀ k < j, rep (stp rows p (97 + k)) ∈ GW.gx rep rows p L j) ∧ ∃ s, GW.gx rep rows p L j = L ++ s
  | 0, _ => ⟨I, (fun k hk => absurd hk (Nat.not_lt_zero k)), [], by simp [GW.gx]⟩
  | j + 1, hj => by
    obtain ⟨a, b, s, hs⟩ := IvG.gx hP I hp j (by omega)
    obtain ⟨c, d, s2, hs2⟩ := a.add (hP p hp j (by omega))
    rw [gx_succ]
    refine ⟨c, fun k hk => ?_, s ++ s2, by rw [hs2, hs, List.append_assoc]⟩
    by_cases e : k = j
    · rw [e]; exact d
    · rw [hs2]
      exact List.mem_append_left _ (b k (by omega))
theorem gro_spec (hP : ∀ p, P p → ∀ k < lt, P (rep (stp rows p (97 + k)))) (hn : ∀ p, P p → p < n) (hn2 : n ≤ 1100) : ∀ (m a : Nat) (L : List Nat), IvG P L → a ≤ L.length → m + a = 1200 →
    (∀ p ∈ L.take a, ∀ k < lt, rep (stp rows p (97 + k)) ∈ L) →
    IvG P (gro rep rows lt m a L) ∧ (∀ p ∈ gro rep rows lt m a L, ∀ k < lt, rep (stp rows p (97 + k)) ∈ gro rep rows lt m a L) ∧ ∃ s, gro rep rows lt m a L = L ++ s
  | 0, a, L, I, ha, hm, _ => by
    have := I.len hn
    omega
  | m + 1, a, L, I, ha, hm, hcl => by
    rw [gro]
    cases e : L[a]? with
    | none =>
      have hle : L.length ≤ a := by
        refine Classical.byContradiction fun z => ?_
        rw [List.getElem?_eq_getElem (by omega)] at e
        cases e
      rw [List.take_of_length_le hle] at hcl
      exact ⟨I, hcl, [], by simp⟩
    | some p =>
      obtain ⟨hal, hit⟩ := List.getElem?_eq_some_iff.mp e
      have hi : p ∈ L := by rw [← hit]; exact List.getElem_mem hal
      obtain ⟨I', b, s, hs⟩ := I.gx hP (I.pr p hi) lt (Nat.le_refl _)
      obtain ⟨x1, x2, s2, x3⟩ := gro_spec hP hn hn2 m (a + 1) _ I' (by rw [hs, List.length_append]; omega) (by omega) fun y hy k hk => by
        rw [hs, List.take_append_of_le_length (by omega), List.take_succ_eq_append_getElem hal, hit] at hy
        rcases List.mem_append.mp hy with z | z
        · rw [hs]
          exact List.mem_append_left _ (hcl y z k hk)
        · rw [List.mem_singleton.mp z]
          exact b k hk
      exact ⟨x1, x2, s ++ s2, by show gro rep rows lt m (a + 1) (GW.gx rep rows p L lt) = _; rw [x3, hs, List.append_assoc]⟩
/-! the states that are reached -/
def Sf (rows : List (List Nat)) (lt : Nat) : List Nat := gro id rows lt 1200 0 [0]
theorem Sf_spec (hw : Wf lt n rows) : IvG (· < n) (Sf rows lt) ∧ (∀ p ∈ Sf rows lt, ∀ k < lt, stp rows p (97 + k) ∈ Sf rows lt) ∧ ∃ s, Sf rows lt = [0] ++ s :=
  gro_spec (P := (· < n)) (rep := id) (fun p hp k hk => stp_lt hw hp (by omega) (by omega)) (fun p hp => hp) hw.n2 1200 0 [0] ⟨by simp, fun p hp => by rw [List.mem_singleton.mp hp]; exact hw.n1⟩ (Nat.zero_le _) rfl (fun p hp => nomatch hp)
/-! one of each kind -/
def cst (K : List Pr) (C : List Nat) (p : Nat) : List Nat := if (C.filter fun q => !decide ((p, q) ∈ K)).length = 0 then C ++ [p] else C
def chs (K : List Pr) (L : List Nat) : List Nat := L.foldl (cst K) []
structure IvC (K : List Pr) (L C : List Nat) : Prop where
  sub : ∀ c ∈ C, c ∈ L
  one : ∀ c ∈ C, ∀ d ∈ C, (c, d) ∉ K → c = d
  cov : ∀ p ∈ L, ∃ c ∈ C, (p, c) ∉ K
theorem chs_app (K : List Pr) (L : List Nat) (p : Nat) : chs K (L ++ [p]) = cst K (chs K L) p := by
  unfold chs; rw [List.foldl_append]; rfl
theorem chs_spec {K : List Pr} {S : List Nat} (hs : ∀ p ∈ S, ∀ q ∈ S, ((p, q) ∈ K ↔ Apart rows fin lt (p, q))) : ∀ j, j ≤ S.length → IvC K (S.take j) (chs K (S.take j))
  | 0, _ => ⟨fun c hc => (nomatch hc), fun c hc => (nomatch hc), fun c hc => (nomatch hc)⟩
  | j + 1, hj => by
    have ih := chs_spec hs j (by omega)
    have hm : ∀ p ∈ S.take j, p ∈ S := fun p hp => List.mem_of_mem_take hp
    have hp : S[j] ∈ S := List.getElem_mem _
    rw [List.take_succ_eq_append_getElem (show j < S.length by omega), chs_app]
    generalize chs K (S.take j) = C at ih ⊢
    generalize S[j] = p at hp ⊢
    have refl : ∀ q ∈ S, (q, q) ∉ K := fun q hq h => by
      obtain ⟨w, _, hw⟩ := (hs q hq q hq).mp h
      exact hw Iff.rfl
    have symm : ∀ q ∈ S, ∀ r ∈ S, (q, r) ∉ K → (r, q) ∉ K := fun q hq r hr h h' => by
      obtain ⟨w, h1, h2⟩ := (hs r hr q hq).mp h'
      exact h ((hs q hq r hr).mpr ⟨w, h1, fun z => h2 z.symm⟩)
    unfold cst
    split
    · rename_i h0
      have hno : ∀ q ∈ C, (p, q) ∈ K := fun q hq => by
        refine Classical.byContradiction fun z => ?_
        have : q ∈ C.filter fun q => !decide ((p, q) ∈ K) := List.mem_filter.mpr ⟨hq, by simp [z]⟩
        rw [List.length_eq_zero_iff.mp h0] at this
        exact nomatch this
      refine ⟨fun c hc => ?_, fun c hc d hd h => ?_, fun q hq => ?_⟩
      · rcases List.mem_append.mp hc with z | z
        · exact List.mem_append_left _ (ih.sub c z)
        · exact List.mem_append_right _ z
      · rcases List.mem_append.mp hc with z | z <;> rcases List.mem_append.mp hd with y | y
        · exact ih.one c z d y h
        · rw [List.mem_singleton.mp y] at h
          exact absurd (hno c z) (symm c (hm c (ih.sub c z)) p hp h)
        · rw [List.mem_singleton.mp z] at h
          exact absurd (hno d y) h
        · rw [List.mem_singleton.mp z, List.mem_singleton.mp y]
      · rcases List.mem_append.mp hq with z | z
        · obtain ⟨c, hc, h⟩ := ih.cov q z
          exact ⟨c, List.mem_append_left _ hc, h⟩
        · rw [List.mem_singleton.mp z]
          exact ⟨p, by simp, refl p hp⟩
    · rename_i h0
      refine ⟨fun c hc => List.mem_append_left _ (ih.sub c hc), ih.one, fun q hq => ?_⟩
      rcases List.mem_append.mp hq with z | z
      · exact ih.cov q z
      · rw [List.mem_singleton.mp z]
        cases e : C.filter fun q => !decide ((p, q) ∈ K) with
        | nil => rw [e] at h0; exact absurd rfl h0
        | cons c l =>
          have : c ∈ C.filter fun q => !decide ((p, q) ∈ K) := by rw [e]; exact List.mem_cons_self
          obtain ⟨h1, h2⟩ := List.mem_filter.mp this
          exact ⟨c, h1, by simpa using h2⟩
theorem chs_pre (K : List Pr) : ∀ (L C : List Nat), ∃ s, L.foldl (cst K) C = C ++ s
  | [], C => ⟨[], by simp⟩
  | p :: L, C => by
    obtain ⟨s, hs⟩ := chs_pre K L (cst K C p)
    rw [List.foldl_cons, hs]
    unfold cst
    split
    · exact ⟨[p] ++ s, by rw [List.append_assoc]⟩
    · exact ⟨s, rfl⟩
theorem chs_head (K : List Pr) (p : Nat) (s : List Nat) : ∃ s', chs K ([p] ++ s) = [p] ++ s' := by
  unfold chs
  rw [List.foldl_append]
  exact chs_pre K s [p]
def repK (K : List Pr) (C : List Nat) (p : Nat) : Nat := (C.find? fun r => !decide ((p, r) ∈ K)).getD 0
theorem repK_in {K : List Pr} {C : List Nat} {p : Nat} (h : ∃ c ∈ C, (p, c) ∉ K) : repK K C p ∈ C ∧ (p, repK K C p) ∉ K ∧ (C.filter fun r => !decide ((p, r) ∈ K)).head? = some (repK K C p) := by
  unfold repK
  rw [List.head?_filter]
  cases e : C.find? fun r => !decide ((p, r) ∈ K) with
  | none =>
    obtain ⟨c, hc, h⟩ := h
    have := List.find?_eq_none.mp e c hc
    simp [h] at this
  | some c => exact ⟨List.mem_of_find?_eq_some e, by simpa using List.find?_some e, rfl⟩
def Of (K : List Pr) (rows : List (List Nat)) (lt : Nat) : List Nat := gro (repK K (chs K (Sf rows lt))) rows lt 1200 0 [0]
def idK (K : List Pr) (L : List Nat) (x : Nat) : Nat := ((List.range L.length).find? fun j => !decide ((x, L.getD j 0) ∈ K)).getD 0
def lrows (K : List Pr) (rows : List (List Nat)) (lt : Nat) : List (List Nat) := (Of K rows lt).map fun p => (rowAt rows p).map (idK K (Of K rows lt))
def lfin (K : List Pr) (rows : List (List Nat)) (lt : Nat) (fin : List Nat) : List Nat := (List.range (Of K rows lt).length).filter fun j => decide ((Of K rows lt).getD j 0 ∈ fin)
/-- what is known of a machine's kinds -/
structure Kn (lt n : Nat) (rows : List (List Nat)) (fin : List Nat) (K : List Pr) : Prop where
  wf : Wf lt n rows
  hK : ∀ p ∈ Sf rows lt, ∀ q ∈ Sf rows lt, ((p, q) ∈ K ↔ Apart rows fin lt (p, q))
abbrev Cf (K : List Pr) (rows : List (List Nat)) (lt : Nat) : List Nat := chs K (Sf rows lt)
variable {K : List Pr}
theorem Kn.ivc (h : Kn lt n rows fin K) : IvC K (Sf rows lt) (Cf K rows lt) := by
  have := chs_spec h.hK (Sf rows lt).length (Nat.le_refl _)
  rwa [List.take_length] at this
theorem Kn.c0 (h : Kn lt n rows fin K) : ∃ s, Cf K rows lt = [0] ++ s := by
  obtain ⟨_, _, s, hs⟩ := Sf_spec h.wf
  unfold Cf
  rw [hs]
  exact chs_head K 0 s
theorem Kn.ivo (h : Kn lt n rows fin K) : IvG (· ∈ Cf K rows lt) (Of K rows lt) ∧ (∀ p ∈ Of K rows lt, ∀ k < lt, repK K (Cf K rows lt) (stp rows p (97 + k)) ∈ Of K rows lt) ∧ ∃ s, Of K rows lt = [0] ++ s := by
  obtain ⟨I, cl, _⟩ := Sf_spec h.wf
  have ic := h.ivc
  refine gro_spec (P := (· ∈ Cf K rows lt)) (n := n) (rep := repK K (Cf K rows lt)) (fun p hp k hk => ?_) (fun p hp => I.pr p (ic.sub p hp)) h.wf.n2 1200 0 [0] ⟨by simp, fun p hp => ?_⟩ (Nat.zero_le _) rfl (fun p hp => nomatch hp)
  · exact (repK_in (ic.cov _ (cl p (ic.sub p hp) k hk))).1
  · obtain ⟨s, hs⟩ := h.c0
    rw [List.mem_singleton.mp hp, hs]; exact List.mem_append_left _ (List.mem_singleton.mpr rfl)
theorem Kn.len (h : Kn lt n rows fin K) : (Of K rows lt).length ≤ n ∧ 0 < (Of K rows lt).length := by
  obtain ⟨I, _, s, hs⟩ := h.ivo
  refine ⟨I.len fun p hp => (Sf_spec h.wf).1.pr p (h.ivc.sub p hp), ?_⟩
  rw [hs]; simp
theorem Kn.idx (h : Kn lt n rows fin K) {p : Nat} (hp : p ∈ Of K rows lt) {k : Nat} (hk : k < lt) : idK K (Of K rows lt) (stp rows p (97 + k)) < (Of K rows lt).length ∧ (stp rows p (97 + k), (Of K rows lt).getD (idK K (Of K rows lt) (stp rows p (97 + k))) 0) ∉ K ∧
    ((List.range (Of K rows lt).length).filter fun j => !decide ((stp rows p (97 + k), (Of K rows lt).getD j 0) ∈ K)).head? = some (idK K (Of K rows lt) (stp rows p (97 + k))) := by
  obtain ⟨I, cl, _⟩ := h.ivo
  have hS := (Sf_spec h.wf).2.1 p (h.ivc.sub p (I.pr p hp)) k hk
  have hr := cl p hp k hk
  have hr2 := (repK_in (h.ivc.cov _ hS)).2.1
  generalize stp rows p (97 + k) = x at hr hr2 ⊢
  obtain ⟨i, hi, e⟩ := List.getElem_of_mem hr
  unfold idK
  rw [List.head?_filter]
  cases ef : (List.range (Of K rows lt).length).find? fun j => !decide ((x, (Of K rows lt).getD j 0) ∈ K) with
  | none =>
    have := List.find?_eq_none.mp ef i (List.mem_range.mpr hi)
    rw [List.getD_eq_getElem?_getD, List.getElem?_eq_getElem hi, Option.getD_some, e] at this
    simp [hr2] at this
  | some c => exact ⟨List.mem_range.mp (List.mem_of_find?_eq_some ef), by simpa using List.find?_some ef, rfl⟩
theorem row_eq (hw : Wf lt n rows) {p : Nat} (hp : p < n) : rowAt rows p = (List.range lt).map fun k => stp rows p (97 + k) := by
  have hr := hw.row _ (hw.getrow hp).1
  refine List.ext_getElem (by rw [List.length_map, List.length_range, hr.1]) fun i h1 h2 => ?_
  rw [List.getElem_map, List.getElem_range]
  unfold stp
  rw [Nat.add_sub_cancel_left, List.getD_eq_getElem?_getD, List.getElem?_eq_getElem h1]; rfl
theorem Kn.pn (h : Kn lt n rows fin K) {p : Nat} (hp : p ∈ Of K rows lt) : p ∈ Sf rows lt ∧ p < n := by
  have := h.ivc.sub p (h.ivo.1.pr p hp)
  exact ⟨this, (Sf_spec h.wf).1.pr p this⟩
theorem Kn.wfL (h : Kn lt n rows fin K) : Wf lt (Of K rows lt).length (lrows K rows lt) := by
  have hl := h.len
  refine ⟨h.wf.l1, h.wf.l2, hl.2, by have := h.wf.n2; omega, by unfold lrows; rw [List.length_map], fun r hr => ?_⟩
  obtain ⟨p, hp, rfl⟩ := List.mem_map.mp hr
  rw [row_eq h.wf (h.pn hp).2, List.map_map]
  refine ⟨by rw [List.length_map, List.length_range], fun x hx => ?_⟩
  obtain ⟨k, hk, rfl⟩ := List.mem_map.mp hx
  exact (h.idx hp (List.mem_range.mp hk)).1
theorem Kn.stpL (h : Kn lt n rows fin K) {j : Nat} (hj : j < (Of K rows lt).length) {k : Nat} (hk : k < lt) : stp (lrows K rows lt) j (97 + k) = idK K (Of K rows lt) (stp rows ((Of K rows lt).getD j 0) (97 + k)) := by
  have hp : (Of K rows lt).getD j 0 ∈ Of K rows lt := by
    rw [List.getD_eq_getElem?_getD, List.getElem?_eq_getElem hj]; exact List.getElem_mem hj
  have : rowAt (lrows K rows lt) j = (rowAt rows ((Of K rows lt).getD j 0)).map (idK K (Of K rows lt)) := by
    unfold rowAt lrows
    rw [List.getD_eq_getElem?_getD, List.getElem?_map, List.getElem?_eq_getElem hj, List.getD_eq_getElem?_getD (l := Of K rows lt), List.getElem?_eq_getElem hj]; rfl
  unfold stp
  rw [this, row_eq h.wf (h.pn hp).2, List.map_map, Nat.add_sub_cancel_left, List.getD_eq_getElem?_getD, List.getElem?_map, List.getElem?_range hk, List.getD_eq_getElem?_getD (i := k), List.getElem?_map, List.getElem?_range hk]; rfl
def Sim (lt : Nat) (r1 r2 : List (List Nat)) (f1 f2 : List Nat) (p q : Nat) : Prop := ∀ w, Wd' lt w → (run r1 p w ∈ f1 ↔ run r2 q w ∈ f2)
theorem not_apart {p q : Nat} : ¬ Apart rows fin lt (p, q) ↔ Sim lt rows rows fin fin p q := by
  unfold Apart Sim
  constructor
  · intro h w hw
    exact Classical.byContradiction fun z => h ⟨w, hw, z⟩
  · rintro h ⟨w, hw, z⟩
    exact z (h w hw)
theorem Sim.stp {r1 r2 : List (List Nat)} {f1 f2 : List Nat} {p q : Nat} (h : Sim lt r1 r2 f1 f2 p q) {c : Nat} (h1 : 97 ≤ c) (h2 : c < 97 + lt) : Sim lt r1 r2 f1 f2 (GW.stp r1 p c) (GW.stp r2 q c) := fun w hw => h (c :: w) fun d hd => by
  rcases List.mem_cons.mp hd with z | z
  · rw [z]; exact ⟨h1, h2⟩
  · exact hw d z
theorem Kn.sim (h : Kn lt n rows fin K) {p q : Nat} (hp : p ∈ Sf rows lt) (hq : q ∈ Sf rows lt) : (p, q) ∉ K ↔ Sim lt rows rows fin fin p q := by
  rw [h.hK p hp q hq, not_apart]
theorem lfin_mem (h : Kn lt n rows fin K) {j : Nat} : j ∈ lfin K rows lt fin ↔ j < (Of K rows lt).length ∧ (Of K rows lt).getD j 0 ∈ fin := by
  unfold lfin
  rw [List.mem_filter, List.mem_range, decide_eq_true_iff]
theorem getD_mem {l : List Nat} {j : Nat} (hj : j < l.length) : l.getD j 0 ∈ l := by
  rw [List.getD_eq_getElem?_getD, List.getElem?_eq_getElem hj]; exact List.getElem_mem hj
/-- the least machine tells what the machine tells -/
theorem Kn.run (h : Kn lt n rows fin K) : ∀ (w : List Nat) (j q : Nat), Wd' lt w → j < (Of K rows lt).length → q ∈ Sf rows lt → Sim lt rows rows fin fin q ((Of K rows lt).getD j 0) → (run (lrows K rows lt) j w ∈ lfin K rows lt fin ↔ run rows q w ∈ fin)
  | [], j, q, _, hj, hq, hs => by
    show j ∈ _ ↔ q ∈ fin
    rw [lfin_mem h]
    have := hs [] (fun c hc => nomatch hc)
    have : q ∈ fin ↔ (Of K rows lt).getD j 0 ∈ fin := this
    rw [this]
    exact ⟨fun a => a.2, fun a => ⟨hj, a⟩⟩
  | c :: w, j, q, hw, hj, hq, hs => by
    obtain ⟨g1, g2⟩ := hw c List.mem_cons_self
    obtain ⟨k, rfl⟩ : ∃ k, c = 97 + k := ⟨c - 97, by omega⟩
    have hk : k < lt := by omega
    have ho := getD_mem hj
    obtain ⟨i1, i2, _⟩ := h.idx ho hk
    show GW.run (lrows K rows lt) (stp (lrows K rows lt) j (97 + k)) w ∈ _ ↔ GW.run rows (stp rows q (97 + k)) w ∈ _
    rw [h.stpL hj hk]
    refine Kn.run h w _ _ (fun d hd => hw d (List.mem_cons_of_mem _ hd)) i1 ((Sf_spec h.wf).2.1 q hq k hk) fun v hv => ?_
    have a := (hs.stp g1 g2) v hv
    have b := (h.sim ((Sf_spec h.wf).2.1 _ (h.pn ho).1 k hk) (h.pn (getD_mem i1)).1).mp i2 v hv
    exact a.trans b
theorem Kn.lang (h : Kn lt n rows fin K) : Sim lt (lrows K rows lt) rows (lfin K rows lt fin) fin 0 0 := by
  obtain ⟨_, _, s, hs⟩ := h.ivo
  obtain ⟨_, _, t, ht⟩ := Sf_spec h.wf
  intro w hw
  refine h.run w 0 0 hw h.len.2 (by rw [ht]; exact List.mem_append_left _ (List.mem_singleton.mpr rfl)) fun v hv => ?_
  rw [hs]; exact Iff.rfl
end
end GW

namespace GW
open PySem PySem.Spec PyProof.Rows L2 VS
/-! two lists side by side -/
inductive F2 (R : Nat → Nat → Prop) : List Nat → List Nat → Prop
  | nil : F2 R [] []
  | cons {p q : Nat} {a b : List Nat} : R p q → F2 R a b → F2 R (p :: a) (q :: b)
theorem F2.len {R : Nat → Nat → Prop} {a b : List Nat} (h : F2 R a b) : a.length = b.length := by
  induction h with
  | nil => rfl
  | cons _ _ ih => rw [List.length_cons, List.length_cons, ih]
theorem F2.app {R : Nat → Nat → Prop} {a b : List Nat} {p q : Nat} (h : F2 R a b) (r : R p q) : F2 R (a ++ [p]) (b ++ [q]) := by
  induction h with
  | nil => exact .cons r .nil
  | cons h _ ih => exact .cons h ih
theorem F2.left {R : Nat → Nat → Prop} {a b : List Nat} {p : Nat} (h : F2 R a b) (hp : p ∈ a) : ∃ q ∈ b, R p q := by
  induction h with
  | nil => exact nomatch hp
  | cons r _ ih =>
    rcases List.mem_cons.mp hp with z | z
    · rw [z]; exact ⟨_, List.mem_cons_self, r⟩
    · obtain ⟨q, hq, hr⟩ := ih z
      exact ⟨q, List.mem_cons_of_mem _ hq, hr⟩
theorem F2.right {R : Nat → Nat → Prop} {a b : List Nat} {q : Nat} (h : F2 R a b) (hq : q ∈ b) : ∃ p ∈ a, R p q := by
  induction h with
  | nil => exact nomatch hq
  | cons r _ ih =>
    rcases List.mem_cons.mp hq with z | z
    · rw [z]; exact ⟨_, List.mem_cons_self, r⟩
    · obtain ⟨p, hp, hr⟩ := ih z
      exact ⟨p, List.mem_cons_of_mem _ hp, hr⟩
theorem F2.getD {R : Nat → Nat → Prop} {a b : List Nat} (h : F2 R a b) : ∀ j, j < a.length → R (a.getD j 0) (b.getD j 0) := by
  induction h with
  | nil => exact fun j hj => absurd hj (Nat.not_lt_zero j)
  | cons r _ ih =>
    intro j hj
    cases j with
    | zero => exact r
    | succ j => exact ih j (Nat.lt_of_succ_lt_succ hj)
theorem F2.at {R : Nat → Nat → Prop} {a b : List Nat} (h : F2 R a b) : ∀ j : Nat, (a[j]? = none ∧ b[j]? = none) ∨ ∃ p q, a[j]? = some p ∧ b[j]? = some q ∧ R p q := by
  induction h with
  | nil => exact fun j => .inl ⟨rfl, rfl⟩
  | cons r _ ih =>
    intro j
    cases j with
    | zero => exact .inr ⟨_, _, rfl, rfl, r⟩
    | succ j => exact ih j
theorem F2.map_eq {R : Nat → Nat → Prop} {β : Type} {f g : Nat → β} {a b : List Nat} (h : F2 R a b) (he : ∀ p q, p ∈ a → q ∈ b → R p q → f p = g q) : a.map f = b.map g := by
  induction h with
  | nil => rfl
  | cons r _ ih =>
    rw [List.map_cons, List.map_cons, he _ _ List.mem_cons_self List.mem_cons_self r, ih fun p q hp hq => he p q (List.mem_cons_of_mem _ hp) (List.mem_cons_of_mem _ hq)]
section
variable {R : Nat → Nat → Prop} {rep1 rep2 : Nat → Nat} {r1 r2 : List (List Nat)} {lt : Nat}
theorem F2.add (u1 : ∀ p q q', R p q → R p q' → q = q') (u2 : ∀ p p' q, R p q → R p' q → p = p') {a b : List Nat} (h : F2 R a b) {p q : Nat} (r : R p q) : F2 R (add1 a p) (add1 b q) := by
  unfold add1
  by_cases hp : p ∈ a
  · have hq : q ∈ b := by
      obtain ⟨q', hq', r'⟩ := h.left hp
      rw [u1 p q q' r r']; exact hq'
    rw [if_pos hp, if_pos hq]; exact h
  · have hq : q ∉ b := fun hq => hp (by
      obtain ⟨p', hp', r'⟩ := h.right hq
      rw [u2 p p' q r r']; exact hp')
    rw [if_neg hp, if_neg hq]; exact h.app r
theorem F2.gx (u1 : ∀ p q q', R p q → R p q' → q = q') (u2 : ∀ p p' q, R p q → R p' q → p = p') (st : ∀ p q, R p q → ∀ k < lt, R (rep1 (stp r1 p (97 + k))) (rep2 (stp r2 q (97 + k)))) {a b : List Nat} (h : F2 R a b) {p q : Nat} (r : R p q) : ∀ j, j ≤ lt → F2 R (GW.gx rep1 r1 p a j) (GW.gx rep2 r2 q b j)
  | 0, _ => h
  | j + 1, hj => by
    rw [gx_succ, gx_succ]
    exact F2.add u1 u2 (F2.gx u1 u2 st h r j (by omega)) (st p q r j (by omega))
theorem F2.gro (u1 : ∀ p q q', R p q → R p q' → q = q') (u2 : ∀ p p' q, R p q → R p' q → p = p') (st : ∀ p q, R p q → ∀ k < lt, R (rep1 (stp r1 p (97 + k))) (rep2 (stp r2 q (97 + k)))) : ∀ (m i : Nat) (a b : List Nat), F2 R a b → F2 R (GW.gro rep1 r1 lt m i a) (GW.gro rep2 r2 lt m i b)
  | 0, i, a, b, h => h
  | m + 1, i, a, b, h => by
    rw [GW.gro, GW.gro]
    rcases h.at i with ⟨e1, e2⟩ | ⟨p, q, e1, e2, r⟩
    · rw [e1, e2]; exact h
    · rw [e1, e2]
      exact F2.gro u1 u2 st m (i + 1) _ _ (h.gx u1 u2 st r lt (Nat.le_refl _))
end
section
variable {lt n1 n2 : Nat} {r1 r2 : List (List Nat)} {f1 f2 : List Nat} {K1 K2 : List Pr}
theorem Sim.symm {p q : Nat} (h : Sim lt r1 r2 f1 f2 p q) : Sim lt r2 r1 f2 f1 q p := fun w hw => (h w hw).symm
theorem Sim.trans {r3 : List (List Nat)} {f3 : List Nat} {p q r : Nat} (h : Sim lt r1 r2 f1 f2 p q) (k : Sim lt r2 r3 f2 f3 q r) : Sim lt r1 r3 f1 f3 p r := fun w hw => (h w hw).trans (k w hw)
/-- the same language, the same least machine -/
theorem least_same (h1 : Kn lt n1 r1 f1 K1) (h2 : Kn lt n2 r2 f2 K2) (h : Sim lt r1 r2 f1 f2 0 0) : lrows K1 r1 lt = lrows K2 r2 lt ∧ lfin K1 r1 lt f1 = lfin K2 r2 lt f2 := by
  have c1 := h1.ivc
  have c2 := h2.ivc
  have s1 := Sf_spec h1.wf
  have s2 := Sf_spec h2.wf
  have F : F2 (fun p q => p ∈ Cf K1 r1 lt ∧ q ∈ Cf K2 r2 lt ∧ Sim lt r1 r2 f1 f2 p q) (Of K1 r1 lt) (Of K2 r2 lt) := by
    refine F2.gro ?_ ?_ ?_ 1200 0 [0] [0] (.cons ⟨?_, ?_, h⟩ .nil)
    · rintro p q q' ⟨_, a, b⟩ ⟨_, c, d⟩
      exact c2.one q a q' c ((h2.sim (c2.sub q a) (c2.sub q' c)).mpr (b.symm.trans d))
    · rintro p p' q ⟨a, _, b⟩ ⟨c, _, d⟩
      exact c1.one p a p' c ((h1.sim (c1.sub p a) (c1.sub p' c)).mpr (b.trans d.symm))
    · rintro p q ⟨a, b, c⟩ k hk
      have x1 := s1.2.1 p (c1.sub p a) k hk
      have x2 := s2.2.1 q (c2.sub q b) k hk
      obtain ⟨y1, z1, _⟩ := repK_in (c1.cov _ x1)
      obtain ⟨y2, z2, _⟩ := repK_in (c2.cov _ x2)
      exact ⟨y1, y2, (((h1.sim x1 (c1.sub _ y1)).mp z1).symm.trans (c.stp (by omega) (by omega))).trans ((h2.sim x2 (c2.sub _ y2)).mp z2)⟩
    · obtain ⟨s, hs⟩ := h1.c0
      rw [hs]; exact List.mem_append_left _ (List.mem_singleton.mpr rfl)
    · obtain ⟨s, hs⟩ := h2.c0
      rw [hs]; exact List.mem_append_left _ (List.mem_singleton.mpr rfl)
  have hl := F.len
  constructor
  · unfold lrows
    refine F.map_eq fun p q hp hq ⟨a, b, c⟩ => ?_
    rw [row_eq h1.wf (h1.pn hp).2, row_eq h2.wf (h2.pn hq).2, List.map_map, List.map_map]
    refine List.map_congr_left fun k hk => ?_
    have hk := List.mem_range.mp hk
    show idK K1 (Of K1 r1 lt) (stp r1 p (97 + k)) = idK K2 (Of K2 r2 lt) (stp r2 q (97 + k))
    have x1 := s1.2.1 p (c1.sub p a) k hk
    have x2 := s2.2.1 q (c2.sub q b) k hk
    have cs : Sim lt r1 r2 f1 f2 (stp r1 p (97 + k)) (stp r2 q (97 + k)) := c.stp (by omega) (by omega)
    generalize stp r1 p (97 + k) = x at x1 cs ⊢
    generalize stp r2 q (97 + k) = y at x2 cs ⊢
    unfold idK
    rw [← hl]
    refine congrArg (Option.getD · 0) ?_
    have key : ∀ l : List Nat, (∀ j ∈ l, j < (Of K1 r1 lt).length) → (l.find? fun j => !decide ((x, (Of K1 r1 lt).getD j 0) ∈ K1)) = l.find? fun j => !decide ((y, (Of K2 r2 lt).getD j 0) ∈ K2) := by
      intro l
      induction l with
      | nil => exact fun _ => rfl
      | cons j l ih =>
        intro hj
        have hj0 := hj j List.mem_cons_self
        obtain ⟨a', b', c'⟩ := F.getD j hj0
        have e : decide ((x, (Of K1 r1 lt).getD j 0) ∈ K1) = decide ((y, (Of K2 r2 lt).getD j 0) ∈ K2) := by
          rw [decide_eq_decide, ← Decidable.not_iff_not, h1.sim x1 (c1.sub _ a'), h2.sim x2 (c2.sub _ b')]
          exact ⟨fun z => (cs.symm.trans z).trans c', fun z => (cs.trans z).trans c'.symm⟩
        rw [List.find?_cons, List.find?_cons, e, ih fun j hj' => hj j (List.mem_cons_of_mem _ hj')]
    exact key _ fun j hj => List.mem_range.mp hj
  · unfold lfin
    rw [← hl]
    refine List.filter_congr fun j hj => ?_
    obtain ⟨_, _, c⟩ := F.getD j (List.mem_range.mp hj)
    rw [decide_eq_decide]
    exact c [] fun d hd => nomatch hd
theorem least_iff (h1 : Kn lt n1 r1 f1 K1) (h2 : Kn lt n2 r2 f2 K2) : (lrows K1 r1 lt = lrows K2 r2 lt ∧ lfin K1 r1 lt f1 = lfin K2 r2 lt f2) ↔ Sim lt r1 r2 f1 f2 0 0 := by
  refine ⟨fun ⟨a, b⟩ => ?_, least_same h1 h2⟩
  have l1 := h1.lang
  rw [a, b] at l1
  exact l1.symm.trans h2.lang
end
/-! two machines compared -/
theorem eqvs_ni : ∀ a b : List Nat, D.eqvs (a.map ni) (b.map ni) = decide (a = b)
  | [], [] => by simp [D.eqvs]
  | [], y :: b => by simp [D.eqvs]
  | x :: a, [] => by simp [D.eqvs]
  | x :: a, y :: b => by
    rw [List.map_cons, List.map_cons, D.eqvs, eqvs_ni a b, eqv_int, Bool.eq_iff_iff, Bool.and_eq_true, beq_iff_eq, decide_eq_true_iff, decide_eq_true_iff, List.cons.injEq]
    exact ⟨fun ⟨h, k⟩ => ⟨by omega, k⟩, fun ⟨h, k⟩ => ⟨by omega, k⟩⟩
theorem eqvs_rows : ∀ a b : List (List Nat), D.eqvs (a.map rowD) (b.map rowD) = decide (a = b)
  | [], [] => by simp [D.eqvs]
  | [], y :: b => by simp [D.eqvs]
  | x :: a, [] => by simp [D.eqvs]
  | x :: a, y :: b => by
    rw [List.map_cons, List.map_cons, D.eqvs, eqvs_rows a b, rowD, rowD, D.eqv, eqvs_ni, Bool.eq_iff_iff, Bool.and_eq_true, decide_eq_true_iff, decide_eq_true_iff, decide_eq_true_iff, List.cons.injEq]
theorem plns_rows (n : Nat) : ∀ l : List (List Nat), D.plns (n + 1) (l.map rowD) = true
  | [] => by rw [List.map_nil, D.plns]
  | x :: l => by rw [List.map_cons, D.plns, rowD, pln_tup, plns_ni, plns_rows n l]; rfl
theorem pln_mach (lt : Nat) (R : List (List Nat)) (F : List Nat) : D.pln 64 (mach lt R F) = true := by
  unfold mach
  rw [pln_tup, D.plns, pln_int, D.plns, pln_tup, plns_rows, D.plns, pln_tup, plns_ni, D.plns]; rfl
theorem eq_mach (lt : Nat) (R R' : List (List Nat)) (F F' : List Nat) : opEq (mach lt R F) (mach lt R' F') = some (.bl (decide (R = R' ∧ F = F'))) := by
  unfold opEq
  rw [if_pos (by rw [pln_mach, pln_mach]; rfl)]
  unfold mach
  rw [D.eqv, D.eqvs, D.eqvs, D.eqvs, D.eqvs, eqv_int, D.eqv, D.eqv, eqvs_rows, eqvs_ni]
  refine congrArg (fun t => some (D.bl t)) ?_
  rw [Bool.eq_iff_iff]
  simp
end GW

namespace GW
open PySem PySem.Spec PyProof.Rows L2 VS
/-! the least machine as the law has it -/
abbrev lO (L : List Nat) : Option O := some (.lst (L.map fun q => O.v (ni q)))
abbrev kO (K : List Pr) : Option O := oD (.ndk (K.map pD) (K.map fun _ => .bl true))
theorem lO_toD (L : List Nat) : (O.lst (L.map fun q => O.v (ni q))).toD = .lst (L.map ni) := by
  rw [toD_lst, List.map_map, show (O.toD ∘ fun q => O.v (ni q)) = ni from compToD ni]
theorem in_lst (p : Nat) (L : List Nat) : opInS (ni p) (.lst (L.map ni)) = some (.bl (decide (p ∈ L))) := by
  unfold opInS
  rw [inS, if_pos (by rw [pln_int, pln_lst, plns_ni]; rfl), Option.map_some, any_fin]
theorem nin_lst (p : Nat) (L : List Nat) : opNotInS (ni p) (.lst (L.map ni)) = some (.bl (!decide (p ∈ L))) := by
  unfold opNotInS
  rw [inS, if_pos (by rw [pln_int, pln_lst, plns_ni]; rfl), Option.map_some, any_fin]
section
variable {lt n : Nat} {rows : List (List Nat)} {fin : List Nat} {K : List Pr} {c : VS.Env} {i s v a p : Nat} {L C : List Nat}
theorem eV_of {d : D} (h : c[i]? = some (oD d)) : eV i c = .ok d := by rw [eV_def, h]
theorem eL_of (h : c[i]? = some (lO L)) : eL i c = .ok (.lst (L.map ni)) := by rw [eL_def, h]; exact congrArg R.ok (lO_toD L)
theorem app_of {g : VS.Env → R D} (h : c[i]? = some (lO L)) (hg : g c = .ok (ni p)) (hl : L.length < 4000000) : Nx (sApp i g) c (c.set i (lO (L ++ [p]))) := by
  unfold Nx
  rw [sApp_def, atL_def, h, hg]
  show (if (L.map fun q => O.v (ni q)).length < 16777216 then _ else _) = _
  rw [List.length_map, if_pos (by omega)]
  unfold lO
  rw [List.map_append]; rfl
theorem lt_of (h2 : c[2]? = some (oD (ni a))) (hi : c[i]? = some (lO L)) : (eB (eOp2 (opRel fun i j => decide (i < j)) (eV 2) (eFn (fLen) (eCons (eL i) eNil)))) c = .ok (decide (a < L.length)) := by
  have hl := eL_of hi
  have hv := eV_of h2
  simp -implicitDefEqProofs only [eB_def, eOp2_def, eFn_def, eCons_def, eNil_def, hv, hl, ok_bind, fLen_lst, List.length_map, lift_some, opRel_int, asB_bl]
  exact congrArg R.ok (by rw [Bool.eq_iff_iff, decide_eq_true_iff, decide_eq_true_iff]; omega)
theorem inc_of (h2 : c[2]? = some (oD (ni a))) : Nx (sSet 2 (eOp2 (opAdd true true) (eV 2) (eC (.int 1)))) c (c.set 2 (oD (ni (a + 1)))) := by
  refine .set (d := ni (a + 1)) ?_
  rw [eOp2_def, eV_of h2, eC_def, ok_bind, ok_bind, show opAdd true true (ni a) (.int 1) = _ from add_nat a 1]; rfl
theorem row_of (hw : Wf lt n rows) (h0 : c[0]? = some (oD (mach lt rows fin))) {g : VS.Env → R D} (hg : g c = .ok (ni p)) (hp : p < n) : (eIt true (eOp2 (opIx true) (eOp2 (opIx true) (eV 0) (eC (.int 1))) g)) c = .ok ((rowAt rows p).map ni) := by
  have j1 := ix2 hw hp
  have hv := eV_of h0
  simp -implicitDefEqProofs only [eIt_def, eOp2_def, eC_def, hv, hg, ok_bind, ix1, lift_some, j1]
  rw [asA_tup, if_pos (okElT _)]; rfl
theorem eIxo_of (hi : c[i]? = some (lO L)) {j : Nat} {g : VS.Env → R D} (hg : g c = .ok (ni j)) (hj : L[j]? = some p) : eIxo i g c = .ok (ni p) := by
  rw [eIxo_def, hi]
  show (g c >>= fun k => lift (ixO (.lst (L.map fun q => O.v (ni q))) k)) = _
  rw [hg, ok_bind, ixO_lst, atI_ofNat, List.getElem?_map, hj]; rfl
theorem filt_of (h4 : c[4]? = some (kO K)) (h5 : c[5]? = some (lO C)) (hv : c[v]? = some (oD (ni p))) (n4 : s ≠ 4) (n5 : s ≠ v) (hs : s < c.length) (hl : C.length < 4000000) : (eLc (eIt false (eL 5)) (eB (eNIn true 4 (eFn fTup (eCons (eV v) (eCons (eV s) eNil))))) (eV s) s) c = .ok (.lst ((C.filter fun q => !decide ((p, q) ∈ K)).map ni)) := by
  have es : (eIt false (eL 5)) c = .ok (C.map ni) := by
    rw [eIt_def, eL_of h5, ok_bind, asA_lst, if_pos (by rw [okEl_f, flats_ni])]; rfl
  have cm := compL_filterm (eB (eNIn true 4 (eFn fTup (eCons (eV v) (eCons (eV s) eNil))))) (eV s) s c ni (fun q => !decide ((p, q) ∈ K)) ni C (by
    intro q _
    have a4 : (c.set s (oD (ni q)))[4]? = some (kO K) := by rw [List.getElem?_set_ne n4]; exact h4
    have av : (c.set s (oD (ni q)))[v]? = some (oD (ni p)) := by rw [List.getElem?_set_ne n5]; exact hv
    have as : (c.set s (oD (ni q)))[s]? = some (oD (ni q)) := by rw [List.getElem?_set_self hs]
    have hk : (eFn fTup (eCons (eV v) (eCons (eV s) eNil))) (c.set s (oD (ni q))) = .ok (pD (p, q)) := by
      rw [eFn_def, eCons_def, eCons_def, eNil_def, eV_of av, eV_of as]; rfl
    rw [eB_def, nin_is (a := (p, q)) true (atNk_v a4) hk]; rfl) (by
    intro q _ _
    have as : (c.set s (oD (ni q)))[s]? = some (oD (ni q)) := by rw [List.getElem?_set_self hs]
    exact eV_of as)
  rw [eLc_def, eLcs_def, es, ok_bind, cm, ok_bind, List.length_map, if_pos (by have := List.length_filter_le (fun q => !decide ((p, q) ∈ K)) C; omega)]; rfl
theorem opIx0_of {l : List Nat} (h : l.head? = some p) : opIx true (.lst (l.map ni)) (.int 0) = some (ni p) := by
  cases l with
  | nil => cases h
  | cons x l =>
    cases h
    show opIx true (.lst (List.map ni (p :: l))) (.int ((0 : Nat) : Int)) = _
    rw [opIx_lst, atI_ofNat]; rfl
/-! the states that are reached -/
abbrev fIn : VS.Env → Rs := (sIf (eB (eOp2 (opNotInS) (eV 3) (eL 1)))
    (sApp 1 (eV 3))
    sNil)
abbrev fB : VS.Env → Rs := (sSeq (sFor 3 (eIt true (eOp2 (opIx true) (eOp2 (opIx true) (eV 0) (eC (.int 1))) (eIxo 1 (eV 2)))) fIn)
    (sSet 2 (eOp2 (opAdd true true) (eV 2) (eC (.int 1)))))
theorem row_get (hw : Wf lt n rows) {p j : Nat} {d : D} (hp : p < n) (h : ((rowAt rows p).map ni)[j]? = some d) : j < lt ∧ d = ni (stp rows p (97 + j)) := by
  rw [row_eq hw hp, List.map_map, List.getElem?_map] at h
  obtain ⟨k, hk, rfl⟩ := Option.map_eq_some_iff.mp h
  obtain ⟨hj, e⟩ := List.getElem?_eq_some_iff.mp hk
  rw [List.getElem_range] at e
  rw [List.length_range] at hj
  rw [← e]
  exact ⟨hj, rfl⟩
theorem found_row (hw : Wf lt n rows) {L : List Nat} (I : IvG (· < n) L) {a p : Nat} (hL : L[a]? = some p) (x3 : Option O) :
    ∃ y3, Nx fB [oD (mach lt rows fin), lO L, oD (ni a), x3, none, none, none, none, none, none, none, none] [oD (mach lt rows fin), lO (gx id rows p L lt), oD (ni (a + 1)), y3, none, none, none, none, none, none, none, none] := by
  have l2 := hw.l2
  obtain ⟨ha, hLe⟩ := List.getElem?_eq_some_iff.mp hL
  have hpL : p ∈ L := by rw [← hLe]; exact List.getElem_mem ha
  have hp : p < n := I.pr p hpL
  have hP : ∀ p, p < n → ∀ k < lt, id (stp rows p (97 + k)) < n := fun p hp k hk => stp_lt hw hp (by omega) (by omega)
  have hn2 := hw.n2
  obtain ⟨c', main, y3, rfl⟩ := forL_ex 3 fIn (fun j c => ∃ y3, c = [oD (mach lt rows fin), lO (gx id rows p L j), oD (ni a), y3, none, none, none, none, none, none, none, none]) ((rowAt rows p).map ni) [oD (mach lt rows fin), lO L, oD (ni a), x3, none, none, none, none, none, none, none, none] (by
    rintro j d c hd ⟨y3, rfl⟩
    obtain ⟨hj, rfl⟩ := row_get hw hp hd
    obtain ⟨I', _, _⟩ := I.gx (rep := id) hP hp j (by omega)
    have hlen := I'.len fun p hp => hp
    rw [gx_succ]
    generalize gx id rows p L j = G at I' hlen ⊢
    have ht : (eB (eOp2 (opNotInS) (eV 3) (eL 1))) [oD (mach lt rows fin), lO G, oD (ni a), oD (ni (stp rows p (97 + j))), none, none, none, none, none, none, none, none] = .ok (!decide (stp rows p (97 + j) ∈ G)) := by
      rw [eB_def, eOp2_def, eL_of (c := [oD (mach lt rows fin), lO G, oD (ni a), oD (ni (stp rows p (97 + j))), none, none, none, none, none, none, none, none]) (i := 1) rfl, eV_of (c := [oD (mach lt rows fin), lO G, oD (ni a), oD (ni (stp rows p (97 + j))), none, none, none, none, none, none, none, none]) (i := 3) rfl, ok_bind, ok_bind, nin_lst]; rfl
    unfold add1
    by_cases hm : stp rows p (97 + j) ∈ G
    · rw [if_pos (show id (stp rows p (97 + j)) ∈ G from hm)]
      exact ⟨_, Nx.no (ht.trans (by rw [decide_eq_true hm]; rfl)) .nil, oD (ni (stp rows p (97 + j))), rfl⟩
    · rw [if_neg (show ¬ id (stp rows p (97 + j)) ∈ G from hm)]
      exact ⟨_, Nx.yes (ht.trans (by rw [decide_eq_false hm]; rfl)) ((app_of (L := G) (p := stp rows p (97 + j)) rfl rfl (by omega)).to rfl), oD (ni (stp rows p (97 + j))), rfl⟩) ⟨x3, rfl⟩
  have e : ((rowAt rows p).map ni).length = lt := by rw [List.length_map]; exact (hw.row _ (hw.getrow hp).1).1
  rw [e] at main
  refine ⟨y3, .seq (.for (row_of hw (fin := fin) rfl (eIxo_of (L := L) (p := p) rfl rfl hL) hp) main) ((inc_of rfl).to rfl)⟩
theorem found_loop (hw : Wf lt n rows) : ∃ x2 x3, Nx (whileL (eB (eOp2 (opRel fun i j => decide (i < j)) (eV 2) (eFn (fLen) (eCons (eL 1) eNil)))) fB wN) [oD (mach lt rows fin), lO [0], oD (ni 0), none, none, none, none, none, none, none, none, none] [oD (mach lt rows fin), lO (Sf rows lt), x2, x3, none, none, none, none, none, none, none, none] := by
  have hP : ∀ p, p < n → ∀ k < lt, id (stp rows p (97 + k)) < n := fun p hp k hk => stp_lt hw hp (by omega) (by omega)
  have hn2 := hw.n2
  have l2 := hw.l2
  obtain ⟨c', main, x2, x3, rfl⟩ := whileL_ex (eB (eOp2 (opRel fun i j => decide (i < j)) (eV 2) (eFn (fLen) (eCons (eL 1) eNil)))) fB
    (fun m c => ∃ (L : List Nat) (a : Nat) (x3 : Option O), c = [oD (mach lt rows fin), lO L, oD (ni a), x3, none, none, none, none, none, none, none, none] ∧ IvG (· < n) L ∧ a ≤ L.length ∧ m + a = 1200 ∧ gro id rows lt m a L = Sf rows lt)
    (fun c => ∃ x2 x3, c = [oD (mach lt rows fin), lO (Sf rows lt), x2, x3, none, none, none, none, none, none, none, none]) (by
      rintro m c ⟨L, a, x3, rfl, I, ha, hm, hg⟩
      have hlen := I.len fun p hp => hp
      obtain ⟨m, rfl⟩ : ∃ k, m = k + 1 := ⟨m - 1, by omega⟩
      have ht := lt_of (c := [oD (mach lt rows fin), lO L, oD (ni a), x3, none, none, none, none, none, none, none, none]) (i := 1) (a := a) (L := L) rfl rfl
      rw [gro] at hg
      by_cases h : a < L.length
      · have hget := List.getElem?_eq_getElem h
        rw [hget] at hg
        obtain ⟨y3, hN⟩ := found_row (fin := fin) hw I hget x3
        obtain ⟨I', _, s, hs⟩ := I.gx (rep := id) hP (I.pr _ (List.getElem_mem h)) lt (Nat.le_refl _)
        exact .inr ⟨ht.trans (by rw [decide_eq_true h]), m, _, by omega, hN, _, a + 1, y3, rfl, I', by rw [hs, List.length_append]; omega, by omega, hg⟩
      · rw [List.getElem?_eq_none (by omega)] at hg
        have hg : L = Sf rows lt := hg
        exact .inl ⟨ht.trans (by rw [decide_eq_false h]), _, _, by rw [hg]⟩)
    wN 1200 [oD (mach lt rows fin), lO [0], oD (ni 0), none, none, none, none, none, none, none, none, none] (by unfold wN; omega) ⟨[0], 0, none, rfl, ⟨by simp, fun p hp => by rw [List.mem_singleton.mp hp]; exact hw.n1⟩, Nat.zero_le _, rfl, rfl⟩
  exact ⟨x2, x3, main⟩
/-! one of each kind -/
abbrev cIn : VS.Env → Rs := (sIf (eB (eOp2 (opEq) (eFn (fLen) (eCons (eLc (eIt false (eL 5)) (eB (eNIn true 4 (eFn fTup (eCons (eV 6) (eCons (eV 3) eNil))))) (eV 3) 3) eNil)) (eC (.int 0))))
    (sApp 5 (eV 6))
    sNil)
theorem chosen_loop (S : List Nat) (hS : S.length ≤ 1100) (x0 x2 x3 : Option O) : ∃ y6, Nx (sFor 6 (eIt true (eV 1)) cIn) [x0, oD (.lst (S.map ni)), x2, x3, kO K, lO [], none, none, none, none, none, none] [x0, oD (.lst (S.map ni)), x2, x3, kO K, lO (chs K S), y6, none, none, none, none, none] := by
  obtain ⟨c', main, y6, rfl, _⟩ := forL_ex 6 cIn (fun j c => ∃ y6, c = [x0, oD (.lst (S.map ni)), x2, x3, kO K, lO (chs K (S.take j)), y6, none, none, none, none, none] ∧ (chs K (S.take j)).length ≤ j) (S.map ni) [x0, oD (.lst (S.map ni)), x2, x3, kO K, lO [], none, none, none, none, none, none] (by
    rintro j d c hd ⟨y6, rfl, hlen⟩
    rw [List.getElem?_map] at hd
    obtain ⟨q, hq, rfl⟩ := Option.map_eq_some_iff.mp hd
    obtain ⟨hj, rfl⟩ := List.getElem?_eq_some_iff.mp hq
    rw [List.take_succ_eq_append_getElem hj, chs_app]
    generalize chs K (S.take j) = C at hlen ⊢
    generalize S[j] = p
    have hf := filt_of (c := [x0, oD (.lst (S.map ni)), x2, x3, kO K, lO C, oD (ni p), none, none, none, none, none]) (s := 3) (v := 6) (K := K) (C := C) (p := p) rfl rfl rfl (by decide) (by decide) (Nat.lt_of_sub_pos (by simp)) (by omega)
    have ht : (eB (eOp2 (opEq) (eFn (fLen) (eCons (eLc (eIt false (eL 5)) (eB (eNIn true 4 (eFn fTup (eCons (eV 6) (eCons (eV 3) eNil))))) (eV 3) 3) eNil)) (eC (.int 0)))) [x0, oD (.lst (S.map ni)), x2, x3, kO K, lO C, oD (ni p), none, none, none, none, none] = .ok (decide ((C.filter fun q => !decide ((p, q) ∈ K)).length = 0)) := by
      rw [eB_def, eOp2_def, eFn_def, eCons_def, hf, ok_bind, eNil_def, ok_bind, ok_bind, fLen_lst, lift_some, ok_bind, eC_def, ok_bind, opEq_int, lift_some, ok_bind, asB_bl, lift_some, List.length_map]
      exact congrArg R.ok (by rw [Bool.eq_iff_iff, beq_iff_eq, decide_eq_true_iff]; omega)
    unfold cst
    by_cases h : (C.filter fun q => !decide ((p, q) ∈ K)).length = 0
    · rw [if_pos h]
      exact ⟨_, Nx.yes (ht.trans (by rw [decide_eq_true h])) ((app_of (L := C) (p := p) rfl rfl (by omega)).to rfl), oD (ni p), rfl, by rw [List.length_append, List.length_singleton]; omega⟩
    · rw [if_neg h]
      exact ⟨_, Nx.no (ht.trans (by rw [decide_eq_false h])) .nil, oD (ni p), rfl, by omega⟩) ⟨none, rfl, Nat.le_refl 0⟩
  rw [List.length_map, List.take_length] at main
  refine ⟨y6, .for ?_ main⟩
  show lift (asA true (.lst _)) = _
  rw [asA_lst, if_pos (okElT _)]; rfl
/-! their order -/
abbrev oIn : VS.Env → Rs := (sSeq (sSet 3 (eOp2 (opIx true) (eLc (eIt false (eL 5)) (eB (eNIn true 4 (eFn fTup (eCons (eV 8) (eCons (eV 10) eNil))))) (eV 10) 10) (eC (.int 0))))
    (sIf (eB (eOp2 (opNotInS) (eV 3) (eL 7)))
    (sApp 7 (eV 3))
    sNil))
abbrev oBd : VS.Env → Rs := (sSeq (sFor 8 (eIt true (eOp2 (opIx true) (eOp2 (opIx true) (eV 0) (eC (.int 1))) (eIxo 7 (eV 2)))) oIn)
    (sSet 2 (eOp2 (opAdd true true) (eV 2) (eC (.int 1)))))
theorem order_row (h : Kn lt n rows fin K) {L : List Nat} (I : IvG (· ∈ Cf K rows lt) L) {a p : Nat} (hL : L[a]? = some p) (x1 x3 x6 x8 : Option O) :
    ∃ y3 y8, Nx oBd [oD (mach lt rows fin), x1, oD (ni a), x3, kO K, lO (Cf K rows lt), x6, lO L, x8, none, none, none] [oD (mach lt rows fin), x1, oD (ni (a + 1)), y3, kO K, lO (Cf K rows lt), x6, lO (gx (repK K (Cf K rows lt)) rows p L lt), y8, none, none, none] := by
  have hw := h.wf
  have l2 := hw.l2
  have hn2 := hw.n2
  obtain ⟨S1, S2, _⟩ := Sf_spec hw
  have ic := h.ivc
  obtain ⟨ha, hLe⟩ := List.getElem?_eq_some_iff.mp hL
  have hpL : p ∈ L := by rw [← hLe]; exact List.getElem_mem ha
  have hpC := I.pr p hpL
  have hp : p < n := S1.pr p (ic.sub p hpC)
  have hP : ∀ p, p ∈ Cf K rows lt → ∀ k < lt, repK K (Cf K rows lt) (stp rows p (97 + k)) ∈ Cf K rows lt := fun p hp k hk => (repK_in (ic.cov _ (S2 p (ic.sub p hp) k hk))).1
  have hCn : ∀ p, p ∈ Cf K rows lt → p < n := fun p hp => S1.pr p (ic.sub p hp)
  have hSl := S1.len fun p hp => hp
  have hCl : (Cf K rows lt).length < 4000000 := by
    have : ∀ (l C : List Nat), (l.foldl (cst K) C).length ≤ C.length + l.length := by
      intro l
      induction l with
      | nil => exact fun C => Nat.le_refl _
      | cons x l ih =>
        intro C
        have := ih (cst K C x)
        rw [List.foldl_cons, List.length_cons]
        have : (cst K C x).length ≤ C.length + 1 := by
          unfold cst
          split
          · rw [List.length_append, List.length_singleton]; omega
          · omega
        omega
    have := this (Sf rows lt) []
    rw [List.length_nil] at this
    show (List.foldl (cst K) [] (Sf rows lt)).length < 4000000
    omega
  obtain ⟨c', main, y3, y8, rfl⟩ := forL_ex 8 oIn (fun j c => ∃ y3 y8, c = [oD (mach lt rows fin), x1, oD (ni a), y3, kO K, lO (Cf K rows lt), x6, lO (gx (repK K (Cf K rows lt)) rows p L j), y8, none, none, none]) ((rowAt rows p).map ni) [oD (mach lt rows fin), x1, oD (ni a), x3, kO K, lO (Cf K rows lt), x6, lO L, x8, none, none, none] (by
    rintro j d c hd ⟨y3, y8, rfl⟩
    obtain ⟨hj, rfl⟩ := row_get hw hp hd
    obtain ⟨I', _, _⟩ := I.gx (rep := repK K (Cf K rows lt)) hP hpC j (by omega)
    have hlen := I'.len hCn
    have hrep := (repK_in (ic.cov _ (S2 p (ic.sub p hpC) j hj))).2.2
    rw [gx_succ]
    generalize gx (repK K (Cf K rows lt)) rows p L j = G at I' hlen ⊢
    generalize stp rows p (97 + j) = x at hrep ⊢
    generalize repK K (Cf K rows lt) x = r at hrep ⊢
    generalize Cf K rows lt = C at hrep hCl ⊢
    have hf := filt_of (c := [oD (mach lt rows fin), x1, oD (ni a), y3, kO K, lO C, x6, lO G, oD (ni x), none, none, none]) (s := 10) (v := 8) (K := K) (C := C) (p := x) rfl rfl rfl (by decide) (by decide) (Nat.lt_of_sub_pos (by simp)) hCl
    have hset : Nx (sSet 3 (eOp2 (opIx true) (eLc (eIt false (eL 5)) (eB (eNIn true 4 (eFn fTup (eCons (eV 8) (eCons (eV 10) eNil))))) (eV 10) 10) (eC (.int 0)))) [oD (mach lt rows fin), x1, oD (ni a), y3, kO K, lO C, x6, lO G, oD (ni x), none, none, none] [oD (mach lt rows fin), x1, oD (ni a), oD (ni r), kO K, lO C, x6, lO G, oD (ni x), none, none, none] := by
      refine (Nx.set (d := ni r) ?_).to rfl
      rw [eOp2_def, hf, ok_bind, eC_def, ok_bind, opIx0_of hrep]; rfl
    have ht : (eB (eOp2 (opNotInS) (eV 3) (eL 7))) [oD (mach lt rows fin), x1, oD (ni a), oD (ni r), kO K, lO C, x6, lO G, oD (ni x), none, none, none] = .ok (!decide (r ∈ G)) := by
      rw [eB_def, eOp2_def, eL_of (c := [oD (mach lt rows fin), x1, oD (ni a), oD (ni r), kO K, lO C, x6, lO G, oD (ni x), none, none, none]) (i := 7) (L := G) rfl, eV_of (c := [oD (mach lt rows fin), x1, oD (ni a), oD (ni r), kO K, lO C, x6, lO G, oD (ni x), none, none, none]) (i := 3) rfl, ok_bind, ok_bind, nin_lst]; rfl
    unfold add1
    by_cases hm : r ∈ G
    · rw [if_pos hm]
      exact ⟨_, Nx.seq hset (Nx.no (ht.trans (by rw [decide_eq_true hm]; rfl)) .nil), oD (ni r), oD (ni x), rfl⟩
    · rw [if_neg hm]
      exact ⟨_, Nx.seq hset (Nx.yes (ht.trans (by rw [decide_eq_false hm]; rfl)) ((app_of (L := G) (p := r) rfl rfl (by omega)).to rfl)), oD (ni r), oD (ni x), rfl⟩) ⟨x3, x8, rfl⟩
  have e : ((rowAt rows p).map ni).length = lt := by rw [List.length_map]; exact (hw.row _ (hw.getrow hp).1).1
  rw [e] at main
  refine ⟨y3, y8, .seq (.for (row_of hw (fin := fin) rfl (eIxo_of (L := L) (p := p) rfl rfl hL) hp) main) ((inc_of rfl).to rfl)⟩
theorem order_loop (h : Kn lt n rows fin K) (x1 x3 x6 : Option O) : ∃ x2 x3' x8, Nx (whileL (eB (eOp2 (opRel fun i j => decide (i < j)) (eV 2) (eFn (fLen) (eCons (eL 7) eNil)))) oBd wN) [oD (mach lt rows fin), x1, oD (ni 0), x3, kO K, lO (Cf K rows lt), x6, lO [0], none, none, none, none] [oD (mach lt rows fin), x1, x2, x3', kO K, lO (Cf K rows lt), x6, lO (Of K rows lt), x8, none, none, none] := by
  have hw := h.wf
  have hn2 := hw.n2
  obtain ⟨S1, S2, _⟩ := Sf_spec hw
  have ic := h.ivc
  have hP : ∀ p, p ∈ Cf K rows lt → ∀ k < lt, repK K (Cf K rows lt) (stp rows p (97 + k)) ∈ Cf K rows lt := fun p hp k hk => (repK_in (ic.cov _ (S2 p (ic.sub p hp) k hk))).1
  have hCn : ∀ p, p ∈ Cf K rows lt → p < n := fun p hp => S1.pr p (ic.sub p hp)
  obtain ⟨c', main, x2, x3, x8, rfl⟩ := whileL_ex (eB (eOp2 (opRel fun i j => decide (i < j)) (eV 2) (eFn (fLen) (eCons (eL 7) eNil)))) oBd
    (fun m c => ∃ (L : List Nat) (a : Nat) (x3 x8 : Option O), c = [oD (mach lt rows fin), x1, oD (ni a), x3, kO K, lO (Cf K rows lt), x6, lO L, x8, none, none, none] ∧ IvG (· ∈ Cf K rows lt) L ∧ a ≤ L.length ∧ m + a = 1200 ∧ gro (repK K (Cf K rows lt)) rows lt m a L = Of K rows lt)
    (fun c => ∃ x2 x3 x8, c = [oD (mach lt rows fin), x1, x2, x3, kO K, lO (Cf K rows lt), x6, lO (Of K rows lt), x8, none, none, none]) (by
      rintro m c ⟨L, a, x3, x8, rfl, I, ha, hm, hg⟩
      have hlen := I.len hCn
      obtain ⟨m, rfl⟩ : ∃ k, m = k + 1 := ⟨m - 1, by omega⟩
      have ht := lt_of (c := [oD (mach lt rows fin), x1, oD (ni a), x3, kO K, lO (Cf K rows lt), x6, lO L, x8, none, none, none]) (i := 7) (a := a) (L := L) rfl rfl
      rw [gro] at hg
      by_cases hal : a < L.length
      · have hget := List.getElem?_eq_getElem hal
        rw [hget] at hg
        obtain ⟨y3, y8, hN⟩ := order_row h I hget x1 x3 x6 x8
        obtain ⟨I', _, s, hs⟩ := I.gx (rep := repK K (Cf K rows lt)) hP (I.pr _ (List.getElem_mem hal)) lt (Nat.le_refl _)
        exact .inr ⟨ht.trans (by rw [decide_eq_true hal]), m, _, by omega, hN, _, a + 1, y3, y8, rfl, I', by rw [hs, List.length_append]; omega, by omega, hg⟩
      · rw [List.getElem?_eq_none (by omega)] at hg
        have hg : L = Of K rows lt := hg
        exact .inl ⟨ht.trans (by rw [decide_eq_false hal]), _, _, _, by rw [hg]⟩)
    wN 1200 [oD (mach lt rows fin), x1, oD (ni 0), x3, kO K, lO (Cf K rows lt), x6, lO [0], none, none, none, none] (by unfold wN; omega) ⟨[0], 0, x3, none, rfl, ⟨by simp, fun p hp => by
      obtain ⟨s, hs⟩ := h.c0
      rw [List.mem_singleton.mp hp, hs]; exact List.mem_append_left _ (List.mem_singleton.mpr rfl)⟩, Nat.zero_le _, rfl, rfl⟩
  exact ⟨x2, x3, x8, main⟩
end
end GW

namespace GW
open PySem PySem.Spec PyProof.Rows L2 VS
section
variable {lt n : Nat} {rows : List (List Nat)} {fin : List Nat} {K : List Pr} {c : VS.Env} {i s v a p x r : Nat} {L C : List Nat}
abbrev nth : VS.Env → R D := eIxo 7 (eV 11)
theorem nth_of (h7 : c[7]? = some (oD (.lst (L.map ni)))) {j : Nat} (hj : c[11]? = some (oD (ni j))) (hl : j < L.length) : nth c = .ok (ni (L.getD j 0)) := by
  show (eIxo 7 (eV 11)) c = _
  rw [eIxo_def, h7]
  show (eV 11 c >>= fun k => lift (ixO (.v (.lst (L.map ni))) k)) = _
  rw [eV_of hj, ok_bind, ixO_v, opIx_lst, atI_ofNat, List.getElem?_map, List.getElem?_eq_getElem hl, List.getD_eq_getElem?_getD, List.getElem?_eq_getElem hl]; rfl
theorem rng_of (h7 : c[7]? = some (oD (.lst (L.map ni)))) (hl : L.length ≤ 1100) : (eItR (eC (.int 0)) (eFn (fLen) (eCons (eL 7) eNil))) c = .ok ((List.range L.length).map ni) := by
  have h : eL 7 c = .ok (.lst (L.map ni)) := by rw [eL_def, h7]; exact congrArg R.ok (toD_v _)
  simp -implicitDefEqProofs only [eItR_def, eC_def, eFn_def, eCons_def, eNil_def, h, ok_bind, fLen_lst, List.length_map, lift_some, asI_zero, asI_small (i := (L.length : Int)) (by omega) (by omega)]
  rw [rangeD_nat]
abbrev ixE : VS.Env → R D := (eOp2 (opIx true) (eLc (eItR (eC (.int 0)) (eFn (fLen) (eCons (eL 7) eNil))) (eB (eNIn true 4 (eFn fTup (eCons (eV 3) (eCons (eIxo 7 (eV 11)) eNil))))) (eV 11) 11) (eC (.int 0)))
theorem ixE_of (h3 : c[3]? = some (oD (ni x))) (h4 : c[4]? = some (kO K)) (h7 : c[7]? = some (oD (.lst (L.map ni)))) (hc : 11 < c.length) (hl : L.length ≤ 1100) (hh : ((List.range L.length).filter fun j => !decide ((x, L.getD j 0) ∈ K)).head? = some r) : ixE c = .ok (ni r) := by
  have cm := compL_filterm (eB (eNIn true 4 (eFn fTup (eCons (eV 3) (eCons (eIxo 7 (eV 11)) eNil))))) (eV 11) 11 c ni (fun j => !decide ((x, L.getD j 0) ∈ K)) ni (List.range L.length) (by
    intro j hj
    have a4 : (c.set 11 (oD (ni j)))[4]? = some (kO K) := by rw [List.getElem?_set_ne (by decide)]; exact h4
    have a3 : (c.set 11 (oD (ni j)))[3]? = some (oD (ni x)) := by rw [List.getElem?_set_ne (by decide)]; exact h3
    have a7 : (c.set 11 (oD (ni j)))[7]? = some (oD (.lst (L.map ni))) := by rw [List.getElem?_set_ne (by decide)]; exact h7
    have as : (c.set 11 (oD (ni j)))[11]? = some (oD (ni j)) := by rw [List.getElem?_set_self hc]
    have hk : (eFn fTup (eCons (eV 3) (eCons (eIxo 7 (eV 11)) eNil))) (c.set 11 (oD (ni j))) = .ok (pD (x, L.getD j 0)) := by
      rw [eFn_def, eCons_def, eCons_def, eNil_def, eV_of a3, show eIxo 7 (eV 11) _ = _ from nth_of a7 as (List.mem_range.mp hj)]; rfl
    rw [eB_def, nin_is (a := (x, L.getD j 0)) true (atNk_v a4) hk]; rfl) (by
    intro j _ _
    have as : (c.set 11 (oD (ni j)))[11]? = some (oD (ni j)) := by rw [List.getElem?_set_self hc]
    exact eV_of as)
  show (eOp2 _ _ _) c = _
  rw [eOp2_def, eLc_def, eLcs_def, rng_of h7 hl, ok_bind, cm, ok_bind, List.length_map, if_pos (by have := List.length_filter_le (fun j => !decide ((x, L.getD j 0) ∈ K)) (List.range L.length); rw [List.length_range] at this; omega), ok_bind, ok_bind, eC_def, ok_bind, opIx0_of hh]; rfl
abbrev rO (R : List (List Nat)) : Option O := some (.lst (R.map fun r => O.v (rowD r)))
abbrev rIn : VS.Env → Rs := (sApp 9 (eFn (fTuple true) (eCons (eLc (eIt true (eOp2 (opIx true) (eOp2 (opIx true) (eV 0) (eC (.int 1))) (eV 6))) tYes' ixE 3) eNil)))
theorem rows_loop (h : Kn lt n rows fin K) (x1 x2 x3 x5 x8 x6 : Option O) : ∃ y6, Nx (sFor 6 (eIt true (eV 7)) rIn) [oD (mach lt rows fin), x1, x2, x3, kO K, x5, x6, oD (.lst ((Of K rows lt).map ni)), x8, rO [], none, none] [oD (mach lt rows fin), x1, x2, x3, kO K, x5, y6, oD (.lst ((Of K rows lt).map ni)), x8, rO (lrows K rows lt), none, none] := by
  have hlen := h.len.1
  have hn2 := h.wf.n2
  have l2 := h.wf.l2
  obtain ⟨c', main, y6, rfl⟩ := forL_ex 6 rIn (fun j c => ∃ y6, c = [oD (mach lt rows fin), x1, x2, x3, kO K, x5, y6, oD (.lst ((Of K rows lt).map ni)), x8, rO (((Of K rows lt).take j).map fun p => (rowAt rows p).map (idK K (Of K rows lt))), none, none]) ((Of K rows lt).map ni) [oD (mach lt rows fin), x1, x2, x3, kO K, x5, x6, oD (.lst ((Of K rows lt).map ni)), x8, rO [], none, none] (by
    rintro j d c hd ⟨y6, rfl⟩
    rw [List.getElem?_map] at hd
    obtain ⟨p, hq, rfl⟩ := Option.map_eq_some_iff.mp hd
    obtain ⟨hj, hje⟩ := List.getElem?_eq_some_iff.mp hq
    have hpO : p ∈ Of K rows lt := by rw [← hje]; exact List.getElem_mem hj
    obtain ⟨hpS, hpn⟩ := h.pn hpO
    have hidx : ∀ x ∈ rowAt rows p, ((List.range (Of K rows lt).length).filter fun j => !decide ((x, (Of K rows lt).getD j 0) ∈ K)).head? = some (idK K (Of K rows lt) x) := fun x hx => by
      rw [row_eq h.wf hpn] at hx
      obtain ⟨k, hk, rfl⟩ := List.mem_map.mp hx
      exact (h.idx hpO (List.mem_range.mp hk)).2.2
    have hrl : (rowAt rows p).length = lt := (h.wf.row _ (h.wf.getrow hpn).1).1
    rw [List.take_succ_eq_append_getElem hj, List.map_append, hje]
    have hTl : (((Of K rows lt).take j).map fun p => (rowAt rows p).map (idK K (Of K rows lt))).length ≤ 1100 := by
      rw [List.length_map, List.length_take]; omega
    generalize ((Of K rows lt).take j).map (fun p => (rowAt rows p).map (idK K (Of K rows lt))) = T at hTl ⊢
    generalize Of K rows lt = L at hidx hlen ⊢
    have hr := row_of (c := [oD (mach lt rows fin), x1, x2, x3, kO K, x5, oD (ni p), oD (.lst (L.map ni)), x8, rO T, none, none]) h.wf (fin := fin) rfl (g := eV 6) rfl hpn
    have cm := compL_mapm ixE 3 [oD (mach lt rows fin), x1, x2, x3, kO K, x5, oD (ni p), oD (.lst (L.map ni)), x8, rO T, none, none] ni (fun x => ni (idK K L x)) (rowAt rows p) (fun x hx => by
      exact ixE_of (c := [oD (mach lt rows fin), x1, x2, oD (ni x), kO K, x5, oD (ni p), oD (.lst (L.map ni)), x8, rO T, none, none]) (K := K) (L := L) (x := x) rfl rfl rfl (Nat.lt_of_sub_pos (by simp)) (by omega) (hidx x hx))
    have hv : (eFn (fTuple true) (eCons (eLc (eIt true (eOp2 (opIx true) (eOp2 (opIx true) (eV 0) (eC (.int 1))) (eV 6))) tYes' ixE 3) eNil)) [oD (mach lt rows fin), x1, x2, x3, kO K, x5, oD (ni p), oD (.lst (L.map ni)), x8, rO T, none, none] = .ok (rowD ((rowAt rows p).map (idK K L))) := by
      rw [eFn_def, eCons_def, eLc_def, eLcs_def, hr, ok_bind, cm, ok_bind, List.length_map, if_pos (by omega), ok_bind, ok_bind, eNil_def, ok_bind, ok_bind, fTuple_lst, if_pos (okElT _), lift_some]
      unfold rowD
      rw [List.map_map]; rfl
    refine ⟨_, ?_, oD (ni p), rfl⟩
    show rIn [oD (mach lt rows fin), x1, x2, x3, kO K, x5, oD (ni p), oD (.lst (L.map ni)), x8, rO T, none, none] = _
    rw [show rIn = sApp 9 _ from rfl, sApp_def, hv]
    show (if (T.map fun r => O.v (rowD r)).length < 16777216 then _ else _) = _
    rw [List.length_map, if_pos (by omega)]
    unfold rO
    rw [List.map_append]; rfl) ⟨x6, rfl⟩
  rw [List.length_map, List.take_length] at main
  refine ⟨y6, .for ?_ main⟩
  show lift (asA true (.lst _)) = _
  rw [asA_lst, if_pos (okElT _)]; rfl
theorem least_spec (hw : Wf lt n rows) (hN : n * n ≤ 2000000) (fin : List Nat) : ∃ K, Kn lt n rows fin K ∧ MLleast [mach lt rows fin] = .ok (mach lt (lrows K rows lt) (lfin K rows lt fin)) := by
  obtain ⟨S1, S2, _⟩ := Sf_spec hw
  obtain ⟨K, hp, hKl, hK⟩ := parted_spec (fin := fin) hw hN (S := Sf rows lt) S1.pr S2
  have kn : Kn lt n rows fin K := ⟨hw, hK⟩
  refine ⟨K, kn, ?_⟩
  have hn2 := hw.n2
  have hSl := S1.len fun p hp => hp
  obtain ⟨a2, a3, h1⟩ := found_loop (fin := fin) hw
  obtain ⟨a6, h2⟩ := chosen_loop (K := K) (Sf rows lt) (by omega) (oD (mach lt rows fin)) a2 a3
  obtain ⟨b2, b3, b8, h3⟩ := order_loop kn (oD (.lst ((Sf rows lt).map ni))) a3 a6
  obtain ⟨b6, h4⟩ := rows_loop kn (oD (.lst ((Sf rows lt).map ni))) b2 b3 (lO (Cf K rows lt)) b8 a6
  obtain ⟨s, hs⟩ := kn.c0
  have hlen := kn.len.1
  unfold MLleast BLleast
  refine ret_of ?_
  show Ret _ [oD (mach lt rows fin), none, none, none, none, none, none, none, none, none, none, none] _
  refine .seq ((Nx.setO (d := .lst [.v (ni 0)]) rfl).to rfl) (.seq ((Nx.set (d := ni 0) rfl).to rfl) (.seq h1 (.seq (c' := [oD (mach lt rows fin), oD (.lst ((Sf rows lt).map ni)), a2, a3, kO K, none, none, none, none, none, none, none]) (.fz ?_) (.seq ((Nx.setO (d := .lst []) rfl).to rfl) (.seq h2 (.seq (c' := [oD (mach lt rows fin), oD (.lst ((Sf rows lt).map ni)), a2, a3, kO K, lO (Cf K rows lt), a6, lO [0], none, none, none, none]) ?_ (.seq ((Nx.set (d := ni 0) rfl).to rfl) (.seq h3 (.seq ((Nx.setO (d := .lst []) rfl).to rfl) (.seq (.fz (c' := [oD (mach lt rows fin), oD (.lst ((Sf rows lt).map ni)), b2, b3, kO K, lO (Cf K rows lt), b6, oD (.lst ((Of K rows lt).map ni)), b8, rO (lrows K rows lt), none, none]) ?_) (.ret ?_)))))))))))
  · refine (Nx.set (d := .ndk (K.map pD) (K.map fun _ => .bl true)) ?_).to ?_
    · show (eCall MLparted (eCons (eV 0) (eCons (eV 1) eNil))) [oD (mach lt rows fin), oD (O.lst ((Sf rows lt).map fun q => O.v (ni q))).toD, a2, a3, none, none, none, none, none, none, none, none] = _
      rw [lO_toD]
      show noX (MLparted [mach lt rows fin, .lst ((Sf rows lt).map ni)]) = _
      rw [hp]; rfl
    · show [oD (mach lt rows fin), oD (O.lst ((Sf rows lt).map fun q => O.v (ni q))).toD, a2, a3, kO K, none, none, none, none, none, none, none] = _
      rw [lO_toD]
  · refine (Nx.setO (d := .lst [.v (ni 0)]) ?_).to rfl
    have hg : (eIxo 5 (eC (.int 0))) [oD (mach lt rows fin), oD (.lst ((Sf rows lt).map ni)), a2, a3, kO K, lO (Cf K rows lt), a6, none, none, none, none, none] = .ok (ni 0) := eIxo_of (i := 5) (L := Cf K rows lt) (j := 0) rfl rfl (by rw [hs]; rfl)
    show (eFnO fLstO (eCons (eIxo 5 (eC (.int 0))) eNil)) [oD (mach lt rows fin), oD (.lst ((Sf rows lt).map ni)), a2, a3, kO K, lO (Cf K rows lt), a6, none, none, none, none, none] = _
    rw [eFnO_def, eCons_def, hg]; rfl
  · show Nx _ [oD (mach lt rows fin), oD (.lst ((Sf rows lt).map ni)), b2, b3, kO K, lO (Cf K rows lt), a6, oD (O.lst ((Of K rows lt).map fun q => O.v (ni q))).toD, b8, rO [], none, none] _
    rw [lO_toD]
    exact h4
  · have hr := rng_of (c := [oD (mach lt rows fin), oD (.lst ((Sf rows lt).map ni)), b2, b3, kO K, lO (Cf K rows lt), b6, oD (.lst ((Of K rows lt).map ni)), b8, rO (lrows K rows lt), none, none]) (L := Of K rows lt) rfl (by omega)
    have cm := compL_filterm (eB (eOp2 (opInS) (eIxo 7 (eV 11)) (eOp2 (opIx true) (eV 0) (eC (.int 2))))) (eV 11) 11 [oD (mach lt rows fin), oD (.lst ((Sf rows lt).map ni)), b2, b3, kO K, lO (Cf K rows lt), b6, oD (.lst ((Of K rows lt).map ni)), b8, rO (lrows K rows lt), none, none] ni (fun j => decide ((Of K rows lt).getD j 0 ∈ fin)) ni (List.range (Of K rows lt).length) (by
      intro j hj
      show (eB _) [oD (mach lt rows fin), oD (.lst ((Sf rows lt).map ni)), b2, b3, kO K, lO (Cf K rows lt), b6, oD (.lst ((Of K rows lt).map ni)), b8, rO (lrows K rows lt), none, oD (ni j)] = _
      have hn := nth_of (c := [oD (mach lt rows fin), oD (.lst ((Sf rows lt).map ni)), b2, b3, kO K, lO (Cf K rows lt), b6, oD (.lst ((Of K rows lt).map ni)), b8, rO (lrows K rows lt), none, oD (ni j)]) (L := Of K rows lt) (j := j) rfl rfl (List.mem_range.mp hj)
      have hn : (eIxo 7 (eV 11)) [oD (mach lt rows fin), oD (.lst ((Sf rows lt).map ni)), b2, b3, kO K, lO (Cf K rows lt), b6, oD (.lst ((Of K rows lt).map ni)), b8, rO (lrows K rows lt), none, oD (ni j)] = _ := hn
      have he := in_fin ((Of K rows lt).getD j 0) fin
      rw [eB_def, eOp2_def, hn, ok_bind, eOp2_def, eV_def, eC_def]
      show (lift (opInS _ (.tup (fin.map ni))) >>= fun d => lift (asB d)) = _
      rw [he]; rfl) (by intro j _ _; rfl)
    have hl9 : (eL 9) [oD (mach lt rows fin), oD (.lst ((Sf rows lt).map ni)), b2, b3, kO K, lO (Cf K rows lt), b6, oD (.lst ((Of K rows lt).map ni)), b8, rO (lrows K rows lt), none, none] = .ok (.lst ((lrows K rows lt).map rowD)) := by
      show R.ok (O.lst ((lrows K rows lt).map fun r => O.v (rowD r))).toD = _
      rw [toD_lst, List.map_map, show (O.toD ∘ fun r => O.v (rowD r)) = rowD from compToD rowD]
    have hfl : ((List.range (Of K rows lt).length).filter fun j => decide ((Of K rows lt).getD j 0 ∈ fin)).length ≤ 16777216 := by
      have := List.length_filter_le (fun j => decide ((Of K rows lt).getD j 0 ∈ fin)) (List.range (Of K rows lt).length)
      rw [List.length_range] at this; omega
    have hfz : D.flats ((lrows K rows lt).map rowD) = true := flats_rows id (lrows K rows lt)
    rw [eFn_def, eCons_def, eOp2_def, eV_def, eC_def]
    show (lift (opIx true (mach lt rows fin) (.int 0)) >>= _) >>= _ = _
    rw [ix0, lift_some, ok_bind, eCons_def, eFn_def, eCons_def, hl9, ok_bind, eNil_def, ok_bind, ok_bind, fTuple_lst, if_pos (by rw [okEl_f, hfz]), lift_some, ok_bind, eCons_def, eFn_def, eCons_def, eLc_def, eLcs_def, hr, ok_bind, cm, ok_bind, List.length_map, if_pos hfl, ok_bind, ok_bind, eNil_def, ok_bind, ok_bind, fTuple_lst, if_pos (okElT _), lift_some]
    rfl
end
end GW

namespace GW
open PySem PySem.Spec PyProof.Rows L2 VS
abbrev Fd := List (Option (List Nat))
abbrev oF (F : Fd) : Option O := some (.lst (F.map fun o => .v (enc o)))
abbrev oN (q : List Nat) : Option O := some (.lst (q.map fun x => .v (ni x)))
theorem F_at {F : Fd} {p : Nat} {o : Option (List Nat)} (h : F[p]? = some o) : ixO (.lst (F.map fun o => O.v (enc o))) (ni p) = some (enc o) := by
  show ixO (.lst _) (.int _) = _
  rw [ixO_lst, atI_ofNat, List.getElem?_map, h]; rfl
theorem N_at {q : List Nat} {p x : Nat} (h : q[p]? = some x) : ixO (.lst (q.map fun x => O.v (ni x))) (ni p) = some (ni x) := by
  show ixO (.lst _) (.int _) = _
  rw [ixO_lst, atI_ofNat, List.getElem?_map, h]; rfl
structure Iv (rows : List (List Nat)) (lt n s : Nat) (F : Fd) (q : List Nat) : Prop where
  len : F.length = n
  nd : q.Nodup
  mem : ∀ p, p ∈ q ↔ ∃ w, F[p]? = some (some w)
  wd : ∀ p w, F[p]? = some (some w) → Wd' lt w ∧ run rows s w = p ∧ w.length + 1 ≤ q.length
section
variable {lt n s : Nat} {rows : List (List Nat)} {fin : List Nat}
theorem Iv.ltn {F : Fd} {q : List Nat} (I : Iv rows lt n s F q) {p : Nat} (h : p ∈ q) : p < n := by
  obtain ⟨w, hw⟩ := (I.mem p).mp h
  have := (List.getElem?_eq_some_iff.mp hw).1
  rw [I.len] at this
  exact this
theorem Iv.qn {F : Fd} {q : List Nat} (I : Iv rows lt n s F q) : q.length ≤ n := nd_len n I.nd fun p hp => I.ltn hp
theorem Iv.push {F : Fd} {q : List Nat} (I : Iv rows lt n s F q) {p k : Nat} {w : List Nat} (hw : F[p]? = some (some w)) (hk : k < lt) (ht : stp rows p (97 + k) < n) (h0 : F[stp rows p (97 + k)]? = some none) :
    Iv rows lt n s (F.set (stp rows p (97 + k)) (some (w ++ [97 + k]))) (q ++ [stp rows p (97 + k)]) := by
  obtain ⟨w1, w2, w3⟩ := I.wd p w hw
  generalize ht' : stp rows p (97 + k) = t at *
  have hnq : t ∉ q := fun h => by
    obtain ⟨v, hv⟩ := (I.mem t).mp h
    rw [h0] at hv; cases hv
  have hl : t < F.length := by rw [I.len]; exact ht
  have gs : (F.set t (some (w ++ [97 + k])))[t]? = some (some (w ++ [97 + k])) := List.getElem?_set_self hl
  have gn : ∀ p, p ≠ t → (F.set t (some (w ++ [97 + k])))[p]? = F[p]? := fun p hp => List.getElem?_set_ne (Ne.symm hp)
  refine ⟨by rw [List.length_set]; exact I.len, ?_, fun p' => ?_, fun p' v hv => ?_⟩
  · rw [List.nodup_append]
    exact ⟨I.nd, by simp, fun a ha b hb e => hnq (by rw [← List.mem_singleton.mp hb, ← e]; exact ha)⟩
  · rw [List.mem_append, List.mem_singleton]
    by_cases e : p' = t
    · subst e
      exact ⟨fun _ => ⟨_, gs⟩, fun _ => .inr rfl⟩
    · rw [gn p' e, ← I.mem p']
      exact ⟨fun h => h.elim id fun z => absurd z e, .inl⟩
  · by_cases e : p' = t
    · rw [e, gs] at hv
      cases hv
      refine ⟨fun c hc => ?_, by rw [run_app, w2, ht', e], by rw [List.length_append, List.length_append]; simp; omega⟩
      rcases List.mem_append.mp hc with z | z
      · exact w1 c z
      · rw [List.mem_singleton.mp z]; omega
    · rw [gn p' e] at hv
      obtain ⟨a, b, c⟩ := I.wd p' v hv
      exact ⟨a, b, by rw [List.length_append]; omega⟩
abbrev bodyP : VS.Env → Rs := (sSeq (sSet 7 (eOp2 (opIx true) (eOp2 (opIx true) (eOp2 (opIx true) (eV 0) (eC (.int 1))) (eV 5)) (eV 6)))
    (sIf (eB (eOp2 (opIs) (eIxo 2 (eV 7)) (eC .non)))
    (sSeq (sIxSet 2 (eV 7) (eOp2 (opAdd true true) (eIxo 2 (eV 5)) (eOp2 (opIx true) (eC (.str [97, 98, 99])) (eV 6))))
    (sApp 3 (eV 7)))
    sNil))
theorem turnP (hw : Wf lt n rows) {F : Fd} {q : List Nat} (I : Iv rows lt n s F q) {p k : Nat} (hp : p ∈ q) (hk : k < lt) (x1 x4 x7 : Option O) :
    ∃ F' r, Iv rows lt n s F' (q ++ r) ∧ stp rows p (97 + k) ∈ q ++ r ∧ ∃ y7, Nx bodyP [oD (mach lt rows fin), x1, oF F, oN q, x4, oD (ni p), oD (ni k), x7] [oD (mach lt rows fin), x1, oF F', oN (q ++ r), x4, oD (ni p), oD (ni k), y7] := by
  have hpn := I.ltn hp
  obtain ⟨w, hwF⟩ := (I.mem p).mp hp
  obtain ⟨w1, w2, w3⟩ := I.wd p w hwF
  have i3 := ix3 hw hpn hk
  have i2 := ix2 hw hpn
  have hqn := I.qn
  have n2 := hw.n2
  have l2 := hw.l2
  have ab := abc_at (k := k) (by omega)
  have hset : Nx (sSet 7 (eOp2 (opIx true) (eOp2 (opIx true) (eOp2 (opIx true) (eV 0) (eC (.int 1))) (eV 5)) (eV 6))) [oD (mach lt rows fin), x1, oF F, oN q, x4, oD (ni p), oD (ni k), x7] [oD (mach lt rows fin), x1, oF F, oN q, x4, oD (ni p), oD (ni k), oD (ni (stp rows p (97 + k)))] := by
    refine .set (d := ni (stp rows p (97 + k))) ?_
    simp -implicitDefEqProofs only [eOp2_def, eV_def, eC_def, List.getElem?_cons_zero, List.getElem?_cons_succ, ok_bind, ix1, lift_some, i2, i3.1]
  have htF : stp rows p (97 + k) < F.length := by rw [I.len]; exact i3.2
  have ht : ∀ o, F[stp rows p (97 + k)]? = some o → (eB (eOp2 (opIs) (eIxo 2 (eV 7)) (eC .non))) [oD (mach lt rows fin), x1, oF F, oN q, x4, oD (ni p), oD (ni k), oD (ni (stp rows p (97 + k)))] = .ok (enc o).isNon := by
    intro o ho
    have := F_at ho
    simp -implicitDefEqProofs only [eB_def, eOp2_def, eIxo_def, eV_def, eC_def, List.getElem?_cons_zero, List.getElem?_cons_succ, ok_bind, this, lift_some, opIs_non, asB_bl]
  cases e : F[stp rows p (97 + k)]? with
  | none => rw [List.getElem?_eq_getElem htF] at e; cases e
  | some o =>
    cases o with
    | some u =>
      refine ⟨F, [], by rw [List.append_nil]; exact I, by rw [List.append_nil]; exact (I.mem _).mpr ⟨u, e⟩, oD (ni (stp rows p (97 + k))), .seq hset (.no (ht _ e) ?_)⟩
      rw [List.append_nil]
      exact .nil
    | none =>
      refine ⟨_, [stp rows p (97 + k)], I.push hwF hk i3.2 e, by simp, oD (ni (stp rows p (97 + k))), .seq hset (.yes (ht _ e) (.seq (c' := [oD (mach lt rows fin), x1, oF (F.set (stp rows p (97 + k)) (some (w ++ [97 + k]))), oN q, x4, oD (ni p), oD (ni k), oD (ni (stp rows p (97 + k)))]) ?_ ?_))⟩
      · unfold Nx
        have ev : (eOp2 (opAdd true true) (eIxo 2 (eV 5)) (eOp2 (opIx true) (eC (.str [97, 98, 99])) (eV 6))) [oD (mach lt rows fin), x1, oF F, oN q, x4, oD (ni p), oD (ni k), oD (ni (stp rows p (97 + k)))] = .ok (.str (w ++ [97 + k])) := by
          have this : ixO (.lst (F.map fun o => O.v (enc o))) (ni p) = some (.str w) := F_at hwF
          simp -implicitDefEqProofs only [eOp2_def, eIxo_def, eV_def, eC_def, List.getElem?_cons_zero, List.getElem?_cons_succ, ok_bind, this, lift_some, ab]
          rw [opAdd_str, if_pos (by rw [List.length_singleton]; omega)]; rfl
        rw [sIxSet_def, ev]
        have hixn : ixN (F.map fun o => O.v (enc o)).length ((stp rows p (97 + k) : Nat) : Int) = some (stp rows p (97 + k)) := by
          rw [List.length_map, ixN_pos (by omega) (by omega)]; rfl
        show (lift (ixN (F.map fun o => O.v (enc o)).length ((stp rows p (97 + k) : Nat) : Int))).st _ _ = _
        rw [hixn]
        show Rs.ok .nx [_, _, some (.lst ((F.map fun o => O.v (enc o)).set _ _)), _, _, _, _, _] = _
        unfold oF
        rw [List.map_set]; rfl
      · unfold Nx
        rw [sApp_def]
        show (if (q.map fun x => O.v (ni x)).length < 16777216 then _ else _) = _
        rw [List.length_map, if_pos (by omega)]
        show Rs.ok .nx [_, _, _, some (.lst (_ ++ [_])), _, _, _, _] = _
        unfold oN
        rw [List.map_append]; rfl
abbrev bodyU : VS.Env → Rs := sSeq (sSet 5 (eIxo 3 (eV 4))) (sSeq (sFor 6 (eItR (eC (.int 0)) (eOp2 (opIx true) (eV 0) (eC (.int 0)))) bodyP) (sSet 4 (eOp2 (opAdd true true) (eV 4) (eC (.int 1)))))
theorem turnU (hw : Wf lt n rows) {F : Fd} {q : List Nat} (I : Iv rows lt n s F q) {a p : Nat} (ha : q[a]? = some p) (hcl : ∀ p ∈ q.take a, ∀ k < lt, stp rows p (97 + k) ∈ q) (x1 x5 x6 x7 : Option O) :
    ∃ F' r, Iv rows lt n s F' (q ++ r) ∧ (∀ p ∈ (q ++ r).take (a + 1), ∀ k < lt, stp rows p (97 + k) ∈ q ++ r) ∧ ∃ y5 y6 y7, Nx bodyU [oD (mach lt rows fin), x1, oF F, oN q, oD (ni a), x5, x6, x7] [oD (mach lt rows fin), x1, oF F', oN (q ++ r), oD (ni (a + 1)), y5, y6, y7] := by
  obtain ⟨hal, hap⟩ := List.getElem?_eq_some_iff.mp ha
  have hp : p ∈ q := by rw [← hap]; exact List.getElem_mem hal
  have l2 := hw.l2
  obtain ⟨c', main, F', r, y6, y7, rfl, I', hk⟩ := forL_rg 6 bodyP (lt : Int) (fun j c => ∃ (F' : Fd) (r : List Nat) (y6 y7 : Option O), c = [oD (mach lt rows fin), x1, oF F', oN (q ++ r), oD (ni a), oD (ni p), y6, y7] ∧ Iv rows lt n s F' (q ++ r) ∧ ∀ k < j, stp rows p (97 + k) ∈ q ++ r)
    [oD (mach lt rows fin), x1, oF F, oN q, oD (ni a), oD (ni p), x6, x7] (by
      rintro j c hj ⟨F', r, y6, y7, rfl, I', hk⟩
      obtain ⟨F2, r2, I2, m2, z7, hN⟩ := turnP (fin := fin) hw I' (p := p) (k := j) (List.mem_append_left _ hp) (by omega) x1 (oD (ni a)) y7
      rw [List.append_assoc] at I2 m2 hN
      refine ⟨_, hN, F2, r ++ r2, oD (ni j), z7, rfl, I2, fun k hkj => ?_⟩
      by_cases e : k = j
      · rw [e]; exact m2
      · rw [← List.append_assoc]
        exact List.mem_append_left _ (hk k (by omega))) ⟨F, [], x6, x7, by rw [List.append_nil], by rw [List.append_nil]; exact I, fun k hk => absurd hk (Nat.not_lt_zero k)⟩
  rw [Int.toNat_natCast] at hk
  refine ⟨F', r, I', fun p' hp' k hkl => ?_, oD (ni p), y6, y7, .seq (.set (d := ni p) ?_) (.seq (.for (ds := rangeD 0 (lt : Int)) ?_ main) ((Nx.set (d := ni (a + 1)) ?_).to rfl))⟩
  · rw [List.take_append_of_le_length (by omega), List.take_succ_eq_append_getElem hal] at hp'
    rcases List.mem_append.mp hp' with z | z
    · exact List.mem_append_left _ (hcl p' z k hkl)
    · rw [List.mem_singleton.mp z, hap]; exact hk k hkl
  · have := N_at ha
    simp -implicitDefEqProofs only [eIxo_def, eV_def, List.getElem?_cons_zero, List.getElem?_cons_succ, ok_bind, this, lift_some]
  · show (eItR _ _) [oD (mach lt rows fin), x1, oF F, oN q, oD (ni a), oD (ni p), x6, x7] = _
    simp -implicitDefEqProofs only [eItR_def, eOp2_def, eV_def, eC_def, List.getElem?_cons_zero, List.getElem?_cons_succ, ok_bind, ix0, lift_some, asI_zero, asI_small (i := (lt : Int)) (by omega) (by omega)]
  · show (eOp2 _ _ _) [oD (mach lt rows fin), x1, oF F', oN (q ++ r), oD (ni a), oD (ni p), y6, y7] = _
    simp -implicitDefEqProofs only [eOp2_def, eV_def, eC_def, List.getElem?_cons_zero, List.getElem?_cons_succ, ok_bind]
    rw [show opAdd true true (ni a) (.int 1) = _ from add_nat a 1]; rfl
/-- what a search tells -/
structure Acc (rows : List (List Nat)) (lt n s : Nat) (F : Fd) : Prop where
  len : F.length = n
  yes : ∀ p w, F[p]? = some (some w) → Wd' lt w ∧ run rows s w = p ∧ w.length ≤ n
  no : ∀ p, F[p]? = some none → ∀ w, Wd' lt w → run rows s w ≠ p
theorem access_spec (hw : Wf lt n rows) (hs : s < n) : ∃ F, Maccess_from [mach lt rows fin, ni s] = .ok (.lst (F.map enc)) ∧ Acc rows lt n s F := by
  have n2 := hw.n2
  have I0 : Iv rows lt n s ((List.replicate n none).set s (some [])) [s] := by
    have g : ∀ p, p ≠ s → ((List.replicate n (none : Option (List Nat))).set s (some []))[p]? = (List.replicate n none)[p]? := fun p hp => List.getElem?_set_ne (Ne.symm hp)
    have gs : ((List.replicate n (none : Option (List Nat))).set s (some []))[s]? = some (some []) := List.getElem?_set_self (by rw [List.length_replicate]; exact hs)
    refine ⟨by simp, by simp, fun p => ?_, fun p w h => ?_⟩
    · rw [List.mem_singleton]
      constructor
      · rintro rfl; exact ⟨_, gs⟩
      · rintro ⟨w, hwp⟩
        refine Classical.byContradiction fun e => ?_
        rw [g p e, List.getElem?_replicate] at hwp
        split at hwp <;> cases hwp
    · by_cases e : p = s
      · rw [e, gs] at h
        cases h
        exact ⟨(fun c hc => nomatch hc), e.symm, Nat.le_refl 1⟩
      · rw [g p e, List.getElem?_replicate] at h
        split at h <;> cases h
  obtain ⟨c', e, F, q, x4, x5, x6, x7, rfl, I, hcl, hsq⟩ := whileL_ex (eB (eOp2 (opRel fun i j => decide (i < j)) (eV 4) (eFn (fLen) (eCons (eL 3) eNil)))) bodyU
    (fun m c => ∃ F q a x5 x6 x7, c = [oD (mach lt rows fin), oD (ni s), oF F, oN q, oD (ni a), x5, x6, x7] ∧ Iv rows lt n s F q ∧ a ≤ q.length ∧ m = n - a ∧ s ∈ q ∧ ∀ p ∈ q.take a, ∀ k < lt, stp rows p (97 + k) ∈ q)
    (fun c => ∃ F q x4 x5 x6 x7, c = [oD (mach lt rows fin), oD (ni s), oF F, oN q, x4, x5, x6, x7] ∧ Iv rows lt n s F q ∧ (∀ p ∈ q, ∀ k < lt, stp rows p (97 + k) ∈ q) ∧ s ∈ q)
    (by
      rintro m c ⟨F, q, a, x5, x6, x7, rfl, I, ha, hm, hsq, hcl⟩
      have ht : (eB (eOp2 (opRel fun i j => decide (i < j)) (eV 4) (eFn (fLen) (eCons (eL 3) eNil)))) [oD (mach lt rows fin), oD (ni s), oF F, oN q, oD (ni a), x5, x6, x7] = .ok (decide (a < q.length)) := by
        simp -implicitDefEqProofs only [eB_def, eOp2_def, eFn_def, eCons_def, eNil_def, eV_def, eL_def, List.getElem?_cons_zero, List.getElem?_cons_succ, ok_bind, toD_lst, fLen_lst, List.length_map, lift_some, opRel_int, asB_bl]
        congr 1
        rw [Bool.eq_iff_iff, decide_eq_true_iff, decide_eq_true_iff]
        omega
      by_cases h : a < q.length
      · have hqn := I.qn
        obtain ⟨F', r, I', hcl', y5, y6, y7, hN⟩ := turnU (fin := fin) hw I (List.getElem?_eq_getElem h) hcl (oD (ni s)) x5 x6 x7
        refine .inr ⟨ht.trans (by rw [decide_eq_true h]), n - (a + 1), _, by omega, hN, F', q ++ r, a + 1, y5, y6, y7, rfl, I', by rw [List.length_append]; omega, rfl, List.mem_append_left _ hsq, hcl'⟩
      · refine .inl ⟨ht.trans (by rw [decide_eq_false h]), F, q, _, _, _, _, rfl, I, ?_, hsq⟩
        rw [List.take_of_length_le (by omega)] at hcl
        exact hcl)
    wN n [oD (mach lt rows fin), oD (ni s), oF ((List.replicate n none).set s (some [])), oN [s], oD (ni 0), none, none, none] (by unfold wN; omega)
    ⟨_, [s], 0, none, none, none, rfl, I0, Nat.zero_le _, rfl, by simp, by simp⟩
  refine ⟨F, ?_, ⟨I.len, fun p w h => ?_, fun p h w hwd hr => ?_⟩⟩
  · have ecm : compL tYes' (eC .non) 5 [oD (mach lt rows fin), oD (ni s), none, none, none, none, none, none] (rows.map rowD) = .ok (rows.map fun _ => .non) := compL_mapm _ 5 _ _ _ rows (fun x hx => by simp -implicitDefEqProofs)
    have hr : rows.length ≤ 16777216 := by rw [hw.len]; omega
    unfold Maccess_from Baccess_from
    refine ret_of ?_
    show Ret _ [oD (mach lt rows fin), oD (ni s), none, none, none, none, none, none] _
    refine (.seq (.setO (d := .lst ((List.replicate n none : Fd).map fun o => .v (enc o))) ?_) (.seq (c' := [oD (mach lt rows fin), oD (ni s), oF ((List.replicate n none).set s (some [])), none, none, none, none, none]) ?_ (.seq (.setO (d := .lst [.v (ni s)]) rfl) (.seq (.set (d := ni 0) rfl) (.seq e (.fz (.ret ?_)))))))
    · rw [eLcO_def, eLcs_def]
      have es : (eIt true (eOp2 (opIx true) (eV 0) (eC (.int 1)))) [oD (mach lt rows fin), oD (ni s), none, none, none, none, none, none] = .ok (rows.map rowD) := by
        simp -implicitDefEqProofs only [eIt_def, eOp2_def, eV_def, eC_def, List.getElem?_cons_zero, ok_bind, ix1, lift_some]
        rw [asA_tup, if_pos (okElT _)]; rfl
      rw [es, ok_bind, ecm, ok_bind, List.length_map, if_pos hr, ok_bind, List.map_map]
      have hrep : (rows.map fun _ => O.v D.non) = List.replicate n (O.v D.non) := by rw [List.map_const', hw.len]
      show R.ok (O.lst (rows.map fun _ => O.v D.non)) = _
      rw [hrep, List.map_replicate]; rfl
    · unfold Nx
      rw [sIxSet_def]
      have hixn : ixN ((List.replicate n none : Fd).map fun o => O.v (enc o)).length ((s : Nat) : Int) = some s := by
        rw [List.length_map, List.length_replicate, ixN_pos (by omega) (by omega)]; rfl
      show (lift (ixN ((List.replicate n none : Fd).map fun o => O.v (enc o)).length ((s : Nat) : Int))).st _ _ = _
      rw [hixn]
      show Rs.ok .nx [_, _, some (.lst (((List.replicate n none : Fd).map fun o => O.v (enc o)).set _ _)), _, _, _, _, _] = _
      unfold oF
      rw [List.map_set]; rfl
    · show (eV 2) [oD (mach lt rows fin), oD (ni s), oD (O.lst (F.map fun o => O.v (enc o))).toD, oN q, x4, x5, x6, x7] = _
      rw [toD_lst, List.map_map, show (O.toD ∘ fun o => O.v (enc o)) = enc from compToD enc]; rfl
  · obtain ⟨a, b, c⟩ := I.wd p w h
    have := I.qn
    exact ⟨a, b, by omega⟩
  · have key : ∀ (w : List Nat) (p : Nat), p ∈ q → Wd' lt w → run rows p w ∈ q := by
      intro w
      induction w with
      | nil => exact fun p hp _ => hp
      | cons c w ih =>
        intro p hp hwd
        obtain ⟨h1, h2⟩ := hwd c List.mem_cons_self
        have := hcl p hp (c - 97) (by omega)
        rw [Nat.add_sub_cancel' h1] at this
        exact ih _ this fun d hd => hwd d (List.mem_cons_of_mem _ hd)
    have hin := key w s hsq hwd
    rw [hr] at hin
    obtain ⟨v, hv⟩ := (I.mem p).mp hin
    rw [h] at hv; cases hv
end
end GW

namespace VS
open PySem PySem.Spec PyProof.Rows L2
@[simp] theorem eItK_def (g : Env → R D) (c : Env) : eItK g c = g c >>= fun d => match d with | .dlk ks _ => .ok ks | _ => .stuck := (rfl)
theorem sDSet_def (i : Nat) (gi g : Env → R D) (c : Env) : sDSet i gi g c = (g c).st c fun d => (lift (atD i c)).st c fun q => (gi c).st c fun k => (lift (D.key k)).st c fun kk => (lift (dPut q.1 q.2 k kk d)).st c fun o => .ok .nx (c.set i (some o)) := (rfl)
theorem sFzK_def (i : Nat) (g : Env → Rs) (c : Env) : sFzK i g c = match fzK i c with | some c' => g c' | none => .stuck := (rfl)
theorem eDIx_def (i : Nat) (gk : Env → R D) (c : Env) : eDIx i gk c = match atDk i c with
  | some q => gk c >>= fun k => lift (D.key k) >>= fun kk => lift ((dGet q.1 q.2 kk).bind fun o => match o with | .v d => some d | _ => none)
  | none => .stuck := (rfl)
theorem eDGt_def (i : Nat) (gk ge : Env → R D) (c : Env) : eDGt i gk ge c = match atDk i c with
  | some q => gk c >>= fun k => lift (D.key k) >>= fun kk => ge c >>= fun d => lift (match dGet q.1 q.2 kk with | some (.v e) => some e | some _ => none | none => some d)
  | none => .stuck := (rfl)
theorem eDcO_def (gs : Env → R (List D)) (t : Env → R Bool) (gk gv : Env → R D) (i : Nat) (c : Env) : eDcO gs t gk gv i c = gs c >>= fun ds => compD t gk gv i c ds ([], []) >>= fun a => .ok (.dic a.1 a.2) := (rfl)
theorem eLk_def (g : Env → R O) (c : Env) : eLk g c = g c >>= fun o => lift (lkO o) := (rfl)
theorem eD1x_def (gk gv : Env → R D) (c : Env) : eD1x gk gv c = gk c >>= fun k => gv c >>= fun d => lift (D.key k) >>= fun _ => .ok (.dic [k] [.v d]) := (rfl)
theorem eVals_def (ga : Env → R D) (c : Env) : eVals ga c = ga c >>= fun d => lift (dkv d) >>= fun q => .ok (.lst q.2) := (rfl)
theorem eLenSet_def (ga : Env → R D) (c : Env) : eLenSet ga c = ga c >>= fun d => match d with
  | .lst ds => lift (asInts ds) >>= fun ns => if ns.length ≤ 4000 then .ok (D.int (dct ns : Nat)) else .stuck
  | _ => .stuck := (rfl)
theorem eDIn_def (neg : Bool) (i : Nat) (gk : Env → R D) (c : Env) : eDIn neg i gk c = match atDk i c with
  | some q => gk c >>= fun k => lift (D.key k) >>= fun kk => .ok (.bl (cond neg (!hasK q.1 kk) (hasK q.1 kk)))
  | none => .stuck := (rfl)
end VS
namespace GW
open PySem PySem.Spec PyProof.Rows L2 VS
/-! ### the dicts of the next places -/
abbrev AL := List (Nat × Nat)
def put (l : AL) (c v : Nat) : AL := if l.any (fun p => p.1 == c) then l.map (fun p => if p.1 = c then (p.1, v) else p) else l ++ [(c, v)]
def lk : AL → Nat → Option Nat
  | [], _ => none
  | p :: l, c => if p.1 = c then some p.2 else lk l c
def kyD (l : AL) : List D := l.map fun p => ni p.1
def vlD (l : AL) : List D := l.map fun p => ni p.2
def vlO (l : AL) : List O := l.map fun p => .v (ni p.2)
def dkD (l : AL) : D := .dlk (kyD l) (vlD l)
theorem vlO_eq (l : AL) : (vlD l).map O.v = vlO l := by unfold vlD vlO; rw [List.map_map]; rfl
theorem put_keys (l : AL) (c v : Nat) : (put l c v).map (·.1) = if l.any (fun p => p.1 == c) then l.map (·.1) else l.map (·.1) ++ [c] := by
  unfold put
  split
  · rw [List.map_map]
    apply List.map_congr_left
    intro p _
    simp only [Function.comp_def]
    split <;> rfl
  · rw [List.map_append]; rfl
theorem any_key (l : AL) (c : Nat) : l.any (fun p => p.1 == c) = (l.map (·.1)).contains c := by
  induction l with
  | nil => rfl
  | cons p l ih =>
    rw [List.any_cons, List.map_cons, List.contains_cons, ih]
    congr 1
    exact Bool.beq_comm
theorem put_nodup {l : AL} (h : (l.map (·.1)).Nodup) (c v : Nat) : ((put l c v).map (·.1)).Nodup := by
  rw [put_keys, any_key]
  by_cases hc : (l.map (·.1)).contains c = true
  · rw [if_pos hc]; exact h
  · rw [if_neg hc]
    refine List.nodup_append.mpr ⟨h, by simp, fun a ha b hb e => ?_⟩
    rw [List.mem_singleton.mp hb] at e
    subst e
    exact hc (by simpa using ha)
theorem lk_none : ∀ {l : AL} {c : Nat}, c ∉ l.map (·.1) → lk l c = none
  | [], c, h => rfl
  | p :: l, c, h => by
    rw [lk, if_neg (fun e => h (by rw [← e]; exact List.mem_cons_self))]
    exact lk_none fun z => h (List.mem_cons_of_mem _ z)
theorem lk_app (c v d : Nat) : ∀ l : AL, c ∉ l.map (·.1) → lk (l ++ [(c, v)]) d = if c = d then some v else lk l d
  | [], _ => rfl
  | p :: l, h => by
    have h1 : ¬ p.1 = c := fun e => h (by rw [← e]; exact List.mem_cons_self)
    rw [List.cons_append, lk, lk, lk_app c v d l fun z => h (List.mem_cons_of_mem _ z)]
    by_cases e : p.1 = d
    · rw [if_pos e, if_pos e, if_neg (fun z => h1 (by rw [e, z]))]
    · rw [if_neg e, if_neg e]
theorem lk_map (c v d : Nat) : ∀ l : AL, c ∈ l.map (·.1) → lk (l.map fun p => if p.1 = c then (p.1, v) else p) d = if c = d then some v else lk l d
  | [], h => nomatch h
  | p :: l, h => by
    rw [List.map_cons, lk, lk]
    by_cases e : p.1 = c
    · rw [if_pos e]
      show (if p.1 = d then some v else _) = _
      by_cases e2 : c = d
      · rw [if_pos (e.trans e2), if_pos e2]
      · rw [if_neg (fun z => e2 (by rw [← e, z])), if_neg e2, if_neg (fun z => e2 (by rw [← e, z]))]
        by_cases hm : c ∈ l.map (·.1)
        · rw [lk_map c v d l hm, if_neg e2]
        · have : (l.map fun p => if p.1 = c then (p.1, v) else p) = l := by
            conv => rhs; rw [← List.map_id l]
            apply List.map_congr_left
            intro q hq
            rw [if_neg (fun z => hm (List.mem_map.mpr ⟨q, hq, z⟩))]; rfl
          rw [this]
    · rw [if_neg e]
      rcases List.mem_cons.mp h with z | z
      · exact absurd z.symm e
      · rw [lk_map c v d l z]
        by_cases e2 : c = d
        · rw [if_pos e2, if_pos e2, if_neg (fun y => e (by rw [y, e2]))]
        · rw [if_neg e2, if_neg e2]
theorem lk_put (l : AL) (c v d : Nat) : lk (put l c v) d = if c = d then some v else lk l d := by
  unfold put
  rw [any_key]
  by_cases h : (l.map (·.1)).contains c = true
  · rw [if_pos h]; exact lk_map c v d l (by simpa using h)
  · rw [if_neg h]; exact lk_app c v d l (by simpa using h)
theorem lk_mem : ∀ {l : AL} {p : Nat × Nat}, (l.map (·.1)).Nodup → p ∈ l → lk l p.1 = some p.2
  | [], p, _, h => nomatch h
  | q :: l, p, n, h => by
    rw [lk]
    rcases List.mem_cons.mp h with z | z
    · rw [z, if_pos rfl]
    · have hn := List.nodup_cons.mp (show (q.1 :: l.map (·.1)).Nodup from n)
      rw [if_neg (fun e => hn.1 (by rw [e]; exact List.mem_map.mpr ⟨p, z, rfl⟩))]
      exact lk_mem hn.2 z
/-! .. as the program has them -/
theorem key_c (c : Nat) : D.key (ni c) = some (.inl (c : Int)) := rfl
theorem key_inj {a c : Nat} : (some (Sum.inl (a : Int)) : Option Key) = some (.inl (c : Int)) ↔ a = c := by
  constructor
  · intro h
    have h := Sum.inl.inj (Option.some.inj h)
    omega
  · rintro rfl; rfl
theorem hasK_al (l : AL) (c : Nat) : hasK (kyD l) (.inl (c : Int)) = l.any fun p => p.1 == c := by
  unfold hasK kyD
  rw [List.any_map]
  congr 1
  funext p
  show decide (D.key (ni p.1) = _) = _
  rw [key_c]
  by_cases e : p.1 = c
  · rw [decide_eq_true (key_inj.mpr e)]; simp [e]
  · rw [decide_eq_false (fun z => e (key_inj.mp z))]; simp [e]
theorem rep_al (c v : Nat) : ∀ l : AL, VS.rep (kyD l) (vlO l) (.inl (c : Int)) (ni v) = vlO (l.map fun p => if p.1 = c then (p.1, v) else p)
  | [] => rfl
  | p :: l => by
    show (if D.key (ni p.1) = _ then O.v (ni v) else .v (ni p.2)) :: VS.rep (kyD l) (vlO l) (.inl (c : Int)) (ni v) = _
    rw [rep_al c v l, key_c]
    by_cases e : p.1 = c
    · rw [if_pos (key_inj.mpr e), List.map_cons, if_pos e]; rfl
    · rw [if_neg (fun z => e (key_inj.mp z)), List.map_cons, if_neg e]; rfl
theorem dGet_al (c : Nat) : ∀ l : AL, dGet (kyD l) (vlO l) (.inl (c : Int)) = (lk l c).map fun v => .v (ni v)
  | [] => rfl
  | p :: l => by
    show (if D.key (ni p.1) = _ then some (O.v (ni p.2)) else dGet (kyD l) (vlO l) (.inl (c : Int))) = _
    rw [dGet_al c l, key_c, lk]
    by_cases e : p.1 = c
    · rw [if_pos (key_inj.mpr e), if_pos e]; rfl
    · rw [if_neg (fun z => e (key_inj.mp z)), if_neg e]
theorem dPut_al {l : AL} (h : l.length ≤ 4000) (c v : Nat) : dPut (kyD l) (vlO l) (ni c) (.inl (c : Int)) (ni v) = some (.dic (kyD (put l c v)) (vlO (put l c v))) := by
  unfold dPut
  rw [if_pos (by unfold kyD; rw [List.length_map]; omega), hasK_al]
  unfold put
  by_cases e : (l.any fun p => p.1 == c) = true
  · rw [if_pos e, if_pos e, rep_al]
    congr 2
    unfold kyD
    rw [List.map_map]
    apply List.map_congr_left
    intro p _
    simp only [Function.comp_def]
    split <;> rfl
  · rw [if_neg e, if_neg e]
    unfold kyD vlO
    rw [List.map_append, List.map_append]; rfl
theorem vals_al (l : AL) : vals (vlO l) = some (vlD l) := by
  induction l with
  | nil => rfl
  | cons p l ih =>
    show (vals (vlO l)).map _ = _
    rw [ih]; rfl
theorem enc_isNon (o : Option (List Nat)) : (enc o).isNon = o.isNone := by cases o <;> rfl
theorem ix_enc {F : Fd} {p : Nat} {o : Option (List Nat)} (h : F[p]? = some o) : opIx true (.lst (F.map enc)) (ni p) = some (enc o) := by
  show opIx true (.lst _) (.int _) = _
  rw [opIx_lst, atI_ofNat, List.getElem?_map, h]; rfl
theorem Acc.at {rows : List (List Nat)} {lt n s : Nat} {F : Fd} (A : Acc rows lt n s F) {p : Nat} (h : p < n) : ∃ o, F[p]? = some o ∧ ∀ b : Bool, (o.isNone = b) → (b = false ↔ ∃ w, Wd' lt w ∧ run rows s w = p) := by
  have hl : p < F.length := by rw [A.len]; exact h
  refine ⟨F[p], List.getElem?_eq_getElem hl, fun b hb => ?_⟩
  cases e : F[p] with
  | none =>
    rw [e] at hb
    subst hb
    refine ⟨fun z => Bool.noConfusion z, fun ⟨w, hw, hr⟩ => (A.no p (by rw [List.getElem?_eq_getElem hl, e]) w hw hr).elim⟩
  | some w =>
    rw [e] at hb
    subst hb
    obtain ⟨a, b, _⟩ := A.yes p w (by rw [List.getElem?_eq_getElem hl, e])
    exact ⟨fun _ => ⟨w, a, b⟩, fun _ => rfl⟩
section
variable {lt n s : Nat} {rows : List (List Nat)} {fin : List Nat}
theorem len_rows (hw : Wf lt n rows) : fLen [.tup (rows.map rowD)] = some (ni n) := by rw [fLen_tup, List.length_map, hw.len]
theorem reach_spec (hw : Wf lt n rows) : ∃ R : List Nat, Mreachable [mach lt rows fin] = .ok (.lst (R.map ni)) ∧ R.length ≤ n ∧ R.Nodup ∧ ∀ p, p ∈ R ↔ p < n ∧ ∃ w, Wd' lt w ∧ run rows 0 w = p := by
  have n2 := hw.n2
  obtain ⟨F, e, A⟩ := access_spec (fin := fin) hw hw.n1
  have ew : Maccess_words [mach lt rows fin] = .ok (.lst (F.map enc)) := by
    have e : Maccess_from [mach lt rows fin, .int 0] = .ok (.lst (F.map enc)) := e
    unfold Maccess_words Baccess_words
    refine ret_of (.ret ?_)
    simp -implicitDefEqProofs only [eCall_def, eCons_def, eNil_def, eV_def, eC_def, List.map_cons, List.map_nil, List.cons_append, List.getElem?_cons_zero, ok_bind, e, noX_ok]
  have cm := compL_filterm (eB (eOp2 (opIsnt) (eOp2 (opIx true) (eV 1) (eV 2)) (eC .non))) (eV 2) 2 [oD (mach lt rows fin), oD (.lst (F.map enc)), none] ni (fun p => !(F.getD p none).isNone) ni (List.range n)
    (by
      intro p hp
      have hp := List.mem_range.mp hp
      obtain ⟨o, ho, _⟩ := A.at hp
      have ix := ix_enc ho
      show (eB _) [oD (mach lt rows fin), oD (.lst (F.map enc)), oD (ni p)] = _
      simp -implicitDefEqProofs only [eB_def, eOp2_def, eV_def, eC_def, List.getElem?_cons_zero, List.getElem?_cons_succ, ok_bind, ix, lift_some, opIsnt_non, asB_bl, enc_isNon]
      rw [List.getD_eq_getElem?_getD, ho]; rfl)
    (by
      intro p _ _
      rfl)
  have hlen : ((List.range n).filter fun p => !(F.getD p none).isNone).length ≤ n := by
    have := List.length_filter_le (fun p => !(F.getD p none).isNone) (List.range n)
    rw [List.length_range] at this
    exact this
  refine ⟨(List.range n).filter fun p => !(F.getD p none).isNone, ?_, hlen, (List.nodup_range (n := n)).sublist List.filter_sublist, fun p => ?_⟩
  · unfold Mreachable Breachable
    refine ret_of ?_
    show Ret _ [oD (mach lt rows fin), none, none] _
    refine .seq (.set (d := .lst (F.map enc)) ?_) (.ret ?_)
    · simp -implicitDefEqProofs only [eCall_def, eCons_def, eNil_def, eV_def, List.getElem?_cons_zero, ok_bind, ew, noX_ok]
    · show (eLc _ _ _ _) [oD (mach lt rows fin), oD (.lst (F.map enc)), none] = _
      have er : (eItR (eC (.int 0)) (eFn (fLen) (eCons (eV 1) eNil))) [oD (mach lt rows fin), oD (.lst (F.map enc)), none] = .ok ((List.range n).map ni) := by
        have hl : fLen [.lst (F.map enc)] = some (ni n) := by rw [fLen_lst, List.length_map, A.len]
        simp -implicitDefEqProofs only [eItR_def, eFn_def, eCons_def, eNil_def, eC_def, eV_def, List.getElem?_cons_zero, List.getElem?_cons_succ, ok_bind, asI_zero, hl, lift_some, asI_small (i := (n : Int)) (by omega) (by omega)]
        rw [rangeD_nat]
      rw [eLc_def, eLcs_def, er, ok_bind, cm, ok_bind, List.length_map, if_pos (by omega)]
      rfl
  · rw [List.mem_filter, List.mem_range]
    constructor
    · rintro ⟨h, hb⟩
      obtain ⟨o, ho, k⟩ := A.at h
      rw [List.getD_eq_getElem?_getD, ho] at hb
      exact ⟨h, (k o.isNone rfl).mp (by simpa using hb)⟩
    · rintro ⟨h, hx⟩
      obtain ⟨o, ho, k⟩ := A.at h
      refine ⟨h, ?_⟩
      rw [List.getD_eq_getElem?_getD, ho]
      have := (k o.isNone rfl).mpr hx
      show (!o.isNone) = true
      rw [this]; rfl
end
/-- a dict comprehension all of whose keys are different -/
theorem compD_al {α : Type} (em : α → D) (kf vf : α → Nat) (gk gv : VS.Env → R D) (i : Nat) (c : VS.Env) : ∀ (l2 l1 : List α), (∀ p ∈ l2, gk (c.set i (some (.v (em p)))) = .ok (ni (kf p)) ∧ gv (c.set i (some (.v (em p)))) = .ok (ni (vf p))) → ((l1 ++ l2).map kf).Nodup → (l1 ++ l2).length ≤ 4000 →
    compD tYes' gk gv i c (l2.map em) (kyD (l1.map fun p => (kf p, vf p)), vlO (l1.map fun p => (kf p, vf p))) = .ok (kyD ((l1 ++ l2).map fun p => (kf p, vf p)), vlO ((l1 ++ l2).map fun p => (kf p, vf p)))
  | [], l1, _, _, _ => by rw [List.append_nil]; rfl
  | p :: l2, l1, h, n, hl => by
    obtain ⟨h1, h2⟩ := h p List.mem_cons_self
    rw [List.map_cons, compD, tYes_def]
    simp only [noX_ok, ok_bind, if_true, h1, h2]
    rw [show D.key (ni (kf p)) = some (.inl (kf p : Int)) from rfl]
    simp only [lift_some, ok_bind]
    have hno : hasK (kyD (l1.map fun p => (kf p, vf p))) (.inl (kf p : Int)) = false := by
      rw [hasK_al, any_key, List.map_map]
      have : kf p ∉ l1.map kf := fun z => by
        rw [List.map_append, List.nodup_append] at n
        exact n.2.2 _ z _ (List.mem_map.mpr ⟨p, List.mem_cons_self, rfl⟩) rfl
      cases e : List.contains (l1.map ((fun x => x.1) ∘ fun p => (kf p, vf p))) (kf p) with
      | false => rfl
      | true => exact absurd (show kf p ∈ l1.map kf by simpa using e) this
    have hlen : (kyD (l1.map fun p => (kf p, vf p))).length < 16777216 := by
      unfold kyD
      rw [List.length_map, List.length_map]
      rw [List.length_append, List.length_cons] at hl
      omega
    rw [if_pos hlen, hno, if_neg Bool.false_ne_true]
    have e1 : kyD (l1.map fun p => (kf p, vf p)) ++ [ni (kf p)] = kyD ((l1 ++ [p]).map fun p => (kf p, vf p)) := by unfold kyD; rw [List.map_append, List.map_append]; rfl
    have e2 : vlO (l1.map fun p => (kf p, vf p)) ++ [O.v (ni (vf p))] = vlO ((l1 ++ [p]).map fun p => (kf p, vf p)) := by unfold vlO; rw [List.map_append, List.map_append]; rfl
    rw [e1, e2, compD_al em kf vf gk gv i c l2 (l1 ++ [p]) (fun q hq => h q (List.mem_cons_of_mem _ hq)) (by simpa using n) (by simpa using hl)]
    simp
end GW

namespace GW
open PySem PySem.Spec PyProof.Rows L2 VS
/-! colours: how many there are -/
theorem nodup_sub {α : Type} [DecidableEq α] : ∀ {A B : List α}, A.Nodup → (∀ x ∈ A, x ∈ B) → A.length ≤ B.length
  | [], B, _, _ => Nat.zero_le _
  | a :: A, B, n, h => by
    obtain ⟨n1, n2⟩ := List.nodup_cons.mp n
    have hb := h a List.mem_cons_self
    have : A.length ≤ (B.erase a).length := nodup_sub n2 fun x hx => (List.mem_erase_of_ne (fun e => n1 (by rw [← e]; exact hx))).mpr (h x (List.mem_cons_of_mem _ hx))
    rw [List.length_erase_of_mem hb] at this
    have hp := List.length_pos_of_mem hb
    rw [List.length_cons]
    omega
theorem dct_spec (ns : List Int) : ∃ B : List Int, B.Nodup ∧ (∀ x, x ∈ B ↔ x ∈ ns) ∧ dct ns = B.length := by
  refine ⟨PyProof.Rows.firstMet (fun i => ns.getD i 0) ns.length, ?_, fun x => ?_, rfl⟩
  · generalize ns.length = k
    induction k with
    | zero => exact List.nodup_nil
    | succ k ih =>
      rw [PyProof.Rows.firstMet_succ]
      unfold PyProof.Rows.step_dedup
      split
      · exact ih
      · rename_i hno
        rw [List.nodup_append]
        refine ⟨ih, by simp, fun a ha b hb e => hno ?_⟩
        rw [List.mem_singleton.mp hb] at e
        rw [List.any_eq_true]
        exact ⟨a, ha, by rw [e]; exact beq_self_eq_true _⟩
  · have h := PyProof.Rows.firstMet_any (fun i => ns.getD i 0) ns.length x
    have hl : (List.range ns.length).map (fun i => ns.getD i 0) = ns := by
      refine List.ext_getElem (by simp) fun i h1 h2 => ?_
      rw [List.getElem_map, List.getElem_range, List.getD_eq_getElem?_getD, List.getElem?_eq_getElem h2]; rfl
    rw [hl] at h
    have a : ∀ l : List Int, l.any (· == x) = true ↔ x ∈ l := fun l => by
      rw [List.any_eq_true]
      exact ⟨fun ⟨y, hy, e⟩ => by rw [← eq_of_beq e]; exact hy, fun hx => ⟨x, hx, beq_self_eq_true _⟩⟩
    rw [← a, h, a]
def cct (R : List Nat) (f : Nat → Nat) : Nat := dct (R.map fun p => ((f p : Nat) : Int))
theorem cct_le (R : List Nat) (f : Nat → Nat) : cct R f ≤ R.length := by
  obtain ⟨B, nB, mB, eB⟩ := dct_spec (R.map fun p => ((f p : Nat) : Int))
  unfold cct
  rw [eB]
  have := nodup_sub nB fun x hx => (mB x).mp hx
  rwa [List.length_map] at this
/-- no more colours than before: the same parts -/
theorem cct_eq {R : List Nat} {f g : Nat → Nat} (hfg : ∀ p ∈ R, ∀ q ∈ R, g p = g q → f p = f q) (hc : cct R g ≤ cct R f) {p q : Nat} (hp : p ∈ R) (hq : q ∈ R) (e : f p = f q) : g p = g q := by
  refine Classical.byContradiction fun hne => ?_
  obtain ⟨A, nA, mA, eA⟩ := dct_spec (R.map fun p => ((f p : Nat) : Int))
  obtain ⟨B, nB, mB, eB⟩ := dct_spec (R.map fun p => ((g p : Nat) : Int))
  unfold cct at hc
  rw [eA, eB] at hc
  let φ : Int → Int := fun b => match R.find? (fun r => decide (((g r : Nat) : Int) = b)) with
    | some r => ((f r : Nat) : Int)
    | none => 0
  have hφ : ∀ r ∈ R, φ ((g r : Nat) : Int) = ((f r : Nat) : Int) := fun r hr => by
    show (match R.find? (fun s => decide (((g s : Nat) : Int) = ((g r : Nat) : Int))) with | some r => ((f r : Nat) : Int) | none => 0) = _
    cases ef : R.find? (fun s => decide (((g s : Nat) : Int) = ((g r : Nat) : Int))) with
    | none =>
      have := List.find?_eq_none.mp ef r hr
      simp at this
    | some s =>
      have h1 := List.find?_some ef
      have h1 : g s = g r := by
        have := of_decide_eq_true h1
        omega
      show ((f s : Nat) : Int) = ((f r : Nat) : Int)
      rw [hfg s (List.mem_of_find?_eq_some ef) r hr h1]
  have hgp : ((g p : Nat) : Int) ∈ B := (mB _).mpr (List.mem_map.mpr ⟨p, hp, rfl⟩)
  have := nodup_sub (B := (B.erase ((g p : Nat) : Int)).map φ) nA fun x hx => by
    obtain ⟨r, hr, rfl⟩ := List.mem_map.mp ((mA x).mp hx)
    have hin : ∀ s ∈ R, g s ≠ g p → ((g s : Nat) : Int) ∈ B.erase ((g p : Nat) : Int) := fun s hs hn => (List.mem_erase_of_ne (by omega)).mpr ((mB _).mpr (List.mem_map.mpr ⟨s, hs, rfl⟩))
    by_cases hr2 : g r = g p
    · refine List.mem_map.mpr ⟨((g q : Nat) : Int), hin q hq (fun z => hne z.symm), ?_⟩
      rw [hφ q hq, hfg r hr p hp hr2, e]
    · exact List.mem_map.mpr ⟨((g r : Nat) : Int), hin r hr hr2, hφ r hr⟩
  rw [List.length_map, List.length_erase_of_mem hgp] at this
  have := List.length_pos_of_mem hgp
  omega
/-! finer colours -/
abbrev Ky := Nat × List Nat
def keyOf (rows : List (List Nat)) (lt : Nat) (f : Nat → Nat) (p : Nat) : Ky := (f p, (List.range lt).map fun k => f (stp rows p (97 + k)))
def addk (KS : List Ky) (a : Ky) : List Ky := if a ∈ KS then KS else KS ++ [a]
def kys (rows : List (List Nat)) (lt : Nat) (f : Nat → Nat) (R : List Nat) : List Ky := R.foldl (fun KS p => addk KS (keyOf rows lt f p)) []
def fnr (rows : List (List Nat)) (lt : Nat) (R : List Nat) (f : Nat → Nat) (p : Nat) : Nat := (kys rows lt f R).idxOf (keyOf rows lt f p)
section
variable {lt n : Nat} {rows : List (List Nat)} {fin : List Nat} {f : Nat → Nat} {R : List Nat}
theorem addk_pre (KS : List Ky) (a : Ky) : ∃ s, addk KS a = KS ++ s := by
  unfold addk
  split
  · exact ⟨[], by simp⟩
  · exact ⟨[a], rfl⟩
theorem addk_in (KS : List Ky) (a : Ky) : a ∈ addk KS a := by
  unfold addk
  split
  · assumption
  · simp
theorem addk_nd {KS : List Ky} (h : KS.Nodup) (a : Ky) : (addk KS a).Nodup := by
  unfold addk
  split
  · exact h
  · rename_i hm
    rw [List.nodup_append]
    exact ⟨h, by simp, fun x hx y hy e => hm (by rw [← List.mem_singleton.mp hy, ← e]; exact hx)⟩
theorem foldk_pre (rows : List (List Nat)) (lt : Nat) (f : Nat → Nat) : ∀ (R : List Nat) (KS : List Ky), (∃ s, R.foldl (fun KS p => addk KS (keyOf rows lt f p)) KS = KS ++ s) ∧ (∀ p ∈ R, keyOf rows lt f p ∈ R.foldl (fun KS p => addk KS (keyOf rows lt f p)) KS) ∧ (KS.Nodup → (R.foldl (fun KS p => addk KS (keyOf rows lt f p)) KS).Nodup) ∧ (R.foldl (fun KS p => addk KS (keyOf rows lt f p)) KS).length ≤ KS.length + R.length
  | [], KS => ⟨⟨[], by simp⟩, (fun p hp => nomatch hp), fun h => h, Nat.le_refl _⟩
  | p :: R, KS => by
    obtain ⟨⟨s, hs⟩, h2, h3, h4⟩ := foldk_pre rows lt f R (addk KS (keyOf rows lt f p))
    obtain ⟨s0, hs0⟩ := addk_pre KS (keyOf rows lt f p)
    have hl : (addk KS (keyOf rows lt f p)).length ≤ KS.length + 1 := by
      unfold addk
      split
      · omega
      · rw [List.length_append, List.length_singleton]; omega
    refine ⟨⟨s0 ++ s, by rw [List.foldl_cons, hs, hs0, List.append_assoc]⟩, fun q hq => ?_, fun h => h3 (addk_nd h _), by rw [List.foldl_cons, List.length_cons]; omega⟩
    rcases List.mem_cons.mp hq with z | z
    · rw [List.foldl_cons, hs, z]
      exact List.mem_append_left _ (addk_in _ _)
    · exact h2 q z
theorem kys_app (a b : List Nat) : ∃ s, kys rows lt f (a ++ b) = kys rows lt f a ++ s := by
  unfold kys
  rw [List.foldl_append]
  exact (foldk_pre rows lt f b _).1
theorem kys_in {p : Nat} (hp : p ∈ R) : keyOf rows lt f p ∈ kys rows lt f R := (foldk_pre rows lt f R []).2.1 p hp
theorem kys_nd : (kys rows lt f R).Nodup := (foldk_pre rows lt f R []).2.2.1 List.nodup_nil
theorem kys_len : (kys rows lt f R).length ≤ R.length := by
  have := (foldk_pre rows lt f R []).2.2.2
  rwa [List.length_nil, Nat.zero_add] at this
theorem fnr_eq {p q : Nat} (hp : p ∈ R) (hq : q ∈ R) : fnr rows lt R f p = fnr rows lt R f q ↔ keyOf rows lt f p = keyOf rows lt f q := by
  unfold fnr
  constructor
  · intro h
    have h1 := List.getElem_idxOf (List.idxOf_lt_length_of_mem (kys_in (rows := rows) (lt := lt) (f := f) hp))
    have h2 := List.getElem_idxOf (List.idxOf_lt_length_of_mem (kys_in (rows := rows) (lt := lt) (f := f) hq))
    rw [← h1, ← h2]
    simp only [h]
  · intro h; rw [h]
theorem key_eq {p q : Nat} : keyOf rows lt f p = keyOf rows lt f q ↔ f p = f q ∧ ∀ k < lt, f (stp rows p (97 + k)) = f (stp rows q (97 + k)) := by
  unfold keyOf
  rw [Prod.mk.injEq]
  refine and_congr Iff.rfl ?_
  rw [List.map_inj_left]
  exact ⟨fun h k hk => h k (List.mem_range.mpr hk), fun h k hk => h k (List.mem_range.mp hk)⟩
/-- colours that tell no two states apart that are alike, but finals from others -/
structure Col (lt : Nat) (rows : List (List Nat)) (fin R : List Nat) (f : Nat → Nat) : Prop where
  fi : ∀ p ∈ R, ∀ q ∈ R, f p = f q → (p ∈ fin ↔ q ∈ fin)
  sim : ∀ p ∈ R, ∀ q ∈ R, Sim lt rows rows fin fin p q → f p = f q
def f0 (fin : List Nat) (p : Nat) : Nat := if p ∈ fin then 1 else 0
theorem col0 : Col lt rows fin R (f0 fin) := by
  refine ⟨fun p _ q _ h => ?_, fun p _ q _ h => ?_⟩
  · unfold f0 at h
    by_cases a : p ∈ fin <;> by_cases b : q ∈ fin
    · exact ⟨fun _ => b, fun _ => a⟩
    · rw [if_pos a, if_neg b] at h; cases h
    · rw [if_neg a, if_pos b] at h; cases h
    · exact ⟨fun z => absurd z a, fun z => absurd z b⟩
  · have := h [] fun c hc => nomatch hc
    have : p ∈ fin ↔ q ∈ fin := this
    unfold f0
    by_cases a : p ∈ fin
    · rw [if_pos a, if_pos (this.mp a)]
    · rw [if_neg a, if_neg fun z => a (this.mpr z)]
theorem Col.finer (h : Col lt rows fin R f) (hcl : ∀ p ∈ R, ∀ k < lt, stp rows p (97 + k) ∈ R) : Col lt rows fin R (fnr rows lt R f) ∧ ∀ p ∈ R, ∀ q ∈ R, fnr rows lt R f p = fnr rows lt R f q → f p = f q := by
  have h2 : ∀ p ∈ R, ∀ q ∈ R, fnr rows lt R f p = fnr rows lt R f q → f p = f q := fun p hp q hq e => (key_eq.mp ((fnr_eq hp hq).mp e)).1
  refine ⟨⟨fun p hp q hq e => h.fi p hp q hq (h2 p hp q hq e), fun p hp q hq e => (fnr_eq hp hq).mpr (key_eq.mpr ⟨h.sim p hp q hq e, fun k hk => ?_⟩)⟩, h2⟩
  exact h.sim _ (hcl p hp k hk) _ (hcl q hq k hk) (e.stp (by omega) (by omega))
/-- nothing finer: the colours tell what words tell -/
theorem Col.full (h : Col lt rows fin R f) (hcl : ∀ p ∈ R, ∀ k < lt, stp rows p (97 + k) ∈ R) (hc : cct R (fnr rows lt R f) ≤ cct R f) {p q : Nat} (hp : p ∈ R) (hq : q ∈ R) : f p = f q ↔ Sim lt rows rows fin fin p q := by
  refine ⟨fun e w hw => ?_, h.sim p hp q hq⟩
  have hst : ∀ p ∈ R, ∀ q ∈ R, f p = f q → ∀ k < lt, f (stp rows p (97 + k)) = f (stp rows q (97 + k)) := fun p hp q hq e =>
    (key_eq.mp ((fnr_eq hp hq).mp (cct_eq (h.finer hcl).2 hc hp hq e))).2
  induction w generalizing p q with
  | nil => exact h.fi p hp q hq e
  | cons c w ih =>
    obtain ⟨g1, g2⟩ := hw c List.mem_cons_self
    obtain ⟨k, rfl⟩ : ∃ k, c = 97 + k := ⟨c - 97, by omega⟩
    exact ih (hcl p hp k (by omega)) (hcl q hq k (by omega)) (hst p hp q hq e k (by omega)) fun d hd => hw d (List.mem_cons_of_mem _ hd)
end
end GW

namespace GW
open PySem PySem.Spec PyProof.Rows L2 VS
/-! the parts as the program has them -/
def ptD (T : List Nat) (f : Nat → Nat) : D := dkD (T.map fun p => (p, f p))
theorem ptD_keys (T : List Nat) (f : Nat → Nat) : kyD (T.map fun p => (p, f p)) = T.map ni := by unfold kyD; rw [List.map_map]; rfl
section
variable {lt n : Nat} {rows : List (List Nat)} {fin : List Nat} {f : Nat → Nat} {T : List Nat} {c : VS.Env} {i p : Nat}
theorem lk_of {f : Nat → Nat} : ∀ {T : List Nat} {p : Nat}, p ∈ T → lk (T.map fun p => (p, f p)) p = some (f p)
  | [], p, h => nomatch h
  | q :: T, p, h => by
    rw [List.map_cons, lk]
    by_cases e : q = p
    · rw [if_pos e, e]
    · rw [if_neg e]
      rcases List.mem_cons.mp h with z | z
      · exact absurd z.symm e
      · exact lk_of z
theorem atDk_v {l : AL} (h : c[i]? = some (oD (dkD l))) : atDk i c = some (kyD l, vlO l) := by
  unfold atDk
  rw [h]
  show some (kyD l, (vlD l).map O.v) = _
  rw [vlO_eq]
theorem atDk_o {l : AL} (h : c[i]? = some (some (.dic (kyD l) (vlO l)))) : atDk i c = some (kyD l, vlO l) := by
  unfold atDk
  rw [h]
/-- d[k] -/
theorem dix_of {l : AL} {g : VS.Env → R D} {v : Nat} (h : atDk i c = some (kyD l, vlO l)) (hg : g c = .ok (ni p)) (hl : lk l p = some v) : eDIx i g c = .ok (ni v) := by
  rw [eDIx_def, h]
  show (g c >>= fun k => lift (D.key k) >>= fun kk => lift ((dGet (kyD l) (vlO l) kk).bind fun o => match o with | .v d => some d | _ => none)) = _
  rw [hg, ok_bind, key_c, lift_some, ok_bind, dGet_al, hl]; rfl
theorem pix_of {g : VS.Env → R D} (h : c[i]? = some (oD (ptD T f))) (hg : g c = .ok (ni p)) (hp : p ∈ T) : eDIx i g c = .ok (ni (f p)) := dix_of (atDk_v h) hg (lk_of hp)
theorem first_spec (hw : Wf lt n rows) (hn : T.Nodup) (hl : T.length ≤ 1100) : Mfirst_parts [mach lt rows fin, .lst (T.map ni)] = .ok (ptD T (f0 fin)) := by
  have hcd := compD_al (em := ni) (kf := id) (vf := f0 fin) (eV 2) (eFn (fInt) (eCons (eCall Mis_final (eCons (eV 0) (eCons (eV 2) eNil))) eNil)) 2 [oD (mach lt rows fin), oD (.lst (T.map ni)), none] T [] (by
    intro p hp
    refine ⟨rfl, ?_⟩
    have e := isfin_spec (lt := lt) (rows := rows) (fin := fin) p
    show (eFn _ _) [oD (mach lt rows fin), oD (.lst (T.map ni)), oD (ni p)] = _
    simp -implicitDefEqProofs only [eFn_def, eCall_def, eCons_def, eNil_def, eV_def, List.getElem?_cons_zero, List.getElem?_cons_succ, ok_bind, e, noX_ok]
    unfold f0
    by_cases h : p ∈ fin
    · rw [decide_eq_true h, if_pos h]; rfl
    · rw [decide_eq_false h, if_neg h]; rfl) (by rw [List.nil_append, List.map_id]; exact hn) (by rw [List.nil_append]; omega)
  rw [List.nil_append] at hcd
  have es : (eIt true (eV 1)) [oD (mach lt rows fin), oD (.lst (T.map ni)), none] = .ok (T.map ni) := by
    show lift (asA true (.lst _)) = _
    rw [asA_lst, if_pos (okElT _)]; rfl
  unfold Mfirst_parts Bfirst_parts
  refine ret_of (.ret ?_)
  show (eLk _) [oD (mach lt rows fin), oD (.lst (T.map ni)), none] = _
  rw [eLk_def, eDcO_def, es, ok_bind]
  show ((compD _ _ _ 2 _ (T.map ni) (kyD ([].map fun p => (id p, f0 fin p)), vlO ([].map fun p => (id p, f0 fin p))) >>= _) >>= _) = _
  rw [hcd, ok_bind, ok_bind]
  show lift ((vals (vlO _)).map _) = _
  rw [vals_al]; rfl
/-! finer parts -/
def kD (a : Ky) : D := .tup [ni a.1, .tup (a.2.map ni)]
def kN (a : Ky) : NestedKey := .tup [.num a.1, .tup (a.2.map fun x : Nat => NestedKey.num x)]
theorem nqs_ni : ∀ l : List Nat, D.nqs (l.map ni) = some (l.map fun x : Nat => NestedKey.num x)
  | [] => rfl
  | x :: l => by
    rw [List.map_cons, D.nqs, nqs_ni l, D.nq]; rfl
theorem depth_nums : ∀ l : List Nat, NestedKey.depthAll (l.map fun x : Nat => NestedKey.num x) ≤ 1
  | [] => by simp [NestedKey.depthAll]
  | x :: l => by
    have := depth_nums l
    rw [List.map_cons, NestedKey.depthAll]
    simp only [NestedKey.depth]
    omega
theorem nk_ky (a : Ky) : D.nk (kD a) = some (kN a) := by
  unfold kD D.nk
  have h : D.nq (.tup [ni a.1, .tup (a.2.map ni)]) = some (kN a) := by
    rw [D.nq, D.nqs, D.nqs, D.nqs, D.nq, D.nq, nqs_ni]; rfl
  show (D.nq (.tup [ni a.1, .tup (a.2.map ni)])).bind (fun k => if k.depth ≤ 8 then some k else none) = _
  rw [h]
  show (if _ then _ else _) = _
  rw [if_pos]
  have := depth_nums a.2
  simp only [kN, NestedKey.depth, NestedKey.depthAll]
  omega
end
end GW

namespace GW
open PySem PySem.Spec PyProof.Rows L2 VS
theorem nums_inj : ∀ {a b : List Nat}, (a.map fun x : Nat => NestedKey.num x) = (b.map fun x : Nat => NestedKey.num x) → a = b
  | [], [], _ => rfl
  | [], y :: b, h => by cases h
  | x :: a, [], h => by cases h
  | x :: a, y :: b, h => by
    rw [List.map_cons, List.map_cons, List.cons.injEq] at h
    obtain ⟨h1, h2⟩ := h
    injection h1 with h1
    rw [nums_inj h2, show x = y by omega]
theorem kN_inj {a b : Ky} : kN a = kN b ↔ a = b := by
  constructor
  · intro h
    unfold kN at h
    injection h with h
    injection h with h1 h2
    injection h2 with h2 _
    injection h1 with h1
    injection h2 with h2
    exact Prod.ext (by omega) (nums_inj h2)
  · rintro rfl; rfl
theorem nHas_ky (KS : List Ky) (a : Ky) : nHas (KS.map kD) (kN a) = decide (a ∈ KS) := by
  unfold nHas
  rw [List.any_map, Bool.eq_iff_iff, List.any_eq_true, decide_eq_true_iff]
  constructor
  · rintro ⟨x, hx, h⟩
    have h : D.nk (kD x) = some (kN a) := of_decide_eq_true h
    rw [nk_ky] at h
    rw [← kN_inj.mp (Option.some.inj h)]; exact hx
  · intro h
    exact ⟨a, h, decide_eq_true (nk_ky a)⟩
def nums (s m : Nat) : List O := (List.range' s m).map fun j => O.v (ni j)
theorem nGet_ky (a : Ky) : ∀ (KS : List Ky) (s : Nat), a ∈ KS → nGet (KS.map kD) (nums s KS.length) (kN a) = some (.v (ni (s + KS.idxOf a)))
  | [], s, h => nomatch h
  | x :: KS, s, h => by
    rw [List.map_cons, List.length_cons]
    unfold nums
    rw [List.range'_succ, List.map_cons, nGet, nk_ky]
    by_cases e : x = a
    · rw [if_pos (by rw [e]), List.idxOf_cons, e]
      simp
    · rw [if_neg (fun z => e (kN_inj.mp (Option.some.inj z)))]
      have hm : a ∈ KS := by
        rcases List.mem_cons.mp h with z | z
        · exact absurd z.symm e
        · exact z
      have := nGet_ky a KS (s + 1) hm
      unfold nums at this
      rw [this, List.idxOf_cons]
      have : (x == a) = false := beq_eq_false_iff_ne.mpr e
      rw [this]
      simp only [cond_false]
      exact congrArg (fun z => some (O.v (ni z))) (by omega)
abbrev nO (KS : List Ky) : Option O := some (.ndc (KS.map kD) (nums 0 KS.length))
abbrev dO (l : AL) : Option O := some (.dic (kyD l) (vlO l))
section
variable {lt n : Nat} {rows : List (List Nat)} {fin : List Nat} {f : Nat → Nat} {T : List Nat} {c : VS.Env} {i p v : Nat}
theorem nin_ky {os : List O} {KS : List Ky} {gk : VS.Env → R D} {a : Ky} (neg : Bool) (h : atNk i c = some (KS.map kD, os)) (hk : gk c = .ok (kD a)) : eNIn neg i gk c = .ok (.bl (cond neg (!decide (a ∈ KS)) (decide (a ∈ KS)))) := by
  rw [eNIn_def, h]
  show (gk c >>= fun k => lift (D.nk k) >>= fun kk => R.ok (D.bl (cond neg (!nHas (KS.map kD) kk) (nHas (KS.map kD) kk)))) = _
  rw [hk, ok_bind, nk_ky, lift_some, ok_bind, nHas_ky]
theorem nix_ky {KS : List Ky} {gk : VS.Env → R D} {a : Ky} (h : c[i]? = some (nO KS)) (hk : gk c = .ok (kD a)) (ha : a ∈ KS) : eNIx i gk c = .ok (ni (KS.idxOf a)) := by
  rw [eNIx_def, atNk_of h]
  show (gk c >>= fun k => lift (D.nk k) >>= fun kk => lift ((nGet (KS.map kD) (nums 0 KS.length) kk).bind fun o => match o with | .v d => some d | _ => none)) = _
  rw [hk, ok_bind, nk_ky, lift_some, ok_bind, nGet_ky a KS 0 ha, Nat.zero_add]; rfl
theorem nset_ky {KS : List Ky} {gi g : VS.Env → R D} {a : Ky} (h : c[i]? = some (nO KS)) (hi : gi c = .ok (kD a)) (hg : g c = .ok (ni KS.length)) (ha : a ∉ KS) (hl : KS.length ≤ 4000000) : Nx (sNSet i gi g) c (c.set i (nO (KS ++ [a]))) := by
  unfold Nx
  rw [sNSet_def, hg, st_ok, atN_of h, lift_some, st_ok, hi, st_ok, nk_ky, lift_some, st_ok]
  have : nPut (KS.map kD) (nums 0 KS.length) (kD a) (kN a) (ni KS.length) = some (.ndc ((KS ++ [a]).map kD) (nums 0 (KS ++ [a]).length)) := by
    unfold nPut
    rw [List.length_map, if_pos (by omega), nHas_ky, decide_eq_false ha, if_neg Bool.false_ne_true, List.map_append]
    unfold nums
    rw [List.length_append, List.length_singleton, List.range'_concat, List.map_append, Nat.zero_add, Nat.one_mul]; rfl
  show (lift (nPut (KS.map kD) (nums 0 KS.length) (kD a) (kN a) (ni KS.length))).st _ _ = _
  rw [this, lift_some, st_ok]
theorem dset_new {l : AL} {gi g : VS.Env → R D} (h : c[i]? = some (dO l)) (hi : gi c = .ok (ni p)) (hg : g c = .ok (ni v)) (hp : p ∉ l.map (·.1)) (hl : l.length ≤ 4000) : Nx (sDSet i gi g) c (c.set i (dO (l ++ [(p, v)]))) := by
  have ha : atD i c = some (kyD l, vlO l) := by unfold atD; rw [h]
  have hput : put l p v = l ++ [(p, v)] := by
    unfold put
    rw [any_key, if_neg (by simpa using hp)]
  unfold Nx
  rw [sDSet_def, hg, st_ok, ha, lift_some, st_ok, hi, st_ok, key_c, lift_some, st_ok]
  show (lift (dPut (kyD l) (vlO l) (ni p) (.inl (p : Int)) (ni v))).st _ _ = _
  rw [dPut_al hl, hput, lift_some, st_ok]
abbrev finB : VS.Env → Rs := (sSeq (sSet 5 (eFn fTup (eCons (eDIx 1 (eV 4)) (eCons (eFn (fTuple true) (eCons (eLc (eIt true (eOp2 (opIx true) (eOp2 (opIx true) (eV 0) (eC (.int 1))) (eV 4))) tYes' (eDIx 1 (eV 6)) 6) eNil)) eNil))))
    (sSeq (sIf (eB (eNIn true 2 (eV 5)))
    (sNSet 2 (eV 5) (eFn fLenN (eCons (eL 2) eNil)))
    sNil)
    (sDSet 3 (eV 4) (eNIx 2 (eV 5)))))
theorem finer_turn (hw : Wf lt n rows) (hcl : ∀ p ∈ T, ∀ k < lt, stp rows p (97 + k) ∈ T) (hp : p ∈ T) (hpn : p < n) {KS : List Ky} (hK : KS.length ≤ 2000) {l : AL} (hl : l.length ≤ 4000) (hpl : p ∉ l.map (·.1)) (x5 : Option O) :
    ∃ y5, Nx finB [oD (mach lt rows fin), oD (ptD T f), nO KS, dO l, oD (ni p), x5, none] [oD (mach lt rows fin), oD (ptD T f), nO (addk KS (keyOf rows lt f p)), dO (l ++ [(p, (addk KS (keyOf rows lt f p)).idxOf (keyOf rows lt f p))]), oD (ni p), y5, none] := by
  have l2 := hw.l2
  have hrl : (rowAt rows p).length = lt := (hw.row _ (hw.getrow hpn).1).1
  have hv : (eFn fTup (eCons (eDIx 1 (eV 4)) (eCons (eFn (fTuple true) (eCons (eLc (eIt true (eOp2 (opIx true) (eOp2 (opIx true) (eV 0) (eC (.int 1))) (eV 4))) tYes' (eDIx 1 (eV 6)) 6) eNil)) eNil))) [oD (mach lt rows fin), oD (ptD T f), nO KS, dO l, oD (ni p), x5, none] = .ok (kD (keyOf rows lt f p)) := by
    have h1 := pix_of (c := [oD (mach lt rows fin), oD (ptD T f), nO KS, dO l, oD (ni p), x5, none]) (i := 1) (g := eV 4) (p := p) (T := T) (f := f) rfl rfl hp
    have hr := row_of (c := [oD (mach lt rows fin), oD (ptD T f), nO KS, dO l, oD (ni p), x5, none]) hw (fin := fin) rfl (g := eV 4) rfl hpn
    have cm := compL_mapm (eDIx 1 (eV 6)) 6 [oD (mach lt rows fin), oD (ptD T f), nO KS, dO l, oD (ni p), x5, none] ni (fun x => ni (f x)) (rowAt rows p) (fun x hx => by
      rw [row_eq hw hpn] at hx
      obtain ⟨k, hk, rfl⟩ := List.mem_map.mp hx
      exact pix_of (c := [oD (mach lt rows fin), oD (ptD T f), nO KS, dO l, oD (ni p), x5, oD (ni (stp rows p (97 + k)))]) (i := 1) rfl rfl (hcl p hp k (List.mem_range.mp hk)))
    have h2 : (eFn (fTuple true) (eCons (eLc (eIt true (eOp2 (opIx true) (eOp2 (opIx true) (eV 0) (eC (.int 1))) (eV 4))) tYes' (eDIx 1 (eV 6)) 6) eNil)) [oD (mach lt rows fin), oD (ptD T f), nO KS, dO l, oD (ni p), x5, none] = .ok (.tup ((keyOf rows lt f p).2.map ni)) := by
      rw [eFn_def, eCons_def, eLc_def, eLcs_def, hr, ok_bind, cm, ok_bind, List.length_map, if_pos (by omega), ok_bind, ok_bind, eNil_def, ok_bind, ok_bind, fTuple_lst, if_pos (okElT _), lift_some]
      unfold keyOf
      rw [row_eq hw hpn, List.map_map, List.map_map]; rfl
    rw [eFn_def, eCons_def, h1, ok_bind, eCons_def, h2]; rfl
  have ht : (eB (eNIn true 2 (eV 5))) [oD (mach lt rows fin), oD (ptD T f), nO KS, dO l, oD (ni p), oD (kD (keyOf rows lt f p)), none] = .ok (!decide (keyOf rows lt f p ∈ KS)) := by
    rw [eB_def, nin_ky (a := keyOf rows lt f p) true (atNk_of rfl) rfl]; rfl
  have hmid : Nx (sIf (eB (eNIn true 2 (eV 5))) (sNSet 2 (eV 5) (eFn fLenN (eCons (eL 2) eNil))) sNil) [oD (mach lt rows fin), oD (ptD T f), nO KS, dO l, oD (ni p), oD (kD (keyOf rows lt f p)), none] [oD (mach lt rows fin), oD (ptD T f), nO (addk KS (keyOf rows lt f p)), dO l, oD (ni p), oD (kD (keyOf rows lt f p)), none] := by
    unfold addk
    by_cases hm : keyOf rows lt f p ∈ KS
    · rw [if_pos hm]
      exact .no (ht.trans (by rw [decide_eq_true hm]; rfl)) .nil
    · rw [if_neg hm]
      refine .yes (ht.trans (by rw [decide_eq_false hm]; rfl)) ((nset_ky (KS := KS) (a := keyOf rows lt f p) rfl rfl ?_ hm (by omega)).to rfl)
      have hv2 : (eL 2) [oD (mach lt rows fin), oD (ptD T f), nO KS, dO l, oD (ni p), oD (kD (keyOf rows lt f p)), none] = .ok (.ndk (KS.map kD) ((nums 0 KS.length).map O.toD)) := by
        rw [eL_def, ← O.toDs_map, ← O.toD]; rfl
      rw [eFn_def, eCons_def, hv2, ok_bind, eNil_def, ok_bind, ok_bind, fLenN_ndk _ _ (by rw [List.length_map]; omega), lift_some, List.length_map]
  refine ⟨oD (kD (keyOf rows lt f p)), .seq ((Nx.set hv).to rfl) (.seq hmid ((dset_new (l := l) (p := p) rfl rfl (nix_ky (KS := addk KS (keyOf rows lt f p)) (a := keyOf rows lt f p) rfl rfl (addk_in _ _)) hpl hl).to rfl))⟩
theorem finer_spec (hw : Wf lt n rows) (hT : T.Nodup) (hTn : ∀ p ∈ T, p < n) (hcl : ∀ p ∈ T, ∀ k < lt, stp rows p (97 + k) ∈ T) : Mfiner_parts [mach lt rows fin, ptD T f] = .ok (ptD T (fnr rows lt T f)) := by
  have hTl : T.length ≤ n := nd_len n hT hTn
  have hn2 := hw.n2
  obtain ⟨c', main, x4, x5, x6, rfl, hx6⟩ := forL_ex 4 finB (fun j c => ∃ x4 x5 x6, c = [oD (mach lt rows fin), oD (ptD T f), nO (kys rows lt f (T.take j)), dO ((T.take j).map fun p => (p, fnr rows lt T f p)), x4, x5, x6] ∧ x6 = none) (T.map ni) [oD (mach lt rows fin), oD (ptD T f), nO [], dO [], none, none, none] (by
    rintro j d c hd ⟨x4, x5, x6, rfl, rfl⟩
    rw [List.getElem?_map] at hd
    obtain ⟨p, hq, rfl⟩ := Option.map_eq_some_iff.mp hd
    obtain ⟨hj, hje⟩ := List.getElem?_eq_some_iff.mp hq
    have hp : p ∈ T := by rw [← hje]; exact List.getElem_mem hj
    have htk : T.take (j + 1) = T.take j ++ [p] := by rw [List.take_succ_eq_append_getElem hj, hje]
    have hkl : (kys rows lt f (T.take j)).length ≤ 2000 := by
      have := kys_len (rows := rows) (lt := lt) (f := f) (R := T.take j)
      have h2 : (T.take j).length ≤ T.length := by rw [List.length_take]; exact Nat.min_le_right _ _
      exact Nat.le_trans this (Nat.le_trans h2 (Nat.le_trans hTl (Nat.le_trans hn2 (by decide))))
    have hpl : p ∉ ((T.take j).map fun p => (p, fnr rows lt T f p)).map (·.1) := by
      rw [List.map_map]
      intro z
      obtain ⟨q, hq, e⟩ := List.mem_map.mp z
      have e : q = p := e
      have : (T.take j ++ [p]).Nodup := by rw [← htk]; exact hT.sublist (List.take_sublist _ _)
      rw [List.nodup_append] at this
      exact this.2.2 q hq p (List.mem_singleton.mpr rfl) e
    obtain ⟨y5, hN⟩ := finer_turn (fin := fin) (f := f) hw hcl hp (hTn p hp) hkl (l := (T.take j).map fun p => (p, fnr rows lt T f p)) (by rw [List.length_map, List.length_take]; omega) hpl x5
    have hk2 : kys rows lt f (T.take (j + 1)) = addk (kys rows lt f (T.take j)) (keyOf rows lt f p) := by
      rw [htk]; unfold kys
      rw [List.foldl_append]; rfl
    refine ⟨_, hN, oD (ni p), y5, none, ?_, rfl⟩
    have hidx : (addk (kys rows lt f (T.take j)) (keyOf rows lt f p)).idxOf (keyOf rows lt f p) = fnr rows lt T f p := by
      unfold fnr
      obtain ⟨s, hs⟩ := kys_app (rows := rows) (lt := lt) (f := f) (T.take (j + 1)) (T.drop (j + 1))
      rw [List.take_append_drop] at hs
      rw [hs, ← hk2]
      have hin : keyOf rows lt f p ∈ kys rows lt f (T.take (j + 1)) := by rw [hk2]; exact addk_in _ _
      rw [List.idxOf_append, if_pos hin]
    rw [hidx, hk2, htk, List.map_append]; rfl) ⟨none, none, none, rfl, rfl⟩
  rw [List.length_map, List.take_length] at main
  unfold Mfiner_parts Bfiner_parts
  refine ret_of ?_
  show Ret _ [oD (mach lt rows fin), oD (ptD T f), none, none, none, none, none] _
  refine .seq ((Nx.setO (d := .ndc [] []) rfl).to rfl) (.seq ((Nx.setO (d := .dic [] []) rfl).to rfl) (.seq (.for (ds := T.map ni) ?_ main) ?_))
  · rw [eItK_def]
    show (R.ok (D.dlk (kyD (T.map fun p => (p, f p))) _) >>= _) = _
    rw [ok_bind, ptD_keys]
  · have : fzK 3 [oD (mach lt rows fin), oD (ptD T f), nO (kys rows lt f T), dO (T.map fun p => (p, fnr rows lt T f p)), x4, x5, x6] = some [oD (mach lt rows fin), oD (ptD T f), nO (kys rows lt f T), oD (ptD T (fnr rows lt T f)), x4, x5, x6] := by
      show (vals (vlO _)).map _ = _
      rw [vals_al]; rfl
    refine ⟨[oD (mach lt rows fin), oD (ptD T f), nO (kys rows lt f T), oD (ptD T (fnr rows lt T f)), x4, x5, x6], ?_⟩
    rw [sFzK_def, this]
    exact rfl
end
end GW

namespace GW
open PySem PySem.Spec PyProof.Rows L2 VS
theorem asInts_ni {α : Type} (f : α → Nat) (l : List α) : asInts (l.map fun x => ni (f x)) = some (l.map fun x => ((f x : Nat) : Int)) := by
  induction l with
  | nil => rfl
  | cons x l ih =>
    rw [List.map_cons, List.map_cons]
    show asInts (.int _ :: _) = _
    rw [asInts_cons, ih]; rfl
section
variable {lt n : Nat} {rows : List (List Nat)} {fin : List Nat} {f : Nat → Nat} {T : List Nat} {c : VS.Env} {i p v : Nat} {K : List Pr}
theorem count_spec (hT : T.length ≤ 1100) : Mpart_count [ptD T f] = .ok (ni (cct T f)) := by
  unfold Mpart_count Bpart_count
  refine ret_of (.ret ?_)
  show (eLenSet (eVals (eV 0))) [oD (ptD T f)] = _
  have hv : (eVals (eV 0)) [oD (ptD T f)] = .ok (.lst (T.map fun p => ni (f p))) := by
    rw [eVals_def, show (eV 0) [oD (ptD T f)] = .ok (ptD T f) from rfl, ok_bind]
    show R.ok (D.lst (vlD (T.map fun p => (p, f p)))) = _
    unfold vlD
    rw [List.map_map]; rfl
  rw [eLenSet_def, hv, ok_bind]
  show (lift (asInts (T.map fun p => ni (f p))) >>= fun ns => if ns.length ≤ 4000 then R.ok (D.int (dct ns : Nat)) else R.stuck) = _
  rw [asInts_ni, lift_some, ok_bind, if_pos (by rw [List.length_map]; omega)]; rfl
/-- the parts that words tell -/
structure Pts (lt n : Nat) (rows : List (List Nat)) (fin T : List Nat) (f : Nat → Nat) : Prop where
  nd : T.Nodup
  ltn : ∀ p ∈ T, p < n
  z : 0 ∈ T
  cl : ∀ p ∈ T, ∀ k < lt, stp rows p (97 + k) ∈ T
  sim : ∀ p ∈ T, ∀ q ∈ T, (f p = f q ↔ Sim lt rows rows fin fin p q)
theorem same_spec (hw : Wf lt n rows) (fin : List Nat) : ∃ T f, Msame_parts [mach lt rows fin] = .ok (ptD T f) ∧ Pts lt n rows fin T f := by
  obtain ⟨T, eT, hTl, hnd, hm⟩ := reach_spec (fin := fin) hw
  have hn2 := hw.n2
  have hTn : ∀ p ∈ T, p < n := fun p hp => ((hm p).mp hp).1
  have h0 : 0 ∈ T := (hm 0).mpr ⟨hw.n1, [], (fun c hc => nomatch hc), rfl⟩
  have hcl : ∀ p ∈ T, ∀ k < lt, stp rows p (97 + k) ∈ T := fun p hp k hk => by
    obtain ⟨h1, w, h2, h3⟩ := (hm p).mp hp
    refine (hm _).mpr ⟨stp_lt hw h1 (by omega) (by omega), w ++ [97 + k], fun c hc => ?_, by rw [run_app, h3]⟩
    rcases List.mem_append.mp hc with z | z
    · exact h2 c z
    · rw [List.mem_singleton.mp z]; omega
  have e1 := first_spec (fin := fin) hw hnd (by omega)
  obtain ⟨c', main, f, x2, rfl, hc, hf⟩ := whileL_ex (eB (eOp2 (opRel fun i j => decide (j < i)) (eCall Mpart_count (eCons (eV 2) eNil)) (eCall Mpart_count (eCons (eV 1) eNil)))) (sSeq (sSet 1 (eV 2)) (sSet 2 (eCall Mfiner_parts (eCons (eV 0) (eCons (eV 1) eNil)))))
    (fun m c => ∃ f, c = [oD (mach lt rows fin), oD (ptD T f), oD (ptD T (fnr rows lt T f))] ∧ Col lt rows fin T f ∧ m + cct T f = T.length + 1)
    (fun c => ∃ f x2, c = [oD (mach lt rows fin), oD (ptD T f), x2] ∧ Col lt rows fin T f ∧ cct T (fnr rows lt T f) ≤ cct T f) (by
      rintro m c ⟨f, rfl, hc, hm⟩
      have c1 := count_spec (T := T) (f := f) (by omega)
      have c2 := count_spec (T := T) (f := fnr rows lt T f) (by omega)
      have e2 := finer_spec (fin := fin) (f := fnr rows lt T f) hw hnd hTn hcl
      have ht : (eB (eOp2 (opRel fun i j => decide (j < i)) (eCall Mpart_count (eCons (eV 2) eNil)) (eCall Mpart_count (eCons (eV 1) eNil)))) [oD (mach lt rows fin), oD (ptD T f), oD (ptD T (fnr rows lt T f))] = .ok (decide (cct T f < cct T (fnr rows lt T f))) := by
        simp -implicitDefEqProofs only [eB_def, eOp2_def, eCall_def, eCons_def, eNil_def, eV_def, List.getElem?_cons_zero, List.getElem?_cons_succ, ok_bind, c1, c2, noX_ok, opRel_int, lift_some, asB_bl]
        exact congrArg R.ok (by rw [Bool.eq_iff_iff, decide_eq_true_iff, decide_eq_true_iff]; omega)
      by_cases h : cct T f < cct T (fnr rows lt T f)
      · have hle := cct_le T (fnr rows lt T f)
        refine .inr ⟨ht.trans (by rw [decide_eq_true h]), T.length + 1 - cct T (fnr rows lt T f), _, by omega, Nx.seq ((Nx.set (d := ptD T (fnr rows lt T f)) rfl).to rfl) ((Nx.set (d := ptD T (fnr rows lt T (fnr rows lt T f))) ?_).to rfl), fnr rows lt T f, rfl, (hc.finer hcl).1, by omega⟩
        show (eCall _ _) [oD (mach lt rows fin), oD (ptD T (fnr rows lt T f)), oD (ptD T (fnr rows lt T f))] = _
        simp -implicitDefEqProofs only [eCall_def, eCons_def, eNil_def, eV_def, List.getElem?_cons_zero, List.getElem?_cons_succ, ok_bind, e2, noX_ok]
      · exact .inl ⟨ht.trans (by rw [decide_eq_false h]), f, _, rfl, hc, by omega⟩)
    wN (T.length + 1 - cct T (f0 fin)) [oD (mach lt rows fin), oD (ptD T (f0 fin)), oD (ptD T (fnr rows lt T (f0 fin)))] (by unfold wN; omega) ⟨f0 fin, rfl, col0, by have := cct_le T (f0 fin); omega⟩
  have e3 := finer_spec (fin := fin) (f := f0 fin) hw hnd hTn hcl
  refine ⟨T, f, ?_, hnd, hTn, h0, hcl, fun p hp q hq => hc.full hcl hf hp hq⟩
  unfold Msame_parts Bsame_parts
  refine ret_of ?_
  show Ret _ [oD (mach lt rows fin), none, none] _
  refine .seq ((Nx.set (d := ptD T (f0 fin)) ?_).to rfl) (.seq ((Nx.set (d := ptD T (fnr rows lt T (f0 fin))) ?_).to rfl) (.seq (show Nx (whileL _ _ _) _ _ from main) (.ret rfl)))
  · simp -implicitDefEqProofs only [eCall_def, eCons_def, eNil_def, eV_def, List.getElem?_cons_zero, List.getElem?_cons_succ, ok_bind, eT, noX_ok, e1]
  · show (eCall _ _) [oD (mach lt rows fin), oD (ptD T (f0 fin)), none] = _
    simp -implicitDefEqProofs only [eCall_def, eCons_def, eNil_def, eV_def, List.getElem?_cons_zero, List.getElem?_cons_succ, ok_bind, e3, noX_ok]
/-! one state of each part -/
def addf (f : Nat → Nat) (L : List Nat) (q : Nat) : List Nat := if f q ∈ L.map f then L else L ++ [q]
def gxf (f : Nat → Nat) (rows : List (List Nat)) (p : Nat) (L : List Nat) (j : Nat) : List Nat := (List.range j).foldl (fun L k => addf f L (stp rows p (97 + k))) L
theorem gxf_succ (f : Nat → Nat) (rows : List (List Nat)) (p : Nat) (L : List Nat) (j : Nat) : gxf f rows p L (j + 1) = addf f (gxf f rows p L j) (stp rows p (97 + j)) := by
  unfold gxf
  rw [List.range_succ, List.foldl_append]; rfl
def grof (f : Nat → Nat) (rows : List (List Nat)) (lt : Nat) : Nat → Nat → List Nat → List Nat
  | 0, _, L => L
  | m + 1, a, L => match L[a]? with
    | none => L
    | some p => grof f rows lt m (a + 1) (gxf f rows p L lt)
structure IvF (f : Nat → Nat) (T L : List Nat) : Prop where
  nd : (L.map f).Nodup
  sub : ∀ p ∈ L, p ∈ T
theorem IvF.len {L : List Nat} (I : IvF f T L) : L.length ≤ T.length := by
  refine nodup_sub ?_ I.sub
  have := I.nd
  unfold List.Nodup at this ⊢
  rw [List.pairwise_map] at this
  exact this.imp fun h e => h (by rw [e])
theorem IvF.add {L : List Nat} (I : IvF f T L) {q : Nat} (hq : q ∈ T) : IvF f T (addf f L q) ∧ ∃ s, addf f L q = L ++ s := by
  unfold addf
  by_cases h : f q ∈ L.map f
  · rw [if_pos h]
    exact ⟨I, [], by simp⟩
  · rw [if_neg h]
    refine ⟨⟨?_, fun p hp => ?_⟩, _, rfl⟩
    · rw [List.map_append, List.nodup_append]
      exact ⟨I.nd, by simp, fun x hx y hy e => h (by
        have hy : y = f q := by simpa using hy
        rw [← hy, ← e]; exact hx)⟩
    · rcases List.mem_append.mp hp with z | z
      · exact I.sub p z
      · rw [List.mem_singleton.mp z]; exact hq
theorem IvF.gx (hcl : ∀ p ∈ T, ∀ k < lt, stp rows p (97 + k) ∈ T) {L : List Nat} (I : IvF f T L) {p : Nat} (hp : p ∈ T) : ∀ j, j ≤ lt → IvF f T (gxf f rows p L j) ∧ ∃ s, gxf f rows p L j = L ++ s
  | 0, _ => ⟨I, [], by simp [gxf]⟩
  | j + 1, hj => by
    obtain ⟨a, s, hs⟩ := IvF.gx hcl I hp j (by omega)
    obtain ⟨b, t, ht⟩ := a.add (hcl p hp j (by omega))
    rw [gxf_succ]
    exact ⟨b, s ++ t, by rw [ht, hs, List.append_assoc]⟩
theorem IvF.gro (hcl : ∀ p ∈ T, ∀ k < lt, stp rows p (97 + k) ∈ T) : ∀ (m a : Nat) (L : List Nat), IvF f T L → IvF f T (grof f rows lt m a L)
  | 0, _, _, I => I
  | m + 1, a, L, I => by
    rw [grof]
    cases e : L[a]? with
    | none => exact I
    | some p => exact IvF.gro hcl m (a + 1) _ (I.gx hcl (I.sub p (List.mem_of_getElem? e)) lt (Nat.le_refl _)).1
/-- the states that the program and the law choose, side by side -/
def Bth (lt : Nat) (rows : List (List Nat)) (fin T C : List Nat) (p q : Nat) : Prop := p ∈ T ∧ q ∈ C ∧ Sim lt rows rows fin fin p q
theorem both_add (P : Pts lt n rows fin T f) (h : Kn lt n rows fin K) {a b : List Nat} (F : F2 (Bth lt rows fin T (Cf K rows lt)) a b) {p q : Nat} (r : Bth lt rows fin T (Cf K rows lt) p q) : F2 (Bth lt rows fin T (Cf K rows lt)) (addf f a p) (add1 b q) := by
  have ic := h.ivc
  obtain ⟨r1, r2, r3⟩ := r
  have hiff : f p ∈ a.map f ↔ q ∈ b := by
    constructor
    · intro hm
      obtain ⟨s, hs, e⟩ := List.mem_map.mp hm
      obtain ⟨t, ht, s1, t1, st⟩ := F.left hs
      have sp := (P.sim s s1 p r1).mp e
      have : t = q := ic.one t t1 q r2 ((h.sim (ic.sub t t1) (ic.sub q r2)).mpr ((st.symm.trans sp).trans r3))
      rw [← this]; exact ht
    · intro hm
      obtain ⟨s, hs, s1, _, sq⟩ := F.right hm
      exact List.mem_map.mpr ⟨s, hs, (P.sim s s1 p r1).mpr (sq.trans r3.symm)⟩
  unfold addf add1
  by_cases hm : q ∈ b
  · rw [if_pos hm, if_pos (hiff.mpr hm)]; exact F
  · rw [if_neg hm, if_neg (fun z => hm (hiff.mp z))]; exact F.app ⟨r1, r2, r3⟩
theorem both_gx (P : Pts lt n rows fin T f) (h : Kn lt n rows fin K) {a b : List Nat} (F : F2 (Bth lt rows fin T (Cf K rows lt)) a b) {p q : Nat} (r : Bth lt rows fin T (Cf K rows lt) p q) : ∀ j, j ≤ lt → F2 (Bth lt rows fin T (Cf K rows lt)) (gxf f rows p a j) (gx (repK K (Cf K rows lt)) rows q b j)
  | 0, _ => F
  | j + 1, hj => by
    rw [gxf_succ, gx_succ]
    refine both_add P h (both_gx P h F r j (by omega)) ?_
    have ic := h.ivc
    have x2 := (Sf_spec h.wf).2.1 q (ic.sub q r.2.1) j (by omega)
    obtain ⟨y2, z2, _⟩ := repK_in (ic.cov _ x2)
    exact ⟨P.cl p r.1 j (by omega), y2, (r.2.2.stp (by omega) (by omega)).trans ((h.sim x2 (ic.sub _ y2)).mp z2)⟩
theorem both_gro (P : Pts lt n rows fin T f) (h : Kn lt n rows fin K) : ∀ (m i : Nat) (a b : List Nat), F2 (Bth lt rows fin T (Cf K rows lt)) a b → F2 (Bth lt rows fin T (Cf K rows lt)) (grof f rows lt m i a) (gro (repK K (Cf K rows lt)) rows lt m i b)
  | 0, i, a, b, F => F
  | m + 1, i, a, b, F => by
    rw [grof, gro]
    rcases F.at i with ⟨e1, e2⟩ | ⟨p, q, e1, e2, r⟩
    · rw [e1, e2]; exact F
    · rw [e1, e2]
      exact both_gro P h m (i + 1) _ _ (both_gx P h F r lt (Nat.le_refl _))
def Lf (f : Nat → Nat) (rows : List (List Nat)) (lt : Nat) : List Nat := grof f rows lt 1200 0 [0]
theorem iv0' (P : Pts lt n rows fin T f) : IvF f T [0] := ⟨by simp, fun p hp => by rw [List.mem_singleton.mp hp]; exact P.z⟩
theorem Lf_both (P : Pts lt n rows fin T f) (h : Kn lt n rows fin K) : IvF f T (Lf f rows lt) ∧ F2 (Bth lt rows fin T (Cf K rows lt)) (Lf f rows lt) (Of K rows lt) := by
  refine ⟨IvF.gro P.cl 1200 0 [0] (iv0' P), both_gro P h 1200 0 [0] [0] (.cons ⟨P.z, ?_, fun w _ => Iff.rfl⟩ .nil)⟩
  obtain ⟨s, hs⟩ := h.c0
  rw [hs]; exact List.mem_append_left _ (List.mem_singleton.mpr rfl)
end
end GW

namespace GW
open PySem PySem.Spec PyProof.Rows L2 VS
abbrev sO (l : List Nat) : Option O := some (.dic (l.map ni) (l.map fun _ => O.v (.bl true)))
theorem hasK_ni (l : List Nat) (x : Nat) : hasK (l.map ni) (.inl (x : Int)) = decide (x ∈ l) := by
  have := hasK_al (l.map fun a => (a, 0)) x
  rw [show kyD (l.map fun a => (a, 0)) = l.map ni by unfold kyD; rw [List.map_map]; rfl] at this
  rw [this, any_key, List.map_map, show ((fun p : Nat × Nat => p.1) ∘ fun a => (a, 0)) = id from rfl, List.map_id, Bool.eq_iff_iff, decide_eq_true_iff]
  simp
section
variable {lt n : Nat} {rows : List (List Nat)} {fin : List Nat} {f : Nat → Nat} {T : List Nat} {c : VS.Env} {i p v : Nat} {K : List Pr}
theorem din_s {l : List Nat} {gk : VS.Env → R D} {x : Nat} (neg : Bool) (h : c[i]? = some (sO l)) (hk : gk c = .ok (ni x)) : eDIn neg i gk c = .ok (.bl (cond neg (!decide (x ∈ l)) (decide (x ∈ l)))) := by
  have ha : atDk i c = some (l.map ni, l.map fun _ => O.v (.bl true)) := by unfold atDk; rw [h]
  rw [eDIn_def, ha]
  show (gk c >>= fun k => lift (D.key k) >>= fun kk => R.ok (D.bl (cond neg (!hasK (l.map ni) kk) (hasK (l.map ni) kk)))) = _
  rw [hk, ok_bind, key_c, lift_some, ok_bind, hasK_ni]
theorem dset_s {l : List Nat} {gi g : VS.Env → R D} {x : Nat} (h : c[i]? = some (sO l)) (hi : gi c = .ok (ni x)) (hg : g c = .ok (.bl true)) (hx : x ∉ l) (hl : l.length ≤ 4000) : Nx (sDSet i gi g) c (c.set i (sO (l ++ [x]))) := by
  have ha : atD i c = some (l.map ni, l.map fun _ => O.v (.bl true)) := by unfold atD; rw [h]
  unfold Nx
  rw [sDSet_def, hg, st_ok, ha, lift_some, st_ok, hi, st_ok, key_c, lift_some, st_ok]
  have : dPut (l.map ni) (l.map fun _ => O.v (.bl true)) (ni x) (.inl (x : Int)) (.bl true) = some (.dic ((l ++ [x]).map ni) ((l ++ [x]).map fun _ => O.v (.bl true))) := by
    unfold dPut
    rw [List.length_map, if_pos (by omega), hasK_ni, decide_eq_false hx, if_neg Bool.false_ne_true, List.map_append, List.map_append]; rfl
  show (lift (dPut (l.map ni) (l.map fun _ => O.v (.bl true)) (ni x) (.inl (x : Int)) (.bl true))).st _ _ = _
  rw [this, lift_some, st_ok]
theorem lt_of' {j a : Nat} {L : List Nat} (h2 : c[j]? = some (oD (ni a))) (hi : c[i]? = some (lO L)) : (eB (eOp2 (opRel fun i j => decide (i < j)) (eV j) (eFn (fLen) (eCons (eL i) eNil)))) c = .ok (decide (a < L.length)) := by
  have hl := eL_of hi
  have hv := eV_of h2
  simp -implicitDefEqProofs only [eB_def, eOp2_def, eFn_def, eCons_def, eNil_def, hv, hl, ok_bind, fLen_lst, List.length_map, lift_some, opRel_int, asB_bl]
  exact congrArg R.ok (by rw [Bool.eq_iff_iff, decide_eq_true_iff, decide_eq_true_iff]; omega)
theorem inc_of' {j a : Nat} (h2 : c[j]? = some (oD (ni a))) : Nx (sSet j (eOp2 (opAdd true true) (eV j) (eC (.int 1)))) c (c.set j (oD (ni (a + 1)))) := by
  refine .set (d := ni (a + 1)) ?_
  rw [eOp2_def, eV_of h2, eC_def, ok_bind, ok_bind, show opAdd true true (ni a) (.int 1) = _ from add_nat a 1]; rfl
abbrev nIn : VS.Env → Rs := (sIf (eB (eDIn true 3 (eDIx 1 (eV 5))))
    (sSeq (sDSet 3 (eDIx 1 (eV 5)) (eC (.bl true)))
    (sApp 2 (eV 5)))
    sNil)
abbrev nBd : VS.Env → Rs := (sSeq (sFor 5 (eIt true (eOp2 (opIx true) (eOp2 (opIx true) (eV 0) (eC (.int 1))) (eIxo 2 (eV 4)))) nIn)
    (sSet 4 (eOp2 (opAdd true true) (eV 4) (eC (.int 1)))))
theorem num_row (hw : Wf lt n rows) (P : Pts lt n rows fin T f) (hTl : T.length ≤ 1100) {L : List Nat} (I : IvF f T L) {a p : Nat} (hL : L[a]? = some p) (x5 : Option O) :
    ∃ y5, Nx nBd [oD (mach lt rows fin), oD (ptD T f), lO L, sO (L.map f), oD (ni a), x5] [oD (mach lt rows fin), oD (ptD T f), lO (gxf f rows p L lt), sO ((gxf f rows p L lt).map f), oD (ni (a + 1)), y5] := by
  have l2 := hw.l2
  obtain ⟨ha, hLe⟩ := List.getElem?_eq_some_iff.mp hL
  have hpT : p ∈ T := I.sub p (by rw [← hLe]; exact List.getElem_mem ha)
  have hp : p < n := P.ltn p hpT
  obtain ⟨c', main, y5, rfl⟩ := forL_ex 5 nIn (fun j c => ∃ y5, c = [oD (mach lt rows fin), oD (ptD T f), lO (gxf f rows p L j), sO ((gxf f rows p L j).map f), oD (ni a), y5]) ((rowAt rows p).map ni) [oD (mach lt rows fin), oD (ptD T f), lO L, sO (L.map f), oD (ni a), x5] (by
    rintro j d c hd ⟨y5, rfl⟩
    obtain ⟨hj, rfl⟩ := row_get hw hp hd
    obtain ⟨I', _⟩ := I.gx P.cl hpT j (by omega)
    have hlen := I'.len
    have hxT := P.cl p hpT j hj
    rw [gxf_succ]
    generalize gxf f rows p L j = G at I' hlen ⊢
    generalize stp rows p (97 + j) = x at hxT ⊢
    have hk := pix_of (c := [oD (mach lt rows fin), oD (ptD T f), lO G, sO (G.map f), oD (ni a), oD (ni x)]) (i := 1) (g := eV 5) (p := x) (T := T) (f := f) rfl rfl hxT
    have ht : (eB (eDIn true 3 (eDIx 1 (eV 5)))) [oD (mach lt rows fin), oD (ptD T f), lO G, sO (G.map f), oD (ni a), oD (ni x)] = .ok (!decide (f x ∈ G.map f)) := by
      rw [eB_def, din_s (l := G.map f) (x := f x) true rfl hk]; rfl
    unfold addf
    by_cases hm : f x ∈ G.map f
    · rw [if_pos hm]
      exact ⟨_, Nx.no (ht.trans (by rw [decide_eq_true hm]; rfl)) .nil, oD (ni x), rfl⟩
    · rw [if_neg hm]
      refine ⟨_, Nx.yes (ht.trans (by rw [decide_eq_false hm]; rfl)) (.seq ((dset_s (l := G.map f) (x := f x) rfl hk rfl hm (by rw [List.length_map]; omega)).to rfl) ((app_of (i := 2) (L := G) (p := x) rfl rfl (by omega)).to rfl)), oD (ni x), ?_⟩
      rw [List.map_append]; rfl) ⟨x5, rfl⟩
  have e : ((rowAt rows p).map ni).length = lt := by rw [List.length_map]; exact (hw.row _ (hw.getrow hp).1).1
  rw [e] at main
  exact ⟨y5, .seq (.for (row_of hw (fin := fin) rfl (eIxo_of (L := L) (p := p) rfl rfl hL) hp) main) ((inc_of' (j := 4) rfl).to rfl)⟩
theorem numbered_spec (hw : Wf lt n rows) (P : Pts lt n rows fin T f) : Mnumbered_states [mach lt rows fin, ptD T f] = .ok (.lst ((Lf f rows lt).map ni)) := by
  have hTl : T.length ≤ n := nd_len n P.nd P.ltn
  have hn2 := hw.n2
  obtain ⟨c', main, x3, x4, x5, rfl⟩ := whileL_ex (eB (eOp2 (opRel fun i j => decide (i < j)) (eV 4) (eFn (fLen) (eCons (eL 2) eNil)))) nBd
    (fun m c => ∃ (L : List Nat) (a : Nat) (x5 : Option O), c = [oD (mach lt rows fin), oD (ptD T f), lO L, sO (L.map f), oD (ni a), x5] ∧ IvF f T L ∧ a ≤ L.length ∧ m + a = 1200 ∧ grof f rows lt m a L = Lf f rows lt)
    (fun c => ∃ x3 x4 x5, c = [oD (mach lt rows fin), oD (ptD T f), lO (Lf f rows lt), x3, x4, x5]) (by
      rintro m c ⟨L, a, x5, rfl, I, ha, hm, hg⟩
      have hlen := I.len
      obtain ⟨m, rfl⟩ : ∃ k, m = k + 1 := ⟨m - 1, by omega⟩
      have ht := lt_of' (c := [oD (mach lt rows fin), oD (ptD T f), lO L, sO (L.map f), oD (ni a), x5]) (i := 2) (j := 4) (a := a) (L := L) rfl rfl
      rw [grof] at hg
      by_cases hal : a < L.length
      · have hget := List.getElem?_eq_getElem hal
        rw [hget] at hg
        obtain ⟨y5, hN⟩ := num_row (fin := fin) hw P (by omega) I hget x5
        obtain ⟨I', s, hs⟩ := I.gx P.cl (I.sub _ (List.getElem_mem hal)) lt (Nat.le_refl _)
        exact .inr ⟨ht.trans (by rw [decide_eq_true hal]), m, _, by omega, hN, _, a + 1, y5, rfl, I', by rw [hs, List.length_append]; omega, by omega, hg⟩
      · rw [List.getElem?_eq_none (by omega)] at hg
        have hg : L = Lf f rows lt := hg
        exact .inl ⟨ht.trans (by rw [decide_eq_false hal]), _, _, _, by rw [hg]⟩)
    wN 1200 [oD (mach lt rows fin), oD (ptD T f), lO [0], sO [f 0], oD (ni 0), none] (by unfold wN; omega) ⟨[0], 0, none, rfl, iv0' P, Nat.zero_le _, rfl, rfl⟩
  unfold Mnumbered_states Bnumbered_states
  refine ret_of ?_
  show Ret _ [oD (mach lt rows fin), oD (ptD T f), none, none, none, none] _
  refine .seq ((Nx.setO (d := .lst [.v (ni 0)]) rfl).to rfl) (.seq ((Nx.setO (d := .dic [ni (f 0)] [.v (.bl true)]) ?_).to rfl) (.seq ((Nx.set (d := ni 0) rfl).to rfl) (.seq (show Nx (whileL _ _ _) _ _ from main) (.fz (.ret ?_)))))
  · have hk := pix_of (c := [oD (mach lt rows fin), oD (ptD T f), lO [0], none, none, none]) (i := 1) (g := eC (.int 0)) (p := 0) (T := T) (f := f) rfl rfl P.z
    show (eD1x _ _) [oD (mach lt rows fin), oD (ptD T f), lO [0], none, none, none] = _
    rw [eD1x_def, hk]; rfl
  · show R.ok (O.toD (.lst ((Lf f rows lt).map fun q => O.v (ni q)))) = _
    rw [lO_toD]
/-! the least machine -/
def nmA (f : Nat → Nat) (L : List Nat) : AL := (List.range L.length).map fun j => (f (L.getD j 0), j)
theorem nmA_nd {L : List Nat} (h : (L.map f).Nodup) : ((List.range L.length).map fun j => f (L.getD j 0)).Nodup := by
  have e : ((List.range L.length).map fun j => f (L.getD j 0)) = L.map f := by
    refine List.ext_getElem (by simp) fun i h1 h2 => ?_
    rw [List.getElem_map, List.getElem_range, List.getElem_map, List.getD_eq_getElem?_getD, List.getElem?_eq_getElem (by simpa using h2)]; rfl
  rw [e]; exact h
theorem pleast_spec (kn : Kn lt n rows fin K) : Mleast [mach lt rows fin] = .ok (mach lt (lrows K rows lt) (lfin K rows lt fin)) := by
  have hw := kn.wf
  obtain ⟨T, f, es, P⟩ := same_spec hw fin
  have en := numbered_spec (fin := fin) hw P
  obtain ⟨IL, FL⟩ := Lf_both P kn
  have hTl : T.length ≤ n := nd_len n P.nd P.ltn
  have hn2 := hw.n2
  have l2 := hw.l2
  have hLl := IL.len
  have ic := kn.ivc
  have hlO := FL.len
  -- the numbers
  have hcd := compD_al (em := ni) (kf := fun j => f ((Lf f rows lt).getD j 0)) (vf := id) (eDIx 1 (eOp2 (opIx true) (eV 2) (eV 6))) (eV 6) 6 [oD (mach lt rows fin), oD (ptD T f), oD (.lst ((Lf f rows lt).map ni)), none, none, none, none, none, none] (List.range (Lf f rows lt).length) [] (by
    intro j hj
    have hj := List.mem_range.mp hj
    refine ⟨?_, rfl⟩
    refine pix_of (c := [oD (mach lt rows fin), oD (ptD T f), oD (.lst ((Lf f rows lt).map ni)), none, none, none, oD (ni j), none, none]) (i := 1) rfl ?_ (IL.sub _ (getD_mem hj))
    show lift (opIx true (.lst ((Lf f rows lt).map ni)) (.int (j : Int))) = _
    rw [opIx_lst, atI_ofNat, List.getElem?_map, List.getElem?_eq_getElem hj, List.getD_eq_getElem?_getD, List.getElem?_eq_getElem hj]; rfl) (by rw [List.nil_append]; exact nmA_nd IL.nd) (by rw [List.nil_append, List.length_range]; omega)
  rw [List.nil_append] at hcd
  have hcd : compD tYes' (eDIx 1 (eOp2 (opIx true) (eV 2) (eV 6))) (eV 6) 6 [oD (mach lt rows fin), oD (ptD T f), oD (.lst ((Lf f rows lt).map ni)), none, none, none, none, none, none] ((List.range (Lf f rows lt).length).map ni) ([], []) = .ok (kyD (nmA f (Lf f rows lt)), vlO (nmA f (Lf f rows lt))) := hcd
  have hlk : ∀ j, j < (Lf f rows lt).length → ∀ x, f x = f ((Lf f rows lt).getD j 0) → lk (nmA f (Lf f rows lt)) (f x) = some j := fun j hj x e => by
    have := lk_mem (l := nmA f (Lf f rows lt)) (p := (f ((Lf f rows lt).getD j 0), j)) (by unfold nmA; rw [List.map_map]; exact nmA_nd IL.nd) (List.mem_map.mpr ⟨j, List.mem_range.mpr hj, rfl⟩)
    rw [e]; exact this
  have hrow : ∀ p q, p ∈ Lf f rows lt → q ∈ Of K rows lt → Bth lt rows fin T (Cf K rows lt) p q → ∀ k, k < lt → lk (nmA f (Lf f rows lt)) (f (stp rows p (97 + k))) = some (idK K (Of K rows lt) (stp rows q (97 + k))) := fun p q hp hq r k hk => by
    obtain ⟨i1, i2, _⟩ := kn.idx hq hk
    have hj : idK K (Of K rows lt) (stp rows q (97 + k)) < (Lf f rows lt).length := by rw [hlO]; exact i1
    have hS := (Sf_spec hw).2.1 q (ic.sub q r.2.1) k hk
    have hsim := (kn.sim hS (kn.pn (getD_mem i1)).1).mp i2
    obtain ⟨b1, b2, b3⟩ := FL.getD _ hj
    exact hlk _ hj _ ((P.sim _ (P.cl p r.1 k hk) _ b1).mpr (((r.2.2.stp (by omega) (by omega)).trans hsim).trans b3.symm))
  -- a row
  have inner : ∀ p ∈ Lf f rows lt, ∀ x7 x8 : Option O, (eFn (fTuple true) (eCons (eLc (eIt true (eOp2 (opIx true) (eOp2 (opIx true) (eV 0) (eC (.int 1))) (eV 7))) tYes' (eDIx 3 (eDIx 1 (eV 8))) 8) eNil)) [oD (mach lt rows fin), oD (ptD T f), oD (.lst ((Lf f rows lt).map ni)), dO (nmA f (Lf f rows lt)), none, none, none, oD (ni p), none] = .ok (rowD ((rowAt rows p).map fun x => (lk (nmA f (Lf f rows lt)) (f x)).getD 0)) := by
    intro p hp x7 x8
    have hpT := IL.sub p hp
    have hpn := P.ltn p hpT
    have hrl : (rowAt rows p).length = lt := (hw.row _ (hw.getrow hpn).1).1
    obtain ⟨q, hq, r⟩ := FL.left hp
    have hr := row_of (c := [oD (mach lt rows fin), oD (ptD T f), oD (.lst ((Lf f rows lt).map ni)), dO (nmA f (Lf f rows lt)), none, none, none, oD (ni p), none]) hw (fin := fin) rfl (g := eV 7) rfl hpn
    have cm := compL_mapm (eDIx 3 (eDIx 1 (eV 8))) 8 [oD (mach lt rows fin), oD (ptD T f), oD (.lst ((Lf f rows lt).map ni)), dO (nmA f (Lf f rows lt)), none, none, none, oD (ni p), none] ni (fun x => ni ((lk (nmA f (Lf f rows lt)) (f x)).getD 0)) (rowAt rows p) (fun x hx => by
      rw [row_eq hw hpn] at hx
      obtain ⟨k, hk, rfl⟩ := List.mem_map.mp hx
      have hk := List.mem_range.mp hk
      have hl := hrow p q hp hq r k hk
      have h1 := pix_of (c := [oD (mach lt rows fin), oD (ptD T f), oD (.lst ((Lf f rows lt).map ni)), dO (nmA f (Lf f rows lt)), none, none, none, oD (ni p), oD (ni (stp rows p (97 + k)))]) (i := 1) (g := eV 8) rfl rfl (P.cl p hpT k hk)
      rw [hl]
      exact dix_of (c := [oD (mach lt rows fin), oD (ptD T f), oD (.lst ((Lf f rows lt).map ni)), dO (nmA f (Lf f rows lt)), none, none, none, oD (ni p), oD (ni (stp rows p (97 + k)))]) (i := 3) (atDk_o rfl) h1 hl)
    rw [eFn_def, eCons_def, eLc_def, eLcs_def, hr, ok_bind, cm, ok_bind, List.length_map, if_pos (by omega), ok_bind, ok_bind, eNil_def, ok_bind, ok_bind, fTuple_lst, if_pos (okElT _), lift_some]
    unfold rowD
    rw [List.map_map]; rfl
  have hrows : (Lf f rows lt).map (fun p => (rowAt rows p).map fun x => (lk (nmA f (Lf f rows lt)) (f x)).getD 0) = lrows K rows lt := by
    unfold lrows
    refine FL.map_eq fun p q hp hq r => ?_
    rw [row_eq hw (P.ltn p r.1), row_eq hw (kn.pn hq).2, List.map_map, List.map_map]
    refine List.map_congr_left fun k hk => ?_
    show (lk (nmA f (Lf f rows lt)) (f (stp rows p (97 + k)))).getD 0 = _
    rw [hrow p q hp hq r k (List.mem_range.mp hk)]; rfl
  have es2 : (eIt true (eV 2)) [oD (mach lt rows fin), oD (ptD T f), oD (.lst ((Lf f rows lt).map ni)), dO (nmA f (Lf f rows lt)), none, none, none, none, none] = .ok ((Lf f rows lt).map ni) := by
    show lift (asA true (.lst _)) = _
    rw [asA_lst, if_pos (okElT _)]; rfl
  have cm2 := compL_mapm (eFn (fTuple true) (eCons (eLc (eIt true (eOp2 (opIx true) (eOp2 (opIx true) (eV 0) (eC (.int 1))) (eV 7))) tYes' (eDIx 3 (eDIx 1 (eV 8))) 8) eNil)) 7 [oD (mach lt rows fin), oD (ptD T f), oD (.lst ((Lf f rows lt).map ni)), dO (nmA f (Lf f rows lt)), none, none, none, none, none] ni (fun p => rowD ((rowAt rows p).map fun x => (lk (nmA f (Lf f rows lt)) (f x)).getD 0)) (Lf f rows lt) (fun p hp => inner p hp none none)
  have v4 : (eLc (eIt true (eV 2)) tYes' (eFn (fTuple true) (eCons (eLc (eIt true (eOp2 (opIx true) (eOp2 (opIx true) (eV 0) (eC (.int 1))) (eV 7))) tYes' (eDIx 3 (eDIx 1 (eV 8))) 8) eNil)) 7) [oD (mach lt rows fin), oD (ptD T f), oD (.lst ((Lf f rows lt).map ni)), dO (nmA f (Lf f rows lt)), none, none, none, none, none] = .ok (.lst ((lrows K rows lt).map rowD)) := by
    rw [eLc_def, eLcs_def, es2, ok_bind, cm2, ok_bind, List.length_map, if_pos (by omega), ok_bind, ← hrows, List.map_map]; rfl
  -- the finals
  have hrg : ∀ x4 x5 : Option O, (eItR (eC (.int 0)) (eFn (fLen) (eCons (eV 2) eNil))) [oD (mach lt rows fin), oD (ptD T f), oD (.lst ((Lf f rows lt).map ni)), x4, x5, none, none, none, none] = .ok ((List.range (Lf f rows lt).length).map ni) := by
    intro x4 x5
    simp -implicitDefEqProofs only [eItR_def, eC_def, eFn_def, eCons_def, eNil_def, eV_def, List.getElem?_cons_zero, List.getElem?_cons_succ, ok_bind, fLen_lst, List.length_map, lift_some, asI_zero, asI_small (i := ((Lf f rows lt).length : Int)) (by omega) (by omega)]
    rw [rangeD_nat]
  have cm5 := compL_filterm (eTru (eCall Mis_final (eCons (eV 0) (eCons (eOp2 (opIx true) (eV 2) (eV 6)) eNil)))) (eV 6) 6 [oD (mach lt rows fin), oD (ptD T f), oD (.lst ((Lf f rows lt).map ni)), dO (nmA f (Lf f rows lt)), oD (.lst ((lrows K rows lt).map rowD)), none, none, none, none] ni (fun j => decide ((Lf f rows lt).getD j 0 ∈ fin)) ni (List.range (Lf f rows lt).length) (by
    intro j hj
    have hj := List.mem_range.mp hj
    have hix : opIx true (.lst ((Lf f rows lt).map ni)) (.int (j : Int)) = some (ni ((Lf f rows lt).getD j 0)) := by
      rw [opIx_lst, atI_ofNat, List.getElem?_map, List.getElem?_eq_getElem hj, List.getD_eq_getElem?_getD, List.getElem?_eq_getElem hj]; rfl
    have hf := isfin_spec (lt := lt) (rows := rows) (fin := fin) ((Lf f rows lt).getD j 0)
    show (eTru _) [oD (mach lt rows fin), oD (ptD T f), oD (.lst ((Lf f rows lt).map ni)), dO (nmA f (Lf f rows lt)), oD (.lst ((lrows K rows lt).map rowD)), none, oD (ni j), none, none] = _
    simp -implicitDefEqProofs only [eTru_def, eCall_def, eCons_def, eNil_def, eOp2_def, eV_def, List.getElem?_cons_zero, List.getElem?_cons_succ, ok_bind, hix, lift_some, hf, noX_ok, truD_bl]) (by intro j _ _; rfl)
  have hfin : (List.range (Lf f rows lt).length).filter (fun j => decide ((Lf f rows lt).getD j 0 ∈ fin)) = lfin K rows lt fin := by
    unfold lfin
    rw [hlO]
    refine List.filter_congr fun j hj => ?_
    obtain ⟨_, _, s⟩ := FL.getD j (by rw [hlO]; exact List.mem_range.mp hj)
    rw [decide_eq_decide]
    exact s [] fun d hd => nomatch hd
  rw [hfin] at cm5
  have hfl : (lfin K rows lt fin).length ≤ 16777216 := by
    have := List.length_filter_le (fun j => decide ((Of K rows lt).getD j 0 ∈ fin)) (List.range (Of K rows lt).length)
    rw [List.length_range] at this
    have h2 : (lfin K rows lt fin).length ≤ (Of K rows lt).length := this
    omega
  have v5 : (eLc (eItR (eC (.int 0)) (eFn (fLen) (eCons (eV 2) eNil))) (eTru (eCall Mis_final (eCons (eV 0) (eCons (eOp2 (opIx true) (eV 2) (eV 6)) eNil)))) (eV 6) 6) [oD (mach lt rows fin), oD (ptD T f), oD (.lst ((Lf f rows lt).map ni)), dO (nmA f (Lf f rows lt)), oD (.lst ((lrows K rows lt).map rowD)), none, none, none, none] = .ok (.lst ((lfin K rows lt fin).map ni)) := by
    rw [eLc_def, eLcs_def, hrg, ok_bind, cm5, ok_bind, List.length_map, if_pos hfl]; rfl
  have v1 : (eCall Msame_parts (eCons (eV 0) eNil)) [oD (mach lt rows fin), none, none, none, none, none, none, none, none] = .ok (ptD T f) := by
    simp -implicitDefEqProofs only [eCall_def, eCons_def, eNil_def, eV_def, List.getElem?_cons_zero, ok_bind, es, noX_ok]
  have v2 : (eCall Mnumbered_states (eCons (eV 0) (eCons (eV 1) eNil))) [oD (mach lt rows fin), oD (ptD T f), none, none, none, none, none, none, none] = .ok (.lst ((Lf f rows lt).map ni)) := by
    simp -implicitDefEqProofs only [eCall_def, eCons_def, eNil_def, eV_def, List.getElem?_cons_zero, List.getElem?_cons_succ, ok_bind, en, noX_ok]
  have v3 : (eDcO (eItR (eC (.int 0)) (eFn (fLen) (eCons (eV 2) eNil))) tYes' (eDIx 1 (eOp2 (opIx true) (eV 2) (eV 6))) (eV 6) 6) [oD (mach lt rows fin), oD (ptD T f), oD (.lst ((Lf f rows lt).map ni)), none, none, none, none, none, none] = .ok (.dic (kyD (nmA f (Lf f rows lt))) (vlO (nmA f (Lf f rows lt)))) := by
    rw [eDcO_def, hrg, ok_bind, hcd]; rfl
  unfold Mleast Bleast
  refine ret_of ?_
  show Ret _ [oD (mach lt rows fin), none, none, none, none, none, none, none, none] _
  refine .seq ((Nx.set v1).to rfl) (.seq ((Nx.set v2).to rfl) (.seq ((Nx.setO v3).to rfl) (.seq ((Nx.set v4).to rfl) (.seq ((Nx.set v5).to rfl) (.ret ?_)))))
  show (eFn _ _) [oD (mach lt rows fin), oD (ptD T f), oD (.lst ((Lf f rows lt).map ni)), dO (nmA f (Lf f rows lt)), oD (.lst ((lrows K rows lt).map rowD)), oD (.lst ((lfin K rows lt fin).map ni)), none, none, none] = _
  simp -implicitDefEqProofs only [eFn_def, eCons_def, eNil_def, eOp2_def, eV_def, eC_def, List.getElem?_cons_zero, List.getElem?_cons_succ, ok_bind, ix0, lift_some, fTuple_lst, okEl_t, if_true]
  rfl
end
end GW

namespace GW
open PySem PySem.Spec PyProof.Rows L2 VS
section
variable {lt n : Nat} {rows : List (List Nat)} {fin : List Nat}
theorem O_getD {L : List Nat} (h : L.Nodup) {i j : Nat} (hi : i < L.length) (hj : j < L.length) (e : L.getD i 0 = L.getD j 0) : i = j := by
  rw [List.getD_eq_getElem?_getD, List.getD_eq_getElem?_getD, List.getElem?_eq_getElem hi, List.getElem?_eq_getElem hj] at e
  refine Classical.byContradiction fun hne => ?_
  rcases Nat.lt_or_gt_of_ne hne with z | z
  · exact List.pairwise_iff_getElem.mp h i j hi hj z e
  · exact List.pairwise_iff_getElem.mp h j i hj hi z e.symm
theorem Kn.reach {K : List Pr} (h : Kn lt n rows fin K) {j : Nat} (hj : j < (Of K rows lt).length) : ∃ w, Wd' lt w ∧ GW.run (lrows K rows lt) 0 w = j := by
  obtain ⟨I, cl, s, hs⟩ := h.ivo
  have ic := h.ivc
  have key := gro_spec (P := fun p => p ∈ Cf K rows lt ∧ ∃ w, Wd' lt w ∧ GW.run (lrows K rows lt) 0 w < (Of K rows lt).length ∧ (Of K rows lt).getD (GW.run (lrows K rows lt) 0 w) 0 = p) (n := n) (rep := repK K (Cf K rows lt)) (rows := rows) (lt := lt) (fun p ⟨hp, w, hw, hl, e⟩ k hk => by
    have hS := (Sf_spec h.wf).2.1 p (ic.sub p hp) k hk
    obtain ⟨r1, r2, _⟩ := repK_in (ic.cov _ hS)
    refine ⟨r1, w ++ [97 + k], fun c hc => ?_, ?_⟩
    · rcases List.mem_append.mp hc with z | z
      · exact hw c z
      · rw [List.mem_singleton.mp z]; omega
    · have hO := getD_mem hl
      rw [run_app, h.stpL hl hk, e]
      rw [e] at hO
      obtain ⟨i1, i2, _⟩ := h.idx hO hk
      refine ⟨i1, ?_⟩
      have hm := I.pr _ (getD_mem i1)
      have s1 := (h.sim hS (ic.sub _ hm)).mp i2
      have s2 := (h.sim hS (ic.sub _ r1)).mp r2
      exact ic.one _ hm _ r1 ((h.sim (ic.sub _ hm) (ic.sub _ r1)).mpr (s1.symm.trans s2))) (fun p ⟨hp, _⟩ => (Sf_spec h.wf).1.pr p (ic.sub p hp)) h.wf.n2 1200 0 [0] ⟨by simp, fun p hp => by
        rw [List.mem_singleton.mp hp]
        obtain ⟨t, ht⟩ := h.c0
        refine ⟨by rw [ht]; exact List.mem_append_left _ (List.mem_singleton.mpr rfl), [], (fun c hc => nomatch hc), h.len.2, ?_⟩
        show (Of K rows lt).getD 0 0 = 0
        rw [hs]; rfl⟩ (Nat.zero_le _) rfl (fun p hp => nomatch hp)
  obtain ⟨_, w, hw, hl, e⟩ := key.1.pr _ (getD_mem hj)
  exact ⟨w, hw, O_getD I.nd hl hj e⟩
end
section
variable {lt n : Nat} {rows : List (List Nat)} {fin : List Nat}
theorem Lstate_spec (h : Wf lt n rows) {p : Nat} (hp : p < n) {w : List Nat} (hw : Wd' lt w) (hl : w.length ≤ 1000) :
    MLstate [mach lt rows fin, .int p, .str w] = .ok (.int (run rows p w : Nat)) := by
  obtain ⟨c', e, x, hc⟩ := forL_ex 3 (sSet 1 (eOp2 (opIx true) (eOp2 (opIx true) (eOp2 (opIx true) (eV 0) (eC (.int 1))) (eV 1)) (eMS fSIndex (eC (.str [97, 98, 99])) (eCons (eV 3) eNil))))
    (fun j c => ∃ x, c = [some (.v (mach lt rows fin)), some (.v (.int (run rows p (w.take j) : Nat))), some (.v (.str w)), x]) (w.map fun x => .str [x])
    [some (.v (mach lt rows fin)), some (.v (.int p)), some (.v (.str w)), none] (by
      rintro j d c hd ⟨x, rfl⟩
      rw [List.getElem?_map] at hd
      obtain ⟨a, ha, rfl⟩ := Option.map_eq_some_iff.mp hd
      obtain ⟨hj, rfl⟩ := List.getElem?_eq_some_iff.mp ha
      have hm := hw _ (List.getElem_mem hj)
      have hr := run_lt h (w.take j) p hp (hw.take j)
      obtain ⟨k, hk⟩ : ∃ k, w[j] = 97 + k := ⟨w[j] - 97, by omega⟩
      have hkl : k < lt := by omega
      have i3 := ix3 h hr hkl
      refine ⟨_, ?_, some (.v (.str [w[j]])), rfl⟩
      rw [List.take_succ_eq_append_getElem hj, run_app, hk]
      simp -implicitDefEqProofs [-opIx_tup, ix1, ix2 h hr, i3.1, idx_let (k := k) (by have := h.l2; omega)]) ⟨none, rfl⟩
  simp -implicitDefEqProofs [MLstate, BLstate, show w.length ≤ 16777216 by omega]
  rw [e, hc]
  simp -implicitDefEqProofs
theorem run_cat (rows : List (List Nat)) (p : Nat) (u w : List Nat) : run rows p (u ++ w) = run rows (run rows p u) w := by unfold run; rw [List.foldl_append]
theorem Wd'.cat {a b : List Nat} (ha : Wd' lt a) (hb : Wd' lt b) : Wd' lt (a ++ b) := fun c hc => by
  rcases List.mem_append.mp hc with z | z
  · exact ha c z
  · exact hb c z
/-! the least machine: each state is reached, no two are alike -/

theorem Lacc_spec (h : Wf lt n rows) {w : List Nat} (hw : Wd' lt w) (hl : w.length ≤ 1000) : MLaccepts [mach lt rows fin, .str w] = .ok (.bl (decide (run rows 0 w ∈ fin))) := by
  have e : MLstate [mach lt rows fin, .int 0, .str w] = .ok (ni (run rows 0 w)) := Lstate_spec h h.n1 hw hl
  have hf := in_fin (run rows 0 w) fin
  unfold MLaccepts BLaccepts
  refine ret_of (.ret ?_)
  show (eOp2 _ _ _) [oD (mach lt rows fin), oD (.str w)] = _
  simp -implicitDefEqProofs only [eOp2_def, eCall_def, eCons_def, eNil_def, eV_def, eC_def, List.getElem?_cons_zero, List.getElem?_cons_succ, ok_bind, e, noX_ok, ixf, lift_some, hf]
/-- the least machine of the words with P -/
structure LM (lt : Nat) (R : List (List Nat)) (F : List Nat) (P : List Nat → Prop) : Prop where
  ex : ∃ (n : Nat) (rows : List (List Nat)) (fin : List Nat) (K : List Pr), Kn lt n rows fin K ∧ R = lrows K rows lt ∧ F = lfin K rows lt fin
  lang : ∀ w, Wd' lt w → (run R 0 w ∈ F ↔ P w)
theorem LM.of {K : List Pr} (kn : Kn lt n rows fin K) : LM lt (lrows K rows lt) (lfin K rows lt fin) fun w => run rows 0 w ∈ fin :=
  ⟨⟨n, rows, fin, K, kn, rfl, rfl⟩, fun w hw => kn.lang w hw⟩
variable {R R' : List (List Nat)} {F F' : List Nat} {P P' : List Nat → Prop}
theorem LM.imp (h : LM lt R F P) (k : ∀ w, Wd' lt w → (P w ↔ P' w)) : LM lt R F P' := ⟨h.ex, fun w hw => (h.lang w hw).trans (k w hw)⟩
theorem LM.uniq (h : LM lt R F P) (h' : LM lt R' F' P') (k : ∀ w, Wd' lt w → (P w ↔ P' w)) : R = R' ∧ F = F' := by
  obtain ⟨⟨n, rows, fin, K, kn, rfl, rfl⟩, hl⟩ := h
  obtain ⟨⟨n', rows', fin', K', kn', rfl, rfl⟩, hl'⟩ := h'
  refine least_same kn kn' fun w hw => ?_
  exact (kn.lang w hw).symm.trans ((hl w hw).trans ((k w hw).trans ((hl' w hw).symm.trans (kn'.lang w hw))))
theorem LM.wf (h : LM lt R F P) : Wf lt R.length R := by
  obtain ⟨⟨n, rows, fin, K, kn, rfl, rfl⟩, hl⟩ := h
  have := kn.wfL
  rwa [← this.len] at this
theorem LM.reach (h : LM lt R F P) {j : Nat} (hj : j < R.length) : ∃ w, Wd' lt w ∧ run R 0 w = j := by
  obtain ⟨⟨n, rows, fin, K, kn, rfl, rfl⟩, hl⟩ := h
  rw [kn.wfL.len] at hj
  exact kn.reach hj
theorem LM.fnl (h : LM lt R F P) : (∀ f ∈ F, f < R.length) ∧ F.Pairwise (· ≤ ·) ∧ F.length ≤ R.length ∧ F.Nodup := by
  have hl := h.wf.len
  obtain ⟨⟨n, rows, fin, K, kn, rfl, rfl⟩, _⟩ := h
  have hl := kn.wfL.len
  rw [hl]
  refine ⟨fun f hf => ((lfin_mem kn).mp hf).1, ?_, ?_, ?_⟩
  · unfold lfin
    have : (List.range (Of K rows lt).length).Pairwise (· ≤ ·) := List.pairwise_lt_range.imp fun h => Nat.le_of_lt h
    exact this.filter _
  · unfold lfin
    have := List.length_filter_le (fun j => decide ((Of K rows lt).getD j 0 ∈ fin)) (List.range (Of K rows lt).length)
    rwa [List.length_range] at this
  · unfold lfin
    exact List.nodup_range.filter _
/-- the least machine has at most as many states as any of its language -/
theorem LM.le (h : LM lt R F P) (hw : Wf lt n rows) (hP : ∀ w, Wd' lt w → (run rows 0 w ∈ fin ↔ P w)) : R.length ≤ n := by
  have hn2 := hw.n2
  obtain ⟨K, kn, _⟩ := least_spec hw (Nat.le_trans (Nat.mul_le_mul hn2 hn2) (by decide)) fin
  obtain ⟨rfl, rfl⟩ := h.uniq (LM.of kn) fun w ww => (hP w ww).symm
  rw [kn.wfL.len]; exact kn.len.1
/-- least machines as values -/
structure Op (lt : Nat) (d : D) (P : List Nat → Prop) : Prop where
  ex : ∃ R F, d = mach lt R F ∧ LM lt R F P
theorem lleast_op (hw : Wf lt n rows) (fin : List Nat) (hP : ∀ w, Wd' lt w → (run rows 0 w ∈ fin ↔ P w)) : ∃ d, MLleast [mach lt rows fin] = .ok d ∧ Op lt d P := by
  have hn2 := hw.n2
  obtain ⟨K, kn, e⟩ := least_spec hw (Nat.le_trans (Nat.mul_le_mul hn2 hn2) (by decide)) fin
  exact ⟨_, e, _, _, rfl, (LM.of kn).imp hP⟩
/-- bounded, where the language has a machine of at most 40 states -/
theorem bounded_op (hw : Wf lt n rows) (fin : List Nat) (hP : ∀ w, Wd' lt w → (run rows 0 w ∈ fin ↔ P w)) {n' : Nat} {rows' : List (List Nat)} {fin' : List Nat} (hw' : Wf lt n' rows') (hP' : ∀ w, Wd' lt w → (run rows' 0 w ∈ fin' ↔ P w)) (h40 : n' ≤ 40) : ∃ d, Mbounded [mach lt rows fin] = .ok d ∧ Op lt d P := by
  have hn2 := hw.n2
  obtain ⟨K, kn, _⟩ := least_spec hw (Nat.le_trans (Nat.mul_le_mul hn2 hn2) (by decide)) fin
  have el := pleast_spec kn
  have lm : LM lt (lrows K rows lt) (lfin K rows lt fin) P := (LM.of kn).imp hP
  have hl := lm.le hw' hP'
  refine ⟨mach lt (lrows K rows lt) (lfin K rows lt fin), ?_, _, _, rfl, lm⟩
  have hll : fLen [.tup ((lrows K rows lt).map rowD)] = some (ni (lrows K rows lt).length) := by
    rw [fLen_tup, List.length_map]
  unfold Mbounded Bbounded
  refine ret_of ?_
  show Ret _ [oD (mach lt rows fin), none] _
  refine .seq ((Nx.set (d := mach lt (lrows K rows lt) (lfin K rows lt fin)) ?_).to rfl) (.seq (.no ?_ .nil) (.ret rfl))
  · simp -implicitDefEqProofs only [eCall_def, eCons_def, eNil_def, eV_def, List.getElem?_cons_zero, ok_bind, el, noX_ok]
  · show (eB _) [oD (mach lt rows fin), oD (mach lt (lrows K rows lt) (lfin K rows lt fin))] = _
    simp -implicitDefEqProofs only [eB_def, eOp2_def, eFn_def, eCons_def, eNil_def, eV_def, eC_def, List.getElem?_cons_zero, List.getElem?_cons_succ, ok_bind, ix1, lift_some, hll, opRel_int, asB_bl]
    exact congrArg R.ok (decide_eq_false (by omega))
theorem Op.uniq {d d' : D} (o : Op lt d P) (o' : Op lt d' P') (h : ∀ w, Wd' lt w → (P w ↔ P' w)) : d = d' := by
  obtain ⟨R, F, rfl, a⟩ := o.ex
  obtain ⟨R', F', rfl, a'⟩ := o'.ex
  obtain ⟨rfl, rfl⟩ := a.uniq a' h
  rfl
theorem Op.imp {d : D} (o : Op lt d P) (h : ∀ w, Wd' lt w → (P w ↔ P' w)) : Op lt d P' := by
  obtain ⟨R, F, e, a⟩ := o.ex
  exact ⟨R, F, e, a.imp h⟩
theorem sm_machN (j : Nat) (hr : rows.length ≤ 2000) (hrl : ∀ r ∈ rows, r.length ≤ 2000) (hfl : fin.length ≤ 2000) : Sm (j + 3) (mach lt rows fin) := by
  unfold mach
  refine .tup _ (by simp) fun d hd => ?_
  simp only [List.mem_cons, List.not_mem_nil, or_false] at hd
  rcases hd with rfl | rfl | rfl
  · exact .int _
  · refine .tup _ (by rw [List.length_map]; omega) fun d hd => ?_
    obtain ⟨r, hr', rfl⟩ := List.mem_map.mp hd
    refine .tup _ (by rw [List.length_map]; have := hrl r hr'; omega) fun d hd => ?_
    obtain ⟨i, _, rfl⟩ := List.mem_map.mp hd
    exact .int _
  · refine .tup _ (by rw [List.length_map]; omega) fun d hd => ?_
    obtain ⟨i, _, rfl⟩ := List.mem_map.mp hd
    exact .int _
theorem Op.sm {d : D} (o : Op lt d P) (j : Nat) : Sm (j + 3) d := by
  obtain ⟨R, F, rfl, a⟩ := o.ex
  have hw := a.wf
  have := hw.l2
  have := hw.n2
  have := a.fnl.2.2.1
  exact sm_machN j (by omega) (fun r hr => by have := (hw.row r hr).1; omega) (by omega)
theorem Op.same {d : D} (o : Op lt d P) : MLsame [d, d] = .ok (.bl true) := Lsame_ok (o.sm 60)
theorem Op.acc {d : D} (o : Op lt d P) {w : List Nat} (hw : Wd' lt w) (hl : w.length ≤ 1000) : ∃ b, MLaccepts [d, .str w] = .ok (.bl b) ∧ (b = true ↔ P w) := by
  obtain ⟨R, F, rfl, a⟩ := o.ex
  exact ⟨_, Lacc_spec a.wf hw hl, decide_eq_true_iff.trans (a.lang w hw)⟩
end
end GW

/-! a walk explored, in plain Lean: what it goes through is of any type -/
namespace GW
open PySem PySem.Spec PyProof.Rows L2 VS
section
variable {α : Type} [DecidableEq α]
def insG (P : List α) (s : α) : List α := if s ∈ P then P else P ++ [s]
def adG (st : α → Nat → α) (b : α) : Nat → List α → List α
  | 0, P => P
  | k + 1, P => insG (adG st b k P) (st b k)
/-- the place in a list -/
def ixG (P : List α) (s : α) : Nat := P.idxOf s
/-- the row of b: places in the list as it stands at the end (it only grows at its end) -/
def rwG (st : α → Nat → α) (b : α) (P : List α) : Nat → List Nat
  | 0 => []
  | k + 1 => rwG st b P k ++ [ixG (adG st b (k + 1) P) (st b k)]
def exG (st : α → Nat → α) (d : α) (lt : Nat) : Nat → List α → List (List Nat) → List α × List (List Nat)
  | 0, P, R => (P, R)
  | k + 1, P, R => if R.length < P.length then exG st d lt k (adG st (P.getD R.length d) lt P) (R ++ [rwG st (P.getD R.length d) P lt]) else (P, R)
/-- behind a word -/
def stw (st : α → Nat → α) (b : α) (w : List Nat) : α := w.foldl (fun b c => st b (c - 97)) b
theorem stw_app (st : α → Nat → α) (b : α) (w : List Nat) (c : Nat) : stw st b (w ++ [c]) = st (stw st b w) (c - 97) := by unfold stw; rw [List.foldl_append]; rfl
theorem insG_pre (P : List α) (s : α) : (∃ t, insG P s = P ++ t) ∧ s ∈ insG P s := by
  unfold insG
  by_cases h : s ∈ P
  · rw [if_pos h]; exact ⟨⟨[], by simp⟩, h⟩
  · rw [if_neg h]; exact ⟨⟨_, rfl⟩, List.mem_append_right _ (List.mem_singleton.mpr rfl)⟩
theorem adG_pre (st : α → Nat → α) (b : α) (P : List α) : ∀ k, ∃ t, adG st b k P = P ++ t
  | 0 => ⟨[], by simp [adG]⟩
  | k + 1 => by
    obtain ⟨t, e⟩ := adG_pre st b P k
    obtain ⟨⟨u, e2⟩, _⟩ := insG_pre (adG st b k P) (st b k)
    exact ⟨t ++ u, by rw [adG, e2, e, List.append_assoc]⟩
structure IvH (OK : α → Prop) (P : List α) : Prop where
  nd : P.Nodup
  ok : ∀ b ∈ P, OK b
variable {OK : α → Prop} {st : α → Nat → α} {lt N : Nat} {d : α}
theorem IvH.ins {P : List α} (I : IvH OK P) {s : α} (h : OK s) : IvH OK (insG P s) := by
  unfold insG
  by_cases hs : s ∈ P
  · rw [if_pos hs]; exact I
  · rw [if_neg hs]
    refine ⟨List.nodup_append.mpr ⟨I.nd, by simp, fun a ha b hb e => hs (by rw [← List.mem_singleton.mp hb, ← e]; exact ha)⟩, fun b hb => ?_⟩
    rcases List.mem_append.mp hb with z | z
    · exact I.ok b z
    · rw [List.mem_singleton.mp z]; exact h
theorem IvH.ad (hst : ∀ b, OK b → ∀ k < lt, OK (st b k)) {P : List α} (I : IvH OK P) {b : α} (hb : OK b) : ∀ k, k ≤ lt → IvH OK (adG st b k P)
  | 0, _ => I
  | k + 1, h => (IvH.ad hst I hb k (by omega)).ins (hst b hb k (by omega))
theorem idxG {P : List α} {s : α} (h : s ∈ P) : P[ixG P s]? = some s := by
  unfold ixG
  have hl := List.idxOf_lt_length_of_mem h
  rw [List.getElem?_eq_getElem hl, List.getElem_idxOf hl]
theorem ixG_lt {P : List α} {s : α} (h : s ∈ P) : ixG P s < P.length := List.idxOf_lt_length_of_mem h
theorem rwG_len (b : α) (P : List α) : ∀ k, (rwG st b P k).length = k
  | 0 => rfl
  | k + 1 => by rw [rwG, List.length_append, rwG_len b P k]; rfl
theorem rwG_at (b : α) (P : List α) : ∀ k, ∀ i < k, (adG st b k P)[(rwG st b P k).getD i 0]? = some (st b i)
  | 0, i, h => absurd h (Nat.not_lt_zero i)
  | k + 1, i, h => by
    obtain ⟨⟨u, e2⟩, hm⟩ := insG_pre (adG st b k P) (st b k)
    have e3 : adG st b (k + 1) P = adG st b k P ++ u := e2
    by_cases z : i < k
    · have ih := rwG_at b P k i z
      have : (rwG st b P (k + 1)).getD i 0 = (rwG st b P k).getD i 0 := by
        rw [rwG, List.getD_eq_getElem?_getD, List.getElem?_append_left (by rw [rwG_len]; exact z), ← List.getD_eq_getElem?_getD]
      rw [this, e3, List.getElem?_append_left (List.getElem?_eq_some_iff.mp ih).1]
      exact ih
    · have : i = k := by omega
      subst this
      have : (rwG st b P (i + 1)).getD i 0 = ixG (adG st b (i + 1) P) (st b i) := by
        rw [rwG, List.getD_eq_getElem?_getD, List.getElem?_append_right (by rw [rwG_len]; exact Nat.le_refl _), rwG_len, Nat.sub_self]; rfl
      rw [this]
      exact idxG hm
theorem rwG_lt (b : α) (P : List α) (k : Nat) : ∀ x ∈ rwG st b P k, x < (adG st b k P).length := fun x hx => by
  obtain ⟨i, hi, rfl⟩ := List.getElem_of_mem hx
  rw [rwG_len] at hi
  have := rwG_at (st := st) b P k i hi
  have e : (rwG st b P k).getD i 0 = (rwG st b P k)[i] := by
    rw [List.getD_eq_getElem?_getD, List.getElem?_eq_getElem]; rfl
  rw [e] at this
  exact (List.getElem?_eq_some_iff.mp this).1
/-- what stands between two turns of the outer loop -/
structure IvX (OK : α → Prop) (st : α → Nat → α) (d : α) (lt : Nat) (P : List α) (R : List (List Nat)) : Prop where
  q : IvH OK P
  hd : P[0]? = some d
  le : R.length ≤ P.length
  row : ∀ (j : Nat) (r : List Nat), R[j]? = some r → r.length = lt ∧ (∀ x ∈ r, x < P.length) ∧ ∀ i < lt, P[r.getD i 0]? = some (st (P.getD j d) i)
theorem IvX.turn (hst : ∀ b, OK b → ∀ k < lt, OK (st b k)) {P : List α} {R : List (List Nat)} (I : IvX OK st d lt P R) (h : R.length < P.length) : IvX OK st d lt (adG st (P.getD R.length d) lt P) (R ++ [rwG st (P.getD R.length d) P lt]) := by
  have hb : P[R.length]? = some (P.getD R.length d) := by rw [List.getD_eq_getElem?_getD, List.getElem?_eq_getElem h]; rfl
  generalize P.getD R.length d = b at hb
  have hbl := I.q.ok b (List.mem_of_getElem? hb)
  obtain ⟨t, e⟩ := adG_pre st b P lt
  have hat : ∀ j, j < P.length → (adG st b lt P).getD j d = P.getD j d := fun j hj => by
    rw [e, List.getD_eq_getElem?_getD, List.getElem?_append_left hj, ← List.getD_eq_getElem?_getD]
  refine ⟨I.q.ad hst hbl lt (Nat.le_refl _), ?_, ?_, fun j r hr => ?_⟩
  · rw [e, List.getElem?_append_left (by omega)]; exact I.hd
  · rw [e, List.length_append, List.length_append, List.length_singleton]; omega
  · by_cases hj : j < R.length
    · rw [List.getElem?_append_left hj] at hr
      obtain ⟨a1, a2, a3⟩ := I.row j r hr
      refine ⟨a1, fun x hx => by rw [e, List.length_append]; have := a2 x hx; omega, fun i hi => ?_⟩
      have := a3 i hi
      rw [hat j (by omega), e, List.getElem?_append_left (List.getElem?_eq_some_iff.mp this).1]
      exact this
    · rw [List.getElem?_append_right (by omega)] at hr
      have hj0 : j = R.length := by
        have := (List.getElem?_eq_some_iff.mp hr).1
        simp at this
        omega
      subst hj0
      rw [Nat.sub_self] at hr
      cases hr
      refine ⟨rwG_len _ _ _, rwG_lt b P lt, fun i hi => ?_⟩
      have : (adG st b lt P).getD R.length d = b := by rw [hat _ h, List.getD_eq_getElem?_getD, hb]; rfl
      rw [this]
      exact rwG_at b P lt i hi
/-- what must hold of a walk: the start, the steps, and how many there are -/
structure Wk (OK : α → Prop) (st : α → Nat → α) (d : α) (lt N : Nat) : Prop where
  l1 : 1 ≤ lt
  l2 : lt ≤ 3
  d0 : OK d
  st : ∀ b, OK b → ∀ k < lt, OK (st b k)
  few : ∀ P : List α, P.Nodup → (∀ b ∈ P, OK b) → P.length ≤ N
theorem Wk.iv0 (k : Wk OK st d lt N) : IvX OK st d lt [d] [] :=
  ⟨⟨by simp, fun b hb => by rw [List.mem_singleton.mp hb]; exact k.d0⟩, rfl, Nat.zero_le _, fun j r hr => by cases hr⟩
/-- the end: a machine that runs along -/
theorem Wk.fin (w : Wk OK st d lt N) : ∀ (k : Nat) (P : List α) (R : List (List Nat)), IvX OK st d lt P R → N < k + R.length → IvX OK st d lt (exG st d lt k P R).1 (exG st d lt k P R).2 ∧ (exG st d lt k P R).1.length = (exG st d lt k P R).2.length
  | 0, P, R, I, hk => absurd (Nat.le_trans I.le (w.few P I.q.nd I.q.ok)) (by omega)
  | k + 1, P, R, I, hk => by
    rw [exG]
    by_cases h : R.length < P.length
    · rw [if_pos h]
      exact w.fin k _ _ (I.turn w.st h) (by rw [List.length_append, List.length_singleton]; omega)
    · rw [if_neg h]
      exact ⟨I, Nat.le_antisymm (Nat.not_lt.mp h) I.le⟩
theorem IvX.wf (w : Wk OK st d lt N) (hN : N ≤ 1100) {P : List α} {R : List (List Nat)} (I : IvX OK st d lt P R) (he : P.length = R.length) : Wf lt P.length R := by
  have := w.few P I.q.nd I.q.ok
  refine ⟨w.l1, w.l2, (List.getElem?_eq_some_iff.mp I.hd).1, by omega, he.symm, fun r hr => ?_⟩
  obtain ⟨j, hj, e⟩ := List.getElem_of_mem hr
  obtain ⟨a1, a2, _⟩ := I.row j r (by rw [List.getElem?_eq_getElem hj, e])
  exact ⟨a1, a2⟩
theorem IvX.run {P : List α} {R : List (List Nat)} (I : IvX OK st d lt P R) (he : P.length = R.length) : ∀ (w : List Nat) (j : Nat) (b : α), Wd' lt w → P[j]? = some b → P[GW.run R j w]? = some (stw st b w)
  | [], j, b, _, h => h
  | c :: w, j, b, hw, h => by
    have hj := (List.getElem?_eq_some_iff.mp h).1
    have hjR : j < R.length := by omega
    obtain ⟨c1, c2⟩ := hw c List.mem_cons_self
    obtain ⟨_, _, a3⟩ := I.row j R[j] (List.getElem?_eq_getElem hjR)
    have hs := a3 (c - 97) (by omega)
    have e1 : P.getD j d = b := by rw [List.getD_eq_getElem?_getD, h]; rfl
    have e2 : R[j].getD (c - 97) 0 = stp R j c := by
      unfold stp rowAt
      rw [show R.getD j [] = R[j] from by rw [List.getD_eq_getElem?_getD, List.getElem?_eq_getElem hjR]; rfl]
    rw [e1, e2] at hs
    exact IvX.run I he w (stp R j c) _ (fun d hd => hw d (List.mem_cons_of_mem _ hd)) hs
abbrev exW (st : α → Nat → α) (d : α) (lt : Nat) : List α × List (List Nat) := exG st d lt 1101 [d] []
def finG (P : List α) (d : α) (c : α → Bool) : List Nat := (List.range P.length).filter fun j => c (P.getD j d)
/-- the language of the machine of a walk -/
theorem Wk.lang (k : Wk OK st d lt N) (hN : N ≤ 1100) (c : α → Bool) : Wf lt (exW st d lt).1.length (exW st d lt).2 ∧ (exW st d lt).1.length ≤ N ∧ ∀ w, Wd' lt w → (GW.run (exW st d lt).2 0 w ∈ finG (exW st d lt).1 d c ↔ c (stw st d w) = true) := by
  obtain ⟨I, he⟩ := k.fin 1101 [d] [] k.iv0 (by simp; omega)
  have hl := k.few _ I.q.nd I.q.ok
  refine ⟨I.wf k hN he, hl, fun w hw => ?_⟩
  have hr := I.run he w 0 d hw I.hd
  unfold finG
  rw [List.mem_filter, List.mem_range]
  have e : (exW st d lt).1.getD (GW.run (exW st d lt).2 0 w) d = stw st d w := by
    rw [List.getD_eq_getElem?_getD]
    show ((exG st d lt 1101 [d] []).1[GW.run (exG st d lt 1101 [d] []).2 0 w]?).getD d = _
    rw [hr]; rfl
  rw [e]
  exact ⟨fun h => h.2, fun h => ⟨(List.getElem?_eq_some_iff.mp hr).1, h⟩⟩
/-- what is reached by a word -/
def Rch (st : α → Nat → α) (d : α) (lt : Nat) (b : α) : Prop := ∃ w, Wd' lt w ∧ b = stw st d w
theorem rch_d : Rch st d lt d := ⟨[], (fun c hc => nomatch hc), rfl⟩
theorem rch_st (b : α) (h : Rch st d lt b) (k : Nat) (hk : k < lt) : Rch st d lt (st b k) := by
  obtain ⟨w, hw, rfl⟩ := h
  refine ⟨w ++ [97 + k], hw.cat fun c hc => by rw [List.mem_singleton.mp hc]; omega, ?_⟩
  rw [stw_app, Nat.add_sub_cancel_left]
end
end GW

/-! explored(walk, letters) where the walk goes through masks -/
namespace VS
open PySem PySem.Spec PyProof.Rows L2
theorem eAtt_of {tab : List Str} {f nm : Str} {g : Env → R D} {c : Env} {fs : List Str} {ds : List D} {d : D} (h : g c = .ok (.obj nm fs ds)) (hm : nm ∈ tab) (hh : fs.head? ≠ some ("!" : Str)) (hf : fget f fs ds = some d) : eAtt tab f g c = .ok d := by
  unfold eAtt
  rw [h, ok_bind]
  show (if nm ∈ tab ∧ fs.head? ≠ some ("!" : Str) then lift (fget f fs ds) else R.stuck) = _
  rw [if_pos ⟨hm, hh⟩, hf]; rfl
theorem eMth_of {tab : List (Str × (List D → R D))} {m nm : Str} {go : Env → R D} {gs : Env → R (List D)} {c : Env} {fs : List Str} {vs : List D} {M : List D → R D} (h : go c = .ok (.obj nm fs vs)) (hh : fs.head? ≠ some ("!" : Str)) (hm : m ∉ fs) (hl : tab.lookup nm = some M) : eMth tab m go gs c = gs c >>= fun ds => noX (M (.obj nm fs vs :: ds)) := by
  unfold eMth
  rw [h, noX_ok, ok_bind]
  show (if fs.head? ≠ some ("!" : Str) ∧ m ∉ fs then (match tab.lookup nm with | some M => gs c >>= fun ds => noX (M (.obj nm fs vs :: ds)) | none => R.stuck) else R.stuck) = _
  rw [if_pos ⟨hh, hm⟩, hl]
end VS
namespace GW
open PySem PySem.Spec PyProof.Rows L2 VS
section
theorem own_len {α : Type} {f : α → D} {l : List α} {i : Nat} {c : VS.Env} (h : c[i]? = some (some (.lst (l.map fun b => O.v (f b))))) : (eFn (fLen) (eCons (eL i) eNil)) c = .ok (ni l.length) := by
  rw [eFn_def, eCons_def, eL_def, h]
  show lift (fLen [(O.lst (l.map fun a => O.v (f a))).toD]) = _
  rw [toD_lst, fLen_lst, List.length_map, List.length_map]; rfl
theorem own_d {α : Type} {f : α → D} (l : List α) : (O.lst (l.map fun b => O.v (f b))).toD = .lst (l.map f) := by
  rw [toD_lst, List.map_map]
  congr 1
theorem own_app {α : Type} {f : α → D} {l : List α} {i : Nat} {c : VS.Env} {g : VS.Env → R D} {b : α} (h : c[i]? = some (some (.lst (l.map fun b => O.v (f b))))) (hg : g c = .ok (f b)) (hl : l.length ≤ 100000) : Nx (sApp i g) c (c.set i (some (.lst ((l ++ [b]).map fun b => O.v (f b))))) := by
  unfold Nx
  rw [sApp_def, show atL i c = some (l.map fun a => O.v (f a)) from by rw [atL_def, h], lift_some, st_ok, hg, st_ok, List.length_map, if_pos (by omega), List.map_append]; rfl
theorem flats_row : ∀ R : List (List Nat), D.flats (R.map rowD) = true
  | [] => by simp
  | r :: R => by
    rw [List.map_cons, flats_cons, flats_row R]
    have : D.flat (rowD r) = true := by unfold rowD; rw [flat_tup, flats_ni]
    rw [this]; rfl
theorem tup_own {α : Type} {f : α → D} {l : List α} {i : Nat} {c : VS.Env} (h : c[i]? = some (some (.lst (l.map fun b => O.v (f b))))) (hf : D.flats (l.map f) = true) : (eFn (fTuple false) (eCons (eL i) eNil)) c = .ok (.tup (l.map f)) := by
  rw [eFn_def, eCons_def, eL_def, h]
  show lift (fTuple false [(O.lst (l.map fun a => O.v (f a))).toD]) = _
  rw [own_d, fTuple_lst, if_pos (by rw [okEl_f]; exact hf)]; rfl
theorem lt_nat' (i j : Nat) : opRel (fun i j => decide (i < j)) (ni i) (ni j) = some (.bl (decide (i < j))) := by
  rw [opRel_int]
  exact congrArg (fun b => some (D.bl b)) (by rw [Bool.eq_iff_iff, decide_eq_true_iff, decide_eq_true_iff]; omega)
theorem gt_nat' (i j : Nat) : opRel (fun i j => decide (j < i)) (ni i) (ni j) = some (.bl (decide (j < i))) := by
  rw [opRel_int]
  exact congrArg (fun b => some (D.bl b)) (by rw [Bool.eq_iff_iff, decide_eq_true_iff, decide_eq_true_iff]; omega)
abbrev oM (r : List Nat) : Option O := some (.lst (r.map fun b => O.v (ni b)))
abbrev oR (R : List (List Nat)) : Option O := some (.lst (R.map fun b => O.v (rowD b)))
theorem ixo_at {α : Type} {f : α → D} {l : List α} {i a : Nat} {b : α} {c : VS.Env} {g : VS.Env → R D} (h : c[i]? = some (some (.lst (l.map fun b => O.v (f b))))) (hg : g c = .ok (ni a)) (ha : l[a]? = some b) : (eIxo i g) c = .ok (f b) := by
  rw [eIxo_def, h]
  show (g c >>= fun k => lift (ixO (.lst (l.map fun b => O.v (f b))) k)) = _
  rw [hg, ok_bind]
  show lift (ixO (.lst _) (.int (a : Int))) = _
  rw [ixO_lst, atI_ofNat, List.getElem?_map, ha]; rfl
/-! the numbers of the masks -/
def nmG (P : List Nat) : AL := (List.range P.length).map fun j => (P.getD j 0, j)
theorem nmG_fst (P : List Nat) : (nmG P).map (·.1) = P := by
  refine List.ext_getElem (by simp [nmG]) fun i h1 h2 => ?_
  simp [nmG, List.getD_eq_getElem?_getD, List.getElem?_eq_getElem h2]
theorem nmG_len (P : List Nat) : (nmG P).length = P.length := by unfold nmG; rw [List.length_map, List.length_range]
theorem nmG_app (P : List Nat) (s : Nat) : nmG (P ++ [s]) = nmG P ++ [(s, P.length)] := by
  unfold nmG
  rw [List.length_append, List.length_singleton, List.range_succ, List.map_append]
  congr 1
  · refine List.map_congr_left fun j hj => ?_
    rw [List.getD_eq_getElem?_getD, List.getElem?_append_left (List.mem_range.mp hj), ← List.getD_eq_getElem?_getD]
  · rw [List.map_cons, List.map_nil, List.getD_eq_getElem?_getD, List.getElem?_append_right (Nat.le_refl _), Nat.sub_self]; rfl
theorem nmG_lk {P : List Nat} (hn : P.Nodup) {s : Nat} (h : s ∈ P) : lk (nmG P) s = some (ixG P s) := by
  have hl := ixG_lt h
  have e : P.getD (ixG P s) 0 = s := by rw [List.getD_eq_getElem?_getD, idxG h]; rfl
  have := lk_mem (l := nmG P) (p := (P.getD (ixG P s) 0, ixG P s)) (by rw [nmG_fst]; exact hn) (List.mem_map.mpr ⟨_, List.mem_range.mpr hl, rfl⟩)
  rw [e] at this
  exact this
theorem din_al {l : AL} {i : Nat} {c : VS.Env} {gk : VS.Env → R D} {x : Nat} (h : c[i]? = some (dO l)) (hk : gk c = .ok (ni x)) : (eB (eDIn true i gk)) c = .ok (!decide (x ∈ l.map (·.1))) := by
  have ha : atDk i c = some (kyD l, vlO l) := atDk_o h
  rw [eB_def, eDIn_def, ha]
  show ((gk c >>= _) >>= _) = _
  rw [hk, ok_bind, show D.key (ni x) = some (.inl (x : Int)) from rfl, lift_some, ok_bind, hasK_al]
  have : (l.any fun p => p.1 == x) = decide (x ∈ l.map (·.1)) := by
    rw [Bool.eq_iff_iff, List.any_eq_true, decide_eq_true_iff, List.mem_map]
    exact ⟨fun ⟨p, hp, e⟩ => ⟨p, hp, by simpa using e⟩, fun ⟨p, hp, e⟩ => ⟨p, hp, by simpa using e⟩⟩
  rw [this]; rfl
/-! the loops -/
abbrev xB := eMth [("BackWalk", MBackWalk_begin)] "begin"
abbrev xF := eMth [("BackWalk", MBackWalk_follow)] "follow"
abbrev xE := eMth [("BackWalk", MBackWalk_ends)] "ends"
abbrev bodyX : VS.Env → Rs := (sSeq (sSet 7 (xF (eV 0) (eCons (eIxo 2 (eFn (fLen) (eCons (eL 4) eNil))) (eCons (eV 6) eNil))))
    (sSeq (sIf (eB (eDIn true 3 (eV 7)))
    (sSeq (sDSet 3 (eV 7) (eFn (fLen) (eCons (eL 2) eNil)))
    (sApp 2 (eV 7)))
    sNil)
    (sApp 5 (eDIx 3 (eV 7)))))
abbrev eX (W lt' : D) (P : List Nat) (R : List (List Nat)) (r : Option O) (y6 y7 x8 x9 : Option O) : VS.Env := [oD W, oD lt', oM P, dO (nmG P), oR R, r, y6, y7, x8, x9]
/-- what the methods of a walk do -/
structure Ms (W : D) (OK : Nat → Prop) (st : Nat → Nat → Nat) (d lt : Nat) (en : Nat → Bool) : Prop where
  hb : ∀ c : VS.Env, c[0]? = some (oD W) → (xB (eV 0) eNil) c = .ok (ni d)
  hf : ∀ (c : VS.Env) (g1 g2 : VS.Env → R D) (b i : Nat), c[0]? = some (oD W) → g1 c = .ok (ni b) → OK b → g2 c = .ok (ni i) → i < lt → (xF (eV 0) (eCons g1 (eCons g2 eNil))) c = .ok (ni (st b i))
  he : ∀ (c : VS.Env) (g : VS.Env → R D) (b : Nat), c[0]? = some (oD W) → g c = .ok (ni b) → OK b → (xE (eV 0) (eCons g eNil)) c = .ok (.bl (en b))
variable {W : D} {OK : Nat → Prop} {st : Nat → Nat → Nat} {d lt N : Nat} {en : Nat → Bool}
theorem turnX (w : Wk OK st d lt N) (hN : N ≤ 1000) (m : Ms W OK st d lt en) {P : List Nat} (I : IvH OK P) {R : List (List Nat)} {b : Nat} (hb : P[R.length]? = some b) {k : Nat} (hk : k < lt) (row : List Nat) (hrl : row.length ≤ 100) (y7 x8 x9 : Option O) :
    ∃ z7, Nx bodyX (eX W (ni lt) P R (oM row) (oD (ni k)) y7 x8 x9) (eX W (ni lt) (insG P (st b k)) R (oM (row ++ [ixG (insG P (st b k)) (st b k)])) (oD (ni k)) z7 x8 x9) := by
  have hbl := I.ok b (List.mem_of_getElem? hb)
  have hl := w.few P I.nd I.ok
  have I2 := I.ins (w.st b hbl k hk)
  have hset : Nx (sSet 7 (xF (eV 0) (eCons (eIxo 2 (eFn (fLen) (eCons (eL 4) eNil))) (eCons (eV 6) eNil)))) (eX W (ni lt) P R (oM row) (oD (ni k)) y7 x8 x9) (eX W (ni lt) P R (oM row) (oD (ni k)) (oD (ni (st b k))) x8 x9) := by
    have e4 := own_len (f := rowD) (l := R) (i := 4) (c := eX W (ni lt) P R (oM row) (oD (ni k)) y7 x8 x9) rfl
    exact (Nx.set (m.hf _ _ _ b k rfl (ixo_at (l := P) (f := ni) rfl e4 hb) hbl (eV_of rfl) hk)).to rfl
  generalize st b k = s at *
  have ht : (eB (eDIn true 3 (eV 7))) (eX W (ni lt) P R (oM row) (oD (ni k)) (oD (ni s)) x8 x9) = .ok (!decide (s ∈ P)) := by
    have := din_al (l := nmG P) (i := 3) (c := eX W (ni lt) P R (oM row) (oD (ni k)) (oD (ni s)) x8 x9) (gk := eV 7) (x := s) rfl rfl
    rwa [nmG_fst] at this
  have hfin : ∀ P' : List Nat, P'.Nodup → s ∈ P' → P'.length ≤ 2000 → Nx (sApp 5 (eDIx 3 (eV 7))) (eX W (ni lt) P' R (oM row) (oD (ni k)) (oD (ni s)) x8 x9) (eX W (ni lt) P' R (oM (row ++ [ixG P' s])) (oD (ni k)) (oD (ni s)) x8 x9) := fun P' hn hm hl => by
    exact (own_app (f := ni) (l := row) rfl (dix_of (l := nmG P') (p := s) (atDk_o rfl) rfl (nmG_lk hn hm)) (by omega)).to rfl
  refine ⟨oD (ni s), ?_⟩
  by_cases h : s ∈ P
  · have e : insG P s = P := by unfold insG; rw [if_pos h]
    rw [e]
    exact .seq hset (.seq (.no (ht.trans (by rw [decide_eq_true h]; rfl)) .nil) (hfin P I.nd h (by omega)))
  · have e : insG P s = P ++ [s] := by unfold insG; rw [if_neg h]
    rw [e] at I2 ⊢
    refine .seq hset (.seq (.yes (ht.trans (by rw [decide_eq_false h]; rfl)) (.seq (c' := [oD W, oD (ni lt), oM P, dO (nmG (P ++ [s])), oR R, oM row, oD (ni k), oD (ni s), x8, x9]) ?_ ?_)) (hfin _ I2.nd (List.mem_append_right _ (List.mem_singleton.mpr rfl)) (by rw [List.length_append, List.length_singleton]; omega)))
    · rw [nmG_app]
      exact (dset_new (l := nmG P) (p := s) (v := P.length) rfl rfl (own_len (f := ni) (l := P) rfl) (by rw [nmG_fst]; exact h) (by rw [nmG_len]; omega)).to rfl
    · exact (own_app (f := ni) (l := P) rfl rfl (by omega)).to rfl
theorem forX (w : Wk OK st d lt N) (hN : N ≤ 1000) (m : Ms W OK st d lt en) {P : List Nat} (I : IvH OK P) {R : List (List Nat)} {b : Nat} (hb : P[R.length]? = some b) (y6 y7 x8 x9 : Option O) :
    ∃ z6 z7, Nx (sFor 6 (eItR (eC (.int 0)) (eV 1)) bodyX) (eX W (ni lt) P R (oM []) y6 y7 x8 x9) (eX W (ni lt) (adG st b lt P) R (oM (rwG st b P lt)) z6 z7 x8 x9) := by
  have hbl := I.ok b (List.mem_of_getElem? hb)
  have hlt := w.l2
  obtain ⟨c', main, z6, z7, rfl⟩ := forL_rg 6 bodyX (lt : Int) (fun j c => ∃ z6 z7, c = eX W (ni lt) (adG st b j P) R (oM (rwG st b P j)) z6 z7 x8 x9) (eX W (ni lt) P R (oM []) y6 y7 x8 x9) (by
    rintro j c hj ⟨z6, z7, rfl⟩
    have I1 := I.ad w.st hbl j (by omega)
    obtain ⟨t, e⟩ := adG_pre st b P j
    have hb1 : (adG st b j P)[R.length]? = some b := by rw [e, List.getElem?_append_left (List.getElem?_eq_some_iff.mp hb).1]; exact hb
    obtain ⟨z, hz⟩ := turnX w hN m I1 hb1 (k := j) (by omega) (rwG st b P j) (by rw [rwG_len]; omega) z7 x8 x9
    exact ⟨_, hz, oD (ni j), z, rfl⟩) ⟨y6, y7, rfl⟩
  refine ⟨z6, z7, (Nx.for (ds := rangeD 0 (lt : Int)) ?_ main).to rfl⟩
  simp -implicitDefEqProofs only [eItR_def, eV_def, eC_def, List.getElem?_cons_zero, List.getElem?_cons_succ, ok_bind, lift_some, asI_zero, asI_small (i := (lt : Int)) (by omega) (by omega)]
abbrev whX : VS.Env → R Bool := (eB (eOp2 (opRel fun i j => decide (i < j)) (eFn (fLen) (eCons (eL 4) eNil)) (eFn (fLen) (eCons (eL 2) eNil))))
abbrev wbX : VS.Env → Rs := (sSeq (sSetO 5 (eFnO fLstO eNil))
    (sSeq (sFor 6 (eItR (eC (.int 0)) (eV 1)) bodyX)
    (sSeq (sIf (eB (eOp2 (opRel fun i j => decide (j < i)) (eFn (fLen) (eCons (eL 2) eNil)) (eC (.int 1000))))
    sNo
    sNil)
    (sApp 4 (eFn (fTuple false) (eCons (eL 5) eNil))))))
theorem whileX (w : Wk OK st d lt N) (hN : N ≤ 1000) (m : Ms W OK st d lt en) (x5 x6 x7 x8 x9 : Option O) :
    ∃ y5 y6 y7, Nx (whileL whX wbX wN) (eX W (ni lt) [d] [] x5 x6 x7 x8 x9) (eX W (ni lt) (exW st d lt).1 (exW st d lt).2 y5 y6 y7 x8 x9) := by
  generalize hT : exW st d lt = T
  obtain ⟨c', h, y5, y6, y7, rfl⟩ := whileL_ex whX wbX
    (fun mm c => ∃ P R y5 y6 y7, c = eX W (ni lt) P R y5 y6 y7 x8 x9 ∧ IvX OK st d lt P R ∧ R.length + mm = 1101 ∧ exG st d lt mm P R = T)
    (fun c => ∃ y5 y6 y7, c = eX W (ni lt) T.1 T.2 y5 y6 y7 x8 x9)
    (by
      rintro mm c ⟨P, R, y5, y6, y7, rfl, I, hmm, hsr⟩
      have hc : whX (eX W (ni lt) P R y5 y6 y7 x8 x9) = .ok (decide (R.length < P.length)) := by
        have e1 := own_len (f := rowD) (l := R) (i := 4) (c := eX W (ni lt) P R y5 y6 y7 x8 x9) rfl
        have e2 := own_len (f := ni) (l := P) (i := 2) (c := eX W (ni lt) P R y5 y6 y7 x8 x9) rfl
        show (eB _) _ = _
        rw [eB_def, eOp2_def, e1, ok_bind, e2, ok_bind, lt_nat', lift_some, ok_bind, asB_bl, lift_some]
      have hPl := w.few P I.q.nd I.q.ok
      by_cases h : R.length < P.length
      · have hb : P[R.length]? = some (P.getD R.length d) := by rw [List.getD_eq_getElem?_getD, List.getElem?_eq_getElem h]; rfl
        obtain ⟨z6, z7, hf⟩ := forX w hN m I.q hb y6 y7 x8 x9
        obtain ⟨k, rfl⟩ : ∃ k, mm = k + 1 := ⟨mm - 1, by omega⟩
        rw [exG, if_pos h] at hsr
        have I2 := I.turn w.st h
        have hl2 := w.few _ I2.q.nd I2.q.ok
        generalize adG st (P.getD R.length d) lt P = P2 at *
        generalize rwG st (P.getD R.length d) P lt = rr at *
        refine .inr ⟨hc.trans (by rw [decide_eq_true h]), k, _, Nat.lt_succ_self k, Nx.seq (c' := eX W (ni lt) P R (oM []) y6 y7 x8 x9) rfl (.seq hf (.seq (.no ?_ .nil) ((own_app (f := rowD) (l := R) (b := rr) rfl ?_ (by have := I.le; omega)).to rfl))), P2, R ++ [rr], oM rr, z6, z7, rfl, I2, by rw [List.length_append, List.length_singleton]; omega, hsr⟩
        · have e2 := own_len (f := ni) (l := P2) (i := 2) (c := eX W (ni lt) P2 R (oM rr) z6 z7 x8 x9) rfl
          rw [eB_def, eOp2_def, e2, ok_bind, eC_def, ok_bind, show (D.int 1000) = ni 1000 from rfl, gt_nat', lift_some, ok_bind, asB_bl, lift_some, decide_eq_false (by omega)]
        · exact tup_own (f := ni) (l := rr) rfl (flats_ni rr)
      · refine .inl ⟨hc.trans (by rw [decide_eq_false h]), y5, y6, y7, ?_⟩
        have : exG st d lt mm P R = (P, R) := by
          cases mm with
          | zero => rfl
          | succ k => rw [exG, if_neg h]
        rw [this] at hsr
        subst hsr
        rfl)
    wN 1101 (eX W (ni lt) [d] [] x5 x6 x7 x8 x9) (by decide) ⟨[d], [], x5, x6, x7, rfl, w.iv0, rfl, hT⟩
  exact ⟨y5, y6, y7, h⟩
theorem explored_spec (w : Wk OK st d lt N) (hN : N ≤ 1000) (m : Ms W OK st d lt en) : Mexplored [W, ni lt] = .ok (mach lt (exW st d lt).2 (finG (exW st d lt).1 d en)) := by
  obtain ⟨y5, y6, y7, hw⟩ := whileX w hN m none none none none none
  obtain ⟨I, hEq⟩ := w.fin 1101 [d] [] w.iv0 (by simp; omega)
  have hl30 := (w.lang (by omega) (fun _ => true)).2.1
  have I : IvX OK st d lt (exW st d lt).1 (exW st d lt).2 := I
  generalize hT : exW st d lt = T at *
  obtain ⟨P, R⟩ := T
  have hl30 : P.length ≤ N := hl30
  have I : IvX OK st d lt P R := I
  unfold Mexplored Bexplored
  refine ret_of ?_
  show Ret _ [oD W, oD (ni lt), none, none, none, none, none, none, none, none] _
  refine .seq (c' := [oD W, oD (ni lt), oM [d], none, none, none, none, none, none, none]) ?_ (.seq (c' := [oD W, oD (ni lt), oM [d], dO (nmG [d]), none, none, none, none, none, none]) ?_ (.seq (c' := eX W (ni lt) [d] [] none none none none none) rfl (.seq hw (.seq ((Nx.set (d := .lst ((finG P d en).map ni)) ?_).to rfl) (.ret ?_)))))
  · unfold Nx
    have e : (eMth [("BackWalk", MBackWalk_begin)] "begin" (eV 0) eNil) _ = _ := m.hb [oD W, oD (ni lt), none, none, none, none, none, none, none, none] rfl
    rw [sSetO_def, eFnO_def, eCons_def, e]; rfl
  · unfold Nx
    have ea : (eIxo 2 (eC (.int 0))) [oD W, oD (ni lt), oM [d], none, none, none, none, none, none, none] = .ok (ni d) := ixo_at (l := [d]) (f := ni) (a := 0) rfl rfl rfl
    rw [sSetO_def, eD1x_def, ea, ok_bind, eC_def, ok_bind]; rfl
  · have er : (eItR (eC (.int 0)) (eFn (fLen) (eCons (eL 2) eNil))) (eX W (ni lt) P R y5 y6 y7 none none) = .ok ((List.range P.length).map ni) := by
      have e2 := own_len (f := ni) (l := P) (i := 2) (c := eX W (ni lt) P R y5 y6 y7 none none) rfl
      rw [eItR_def, eC_def, ok_bind, asI_zero, lift_some, ok_bind, e2, ok_bind, asI_small (i := (P.length : Int)) (by omega) (by omega), lift_some, ok_bind, rangeD_nat]
    have cm := compL_filterm (eTru (xE (eV 0) (eCons (eIxo 2 (eV 9)) eNil))) (eV 9) 9 (eX W (ni lt) P R y5 y6 y7 none none) ni (fun j => en (P.getD j d)) ni (List.range P.length) (fun j hj => by
      have hj := List.mem_range.mp hj
      have hb : P[j]? = some (P.getD j d) := by rw [List.getD_eq_getElem?_getD, List.getElem?_eq_getElem hj]; rfl
      show (eTru _) (eX W (ni lt) P R y5 y6 y7 none (oD (ni j))) = _
      rw [eTru_def, m.he _ _ (P.getD j d) rfl (ixo_at (l := P) (f := ni) rfl (eV_of rfl) hb) (I.q.ok _ (List.mem_of_getElem? hb))]; rfl) (fun j _ _ => rfl)
    show (eLc _ _ _ 9) (eX W (ni lt) P R y5 y6 y7 none none) = _
    have hfl : ((List.range P.length).filter fun j => en (P.getD j d)).length ≤ N := Nat.le_trans (List.length_filter_le _ _) (by rw [List.length_range]; exact hl30)
    rw [eLc_def, eLcs_def, er, ok_bind, cm, ok_bind, List.length_map, if_pos (by omega)]; rfl
  · show (eFn fTup _) [oD W, oD (ni lt), oM P, dO (nmG P), oR R, y5, y6, y7, oD (.lst ((finG P d en).map ni)), none] = _
    have e1 := tup_own (f := rowD) (l := R) (i := 4) (c := [oD W, oD (ni lt), oM P, dO (nmG P), oR R, y5, y6, y7, oD (.lst ((finG P d en).map ni)), none]) rfl (flats_row R)
    have e2 : (eFn (fTuple true) (eCons (eV 8) eNil)) [oD W, oD (ni lt), oM P, dO (nmG P), oR R, y5, y6, y7, oD (.lst ((finG P d en).map ni)), none] = .ok (.tup ((finG P d en).map ni)) := by
      show lift (fTuple true [.lst _]) = _
      rw [fTuple_lst, if_pos (okElT _)]; rfl
    rw [eFn_def, eCons_def, eCons_def, eCons_def, e1, e2]; rfl
end
end GW

/-! masks of states -/
namespace GW
open PySem PySem.Spec PyProof.Rows L2 VS
theorem or_nat (a b : Nat) : Builtin.bitOr (a : Int) (b : Int) = ((a ||| b : Nat) : Int) := by
  unfold Builtin.bitOr Builtin.bitAnd
  have h1 : decide (0 ≤ Builtin.bitNot (a : Int)) = false := decide_eq_false (by unfold Builtin.bitNot; omega)
  have h2 : decide (0 ≤ Builtin.bitNot (b : Int)) = false := decide_eq_false (by unfold Builtin.bitNot; omega)
  have h3 : ∀ x : Nat, (Builtin.bitNot (Builtin.bitNot (x : Int))).toNat = x := fun x => by unfold Builtin.bitNot; omega
  rw [h1, h2]
  show Builtin.bitNot (Builtin.bitNot (((Builtin.bitNot (Builtin.bitNot (a : Int))).toNat ||| (Builtin.bitNot (Builtin.bitNot (b : Int))).toNat : Nat))) = _
  rw [h3, h3]
  generalize (a ||| b) = z
  unfold Builtin.bitNot
  omega
theorem and_nat (a b : Nat) : Builtin.bitAnd (a : Int) (b : Int) = ((a &&& b : Nat) : Int) := rfl
theorem bor_ni (a b : Nat) : opBit Builtin.bitOr (ni a) (ni b) = some (ni (a ||| b)) := congrArg (fun x => some (D.int x)) (or_nat a b)
theorem band_ni (a b : Nat) : opBit Builtin.bitAnd (ni a) (ni b) = some (ni (a &&& b)) := congrArg (fun x => some (D.int x)) (and_nat a b)
theorem shr_ni (a b : Nat) : opShr (ni a) (ni b) = some (ni (a >>> b)) := by
  unfold opShr ni
  simp [Nat.shiftRight_eq_div_pow]
theorem shl_ni (b : Nat) (h : b ≤ 1000000) : opShl (.int 1) (ni b) = some (ni (2 ^ b)) := by
  show (if (0 : Int) ≤ (b : Int) ∧ (b : Int) ≤ 1000000 ∧ (1 : Int).natAbs < 2 ^ 64 then some (D.int (1 * 2 ^ (b : Int).toNat)) else none) = _
  rw [if_pos ⟨by omega, by omega, by decide⟩, Int.toNat_natCast]
  show _ = some (D.int ((2 ^ b : Nat) : Int))
  rw [Int.one_mul, Int.natCast_pow]; rfl
theorem nat_eq' (a b : Nat) : opEq (ni a) (ni b) = some (.bl (a == b)) := by
  show opEq (.int (a : Int)) (.int (b : Int)) = _
  rw [opEq_int]
  congr 2
  rw [Bool.eq_iff_iff, beq_iff_eq, beq_iff_eq]
  omega
theorem bit1 (v i : Nat) : ((v >>> i &&& 1 : Nat) == 1) = v.testBit i := by
  rw [Nat.testBit, Nat.and_comm]
  have : (1 &&& v >>> i) = 0 ∨ (1 &&& v >>> i) = 1 := by
    have : 1 &&& v >>> i ≤ 1 := Nat.and_le_left
    omega
  rcases this with h | h <;> simp [h]
theorem has_spec (m p : Nat) : Mhas_state [ni m, ni p] = .ok (.bl (m.testBit p)) := by
  unfold Mhas_state Bhas_state
  refine ret_of (.ret ?_)
  show (eOp2 _ _ _) [oD (ni m), oD (ni p)] = _
  rw [eOp2_def, eOp2_def, eOp2_def, eV_of (i := 0) rfl, ok_bind, eV_of (i := 1) rfl, ok_bind, shr_ni, lift_some, ok_bind, eC_def, ok_bind, show (D.int 1) = ni 1 from rfl, band_ni, lift_some, ok_bind, ok_bind, nat_eq', bit1]; rfl
theorem lt_of_bits {m n : Nat} (h : ∀ p, n ≤ p → m.testBit p = false) : m < 2 ^ n := Nat.lt_pow_two_of_testBit m h
/-! the mask of a list -/
def pw (l : List Nat) : Nat := (l.map fun f => 2 ^ f).sum
theorem pw_app (l : List Nat) (a : Nat) : pw (l ++ [a]) = pw l + 2 ^ a := by unfold pw; simp
theorem pw_bit : ∀ (l : List Nat), l.reverse.Pairwise (· < ·) → ∀ p, (pw l.reverse).testBit p = decide (p ∈ l.reverse)
  | [], _, p => by simp [pw]
  | a :: l, h, p => by
    rw [List.reverse_cons] at h ⊢
    obtain ⟨h1, _, h3⟩ := List.pairwise_append.mp h
    have ih := pw_bit l h1
    have hlt : pw l.reverse < 2 ^ a := lt_of_bits fun q hq => by
      rw [ih]
      exact decide_eq_false fun z => absurd (h3 q z a (List.mem_singleton.mpr rfl)) (by omega)
    have e : pw l.reverse + 2 ^ a = 2 ^ a ||| pw l.reverse := by
      have := Nat.two_pow_add_eq_or_of_lt hlt 1
      rw [Nat.mul_one] at this
      rw [Nat.add_comm, this]
    rw [pw_app, e, Nat.testBit_or, Nat.testBit_two_pow, ih, Bool.eq_iff_iff]
    simp only [Bool.or_eq_true, decide_eq_true_iff, List.mem_append, List.mem_singleton]
    constructor
    · rintro (z | z)
      · exact .inr z.symm
      · exact .inl z
    · rintro (z | z)
      · exact .inr z
      · exact .inl z.symm
theorem pw_spec {l : List Nat} (h : l.Pairwise (· < ·)) (p : Nat) : (pw l).testBit p = decide (p ∈ l) := by
  have := pw_bit l.reverse (by rw [List.reverse_reverse]; exact h) p
  rwa [List.reverse_reverse] at this
theorem sum_cast : ∀ l : List Nat, (l.map fun x : Nat => (x : Int)).sum = ((l.sum : Nat) : Int)
  | [] => rfl
  | x :: l => by rw [List.map_cons, List.sum_cons, List.sum_cons, sum_cast l]; push_cast; rfl
section
variable {lt n : Nat} {rows : List (List Nat)} {fin : List Nat}
theorem fset_spec (hf : fin.length ≤ 2000) (hl : ∀ f ∈ fin, f ≤ 2000) : Mfinal_set [mach lt rows fin] = .ok (ni (pw fin)) := by
  unfold Mfinal_set Bfinal_set
  refine ret_of (.ret ?_)
  show (eFn fSum _) [oD (mach lt rows fin), none] = _
  have es : (eIt true (eOp2 (opIx true) (eV 0) (eC (.int 2)))) [oD (mach lt rows fin), none] = .ok (fin.map ni) := by
    rw [eIt_def, eOp2_def, eV_of (i := 0) rfl, ok_bind, eC_def, ok_bind, ixf, lift_some, ok_bind, asA_tup, if_pos (okElT _)]; rfl
  have cm := compL_mapm (eOp2 (opShl) (eC (.int 1)) (eV 1)) 1 [oD (mach lt rows fin), none] ni (fun f => ni (2 ^ f)) fin (fun f hf => by
    show (eOp2 _ _ _) [oD (mach lt rows fin), oD (ni f)] = _
    rw [eOp2_def, eC_def, ok_bind, eV_of (i := 1) rfl, ok_bind, shl_ni _ (by have := hl f hf; omega), lift_some])
  have el : (eLc (eIt true (eOp2 (opIx true) (eV 0) (eC (.int 2)))) tYes' (eOp2 (opShl) (eC (.int 1)) (eV 1)) 1) [oD (mach lt rows fin), none] = .ok (.lst ((fin.map fun f => 2 ^ f).map ni)) := by
    rw [eLc_def, eLcs_def, es, ok_bind, cm, ok_bind, List.length_map, if_pos (by omega), List.map_map]; rfl
  rw [eFn_def, eCons_def, el, ok_bind, eNil_def, ok_bind, ok_bind]
  show lift ((asInts ((fin.map fun f => 2 ^ f).map ni)).map fun ns => D.int ns.sum) = _
  rw [asInts_ni, Option.map_some, sum_cast]; rfl
end
/-- few, because each has a number -/
theorem few_of {α : Type} {OK : α → Prop} {N : Nat} (κ : α → Nat → Prop) (h1 : ∀ b, OK b → ∃ s, s < N ∧ κ b s) (h2 : ∀ b b' s, OK b → OK b' → κ b s → κ b' s → b = b') (P : List α) (hn : P.Nodup) (ho : ∀ b ∈ P, OK b) : P.length ≤ N := by
  obtain ⟨f, hf⟩ : ∃ f : α → Nat, ∀ b, OK b → f b < N ∧ κ b (f b) := by
    refine ⟨fun b => @dite _ (∃ s, s < N ∧ κ b s) (Classical.propDecidable _) (fun h => h.choose) (fun _ => 0), fun b hb => ?_⟩
    have h := h1 b hb
    simp only [dif_pos h]
    exact h.choose_spec
  have := nd_len N (q := P.map f) (by
    refine List.pairwise_map.mpr (List.Pairwise.imp_of_mem (R := fun a b => a ≠ b) (fun {a b} ha hb hne e => hne ?_) hn)
    exact h2 a b _ (ho a ha) (ho b hb) (hf a (ho a ha)).2 (e ▸ (hf b (ho b hb)).2)) (fun x hx => by
    obtain ⟨b, hb, rfl⟩ := List.mem_map.mp hx
    exact (hf b (ho b hb)).1)
  rwa [List.length_map] at this
end GW

/-! BackWalk and reversal -/
namespace GW
open PySem PySem.Spec PyProof.Rows L2 VS
def srcA (rows : List (List Nat)) (m i : Nat) : Nat → Nat
  | 0 => 0
  | k + 1 => if m.testBit (stp rows k (97 + i)) then srcA rows m i k ||| 2 ^ k else srcA rows m i k
section
variable {lt n : Nat} {rows : List (List Nat)} {fin : List Nat}
theorem srcA_bit (m i p : Nat) : ∀ k, (srcA rows m i k).testBit p = (decide (p < k) && m.testBit (stp rows p (97 + i)))
  | 0 => by simp [srcA]
  | k + 1 => by
    have ih := srcA_bit m i p k
    rw [srcA]
    by_cases h : m.testBit (stp rows k (97 + i)) = true
    · rw [if_pos h, Nat.testBit_or, ih, Nat.testBit_two_pow]
      by_cases e : k = p
      · subst e
        rw [h]; simp
      · have : decide (p < k + 1) = decide (p < k) := by rw [decide_eq_decide]; omega
        rw [this, decide_eq_false e, Bool.or_false]
    · rw [if_neg h, ih]
      by_cases e : k = p
      · subst e
        rw [Bool.not_eq_true] at h
        rw [h, Bool.and_false, Bool.and_false]
      · have : decide (p < k + 1) = decide (p < k) := by rw [decide_eq_decide]; omega
        rw [this]
theorem src_spec (hw : Wf lt n rows) (m : Nat) {i : Nat} (hi : i < lt) : Msource_set [mach lt rows fin, ni m, ni i] = .ok (ni (srcA rows m i n)) := by
  have hn2 := hw.n2
  have hl := len_rows hw
  obtain ⟨c', main, y, rfl⟩ := forL_rg 4 (sIf (eTru (eCall Mhas_state (eCons (eV 1) (eCons (eOp2 (opIx true) (eOp2 (opIx true) (eOp2 (opIx true) (eV 0) (eC (.int 1))) (eV 4)) (eV 2)) eNil))))
    (sSet 3 (eOp2 (opBit Builtin.bitOr) (eV 3) (eOp2 (opShl) (eC (.int 1)) (eV 4))))
    sNil) (n : Int) (fun j c => ∃ y, c = [oD (mach lt rows fin), oD (ni m), oD (ni i), oD (ni (srcA rows m i j)), y]) [oD (mach lt rows fin), oD (ni m), oD (ni i), oD (ni 0), none] (by
    rintro j c hj ⟨y, rfl⟩
    have hj : j < n := by omega
    have i2 := ix2 hw hj
    have i3 := (ix3 hw hj hi).1
    have hs := has_spec m (stp rows j (97 + i))
    have ht : (eTru (eCall Mhas_state (eCons (eV 1) (eCons (eOp2 (opIx true) (eOp2 (opIx true) (eOp2 (opIx true) (eV 0) (eC (.int 1))) (eV 4)) (eV 2)) eNil)))) [oD (mach lt rows fin), oD (ni m), oD (ni i), oD (ni (srcA rows m i j)), oD (ni j)] = .ok (m.testBit (stp rows j (97 + i))) := by
      simp -implicitDefEqProofs only [eTru_def, eCall_def, eCons_def, eNil_def, eOp2_def, eV_def, eC_def, List.getElem?_cons_zero, List.getElem?_cons_succ, ok_bind, ix1, i2, i3, lift_some, hs, noX_ok, truD_bl]
    by_cases h : m.testBit (stp rows j (97 + i)) = true
    · refine ⟨_, Nx.yes (ht.trans (by rw [h])) (Nx.set (d := ni (srcA rows m i (j + 1))) ?_), oD (ni j), rfl⟩
      show (eOp2 _ _ _) [oD (mach lt rows fin), oD (ni m), oD (ni i), oD (ni (srcA rows m i j)), oD (ni j)] = _
      rw [eOp2_def, eOp2_def, eV_of (i := 3) rfl, ok_bind, eC_def, ok_bind, eV_of (i := 4) rfl, ok_bind, shl_ni _ (by omega), lift_some, ok_bind, bor_ni, lift_some, srcA, if_pos h]
    · refine ⟨_, Nx.no (ht.trans (by rw [Bool.not_eq_true] at h; rw [h])) .nil, oD (ni j), ?_⟩
      rw [srcA, if_neg h]; rfl) ⟨none, rfl⟩
  unfold Msource_set Bsource_set
  refine ret_of ?_
  show Ret _ [oD (mach lt rows fin), oD (ni m), oD (ni i), none, none] _
  refine .seq ((Nx.set (d := ni 0) rfl).to rfl) (.seq (.for (ds := rangeD 0 (n : Int)) ?_ main) (.ret rfl))
  show (eItR _ _) [oD (mach lt rows fin), oD (ni m), oD (ni i), oD (ni 0), none] = _
  simp -implicitDefEqProofs only [eItR_def, eFn_def, eCons_def, eNil_def, eOp2_def, eV_def, eC_def, List.getElem?_cons_zero, ok_bind, ix1, lift_some, hl, asI_zero, asI_small (i := (n : Int)) (by omega) (by omega)]
/-! the walk -/
abbrev bwk (M : D) : D := .obj "BackWalk" ["machine"] [M]
theorem hd_bw : (["machine"] : List Str).head? ≠ some ("!" : Str) := by decide
theorem att_machine {M : D} {g : VS.Env → R D} {c : VS.Env} (h : g c = .ok (bwk M)) : eAtt ["BackWalk"] "machine" g c = .ok M := eAtt_of h (by simp) hd_bw rfl
theorem mth_bw {M : D} {m : Str} {M' : List D → R D} {go : VS.Env → R D} {gs : VS.Env → R (List D)} {c : VS.Env} (h : go c = .ok (bwk M)) (hm : m ∉ (["machine"] : List Str)) : eMth [("BackWalk", M')] m go gs c = gs c >>= fun ds => noX (M' (bwk M :: ds)) := eMth_of h hd_bw hm rfl
theorem make_bw {gs : VS.Env → R (List D)} {c : VS.Env} {a : D} (h : gs c = .ok [a]) : eMake "BackWalk" MBackWalk_init gs c = .ok (bwk a) := by
  unfold eMake
  rw [h, ok_bind]
  have e : MBackWalk_init [a] = .ok [("machine", a)] := rfl
  rw [e, noX_ok, ok_bind]
  show (if (["machine"] : List Str).head? ≠ some ("!" : Str) then _ else _) = _
  rw [if_pos hd_bw]; rfl
def bst (rows : List (List Nat)) (n m i : Nat) : Nat := srcA rows m i n
theorem bw_ms (hw : Wf lt n rows) (hf : fin.length ≤ 2000) (hl : ∀ f ∈ fin, f ≤ 2000) (OK : Nat → Prop) : Ms (bwk (mach lt rows fin)) OK (bst rows n) (pw fin) lt fun m => m.testBit 0 := by
  have e0 := fset_spec (lt := lt) (rows := rows) hf hl
  generalize hM : mach lt rows fin = M at *
  refine ⟨fun c hc => ?_, fun c g1 g2 b i hc h1 _ h2 hi => ?_, fun c g b hc h1 _ => ?_⟩
  · have e : MBackWalk_begin [bwk M] = .ok (ni (pw fin)) := by
      unfold MBackWalk_begin BBackWalk_begin
      refine ret_of (.ret ?_)
      show (eCall _ _) [oD (bwk M)] = _
      rw [eCall_def, eCons_def, att_machine (M := M) rfl, ok_bind, eNil_def, ok_bind, ok_bind, e0, noX_ok]
    show (eMth [("BackWalk", MBackWalk_begin)] "begin" (eV 0) eNil) c = _
    rw [mth_bw (M := M) (eV_of hc) (by decide), eNil_def, ok_bind, e, noX_ok]
  · have e1 := src_spec (fin := fin) hw b hi
    rw [hM] at e1
    have e : MBackWalk_follow [bwk M, ni b, ni i] = .ok (ni (bst rows n b i)) := by
      unfold MBackWalk_follow BBackWalk_follow
      refine ret_of (.ret ?_)
      show (eCall _ _) [oD (bwk M), oD (ni b), oD (ni i)] = _
      rw [eCall_def, eCons_def, att_machine (M := M) rfl, ok_bind, eCons_def, eV_of (i := 1) rfl, ok_bind, eCons_def, eV_of (i := 2) rfl, ok_bind, eNil_def, ok_bind, ok_bind, ok_bind, ok_bind, e1, noX_ok]; rfl
    show (eMth [("BackWalk", MBackWalk_follow)] "follow" (eV 0) (eCons g1 (eCons g2 eNil))) c = _
    rw [mth_bw (M := M) (eV_of hc) (by decide), eCons_def, h1, ok_bind, eCons_def, h2, ok_bind, eNil_def, ok_bind, ok_bind, ok_bind, e, noX_ok]
  · have e : MBackWalk_ends [bwk M, ni b] = .ok (.bl (b.testBit 0)) := by
      unfold MBackWalk_ends BBackWalk_ends
      refine ret_of (.ret ?_)
      show (eCall _ _) [oD (bwk M), oD (ni b)] = _
      rw [eCall_def, eCons_def, eV_of (i := 1) rfl, ok_bind, eCons_def, eC_def, ok_bind, eNil_def, ok_bind, ok_bind, ok_bind, show (D.int 0) = ni 0 from rfl, has_spec, noX_ok]
    show (eMth [("BackWalk", MBackWalk_ends)] "ends" (eV 0) (eCons g eNil)) c = _
    rw [mth_bw (M := M) (eV_of hc) (by decide), eCons_def, h1, ok_bind, eNil_def, ok_bind, ok_bind, e, noX_ok]
theorem bits_of (hw : Wf lt n rows) (hf : fin.Pairwise (· < ·)) (hl : ∀ f ∈ fin, f < n) (p : Nat) : ∀ u, Wd' lt u → ∀ p, (stw (bst rows n) (pw fin) u.reverse).testBit p = decide (p < n ∧ run rows p u ∈ fin)
  | [], _, p => by
    show (pw fin).testBit p = _
    rw [pw_spec hf, decide_eq_decide]
    exact ⟨fun h => ⟨hl p h, h⟩, fun h => h.2⟩
  | c :: u, hu, p => by
    obtain ⟨c1, c2⟩ := hu c List.mem_cons_self
    have ih := bits_of hw hf hl p u fun d hd => hu d (List.mem_cons_of_mem _ hd)
    rw [List.reverse_cons, stw_app]
    unfold bst at ih ⊢
    rw [srcA_bit, ih, show 97 + (c - 97) = c by omega, Bool.eq_iff_iff, Bool.and_eq_true, decide_eq_true_iff, decide_eq_true_iff, decide_eq_true_iff]
    exact ⟨fun h => ⟨h.1, h.2.2⟩, fun h => ⟨h.1, stp_lt hw h.1 c1 c2, h.2⟩⟩
theorem bits_of' (hw : Wf lt n rows) (hf : fin.Pairwise (· < ·)) (hl : ∀ f ∈ fin, f < n) {w : List Nat} (hu : Wd' lt w) (p : Nat) : (stw (bst rows n) (pw fin) w).testBit p = decide (p < n ∧ run rows p w.reverse ∈ fin) := by
  have := bits_of hw hf hl p w.reverse (fun c hc => hu c (List.mem_reverse.mp hc)) p
  rwa [List.reverse_reverse] at this
theorem bw_wk (hw : Wf lt n rows) {N : Nat} (few : ∀ P : List Nat, P.Nodup → (∀ b ∈ P, Rch (bst rows n) (pw fin) lt b) → P.length ≤ N) : Wk (Rch (bst rows n) (pw fin) lt) (bst rows n) (pw fin) lt N :=
  ⟨hw.l1, hw.l2, rch_d, fun b h k hk => rch_st b h k hk, few⟩
/-- reversal -/
theorem rev_op (hw : Wf lt n rows) (hf : fin.Pairwise (· < ·)) (hl : ∀ f ∈ fin, f < n) (hfl : fin.length ≤ 2000) {N : Nat} (few : ∀ P : List Nat, P.Nodup → (∀ b ∈ P, Rch (bst rows n) (pw fin) lt b) → P.length ≤ N) (hN : N ≤ 40) : ∃ d, Mreversal [mach lt rows fin] = .ok d ∧ Op lt d fun w => run rows 0 w.reverse ∈ fin := by
  have hn2 := hw.n2
  have hn1 := hw.n1
  have k := bw_wk hw few
  have ex := explored_spec k (by omega) (bw_ms hw hfl (fun f h => by have := hl f h; omega) _)
  obtain ⟨wf, hlen, lang⟩ := k.lang (by omega) (fun m => m.testBit 0)
  have lang' : ∀ w, Wd' lt w → (run (exW (bst rows n) (pw fin) lt).2 0 w ∈ finG (exW (bst rows n) (pw fin) lt).1 (pw fin) (fun m => m.testBit 0) ↔ run rows 0 w.reverse ∈ fin) := fun w ww => by
    rw [lang w ww, bits_of' hw hf hl ww, decide_eq_true_iff]
    exact ⟨fun h => h.2, fun h => ⟨hn1, h⟩⟩
  obtain ⟨d, eb, op⟩ := bounded_op wf _ lang' wf lang' (by omega)
  refine ⟨d, ?_, op⟩
  unfold Mreversal Breversal
  refine ret_of (.ret ?_)
  show (eCall _ _) [oD (mach lt rows fin)] = _
  have e1 : (eMake "BackWalk" MBackWalk_init (eCons (eV 0) eNil)) [oD (mach lt rows fin)] = .ok (bwk (mach lt rows fin)) := make_bw (by rw [eCons_def, eV_of (i := 0) rfl]; rfl)
  have e2 : (eOp2 (opIx true) (eV 0) (eC (.int 0))) [oD (mach lt rows fin)] = .ok (ni lt) := by rw [eOp2_def, eV_of (i := 0) rfl, ok_bind, eC_def, ok_bind, ix0, lift_some]
  have e3 : (eCall Mexplored (eCons (eMake "BackWalk" MBackWalk_init (eCons (eV 0) eNil)) (eCons (eOp2 (opIx true) (eV 0) (eC (.int 0))) eNil))) [oD (mach lt rows fin)] = .ok (mach lt (exW (bst rows n) (pw fin) lt).2 (finG (exW (bst rows n) (pw fin) lt).1 (pw fin) (fun m => m.testBit 0))) := by
    rw [eCall_def, eCons_def, e1, ok_bind, eCons_def, e2, ok_bind, eNil_def, ok_bind, ok_bind, ok_bind, ex, noX_ok]
  rw [eCall_def, eCons_def, e3, ok_bind, eNil_def, ok_bind, ok_bind, eb, noX_ok]
/-- sets of at most 5 states -/
theorem few32 (hw : Wf lt n rows) (h5 : n ≤ 5) (hf : fin.Pairwise (· < ·)) (hl : ∀ f ∈ fin, f < n) (P : List Nat) (hn : P.Nodup) (ho : ∀ b ∈ P, Rch (bst rows n) (pw fin) lt b) : P.length ≤ 32 := by
  refine nd_len 32 hn fun p hp => ?_
  obtain ⟨w, ww, rfl⟩ := ho p hp
  have h := lt_of_bits (m := stw (bst rows n) (pw fin) w) (n := n) fun q hq => by
    rw [bits_of' hw hf hl ww]
    exact decide_eq_false fun z => absurd z.1 (by omega)
  exact Nat.lt_of_lt_of_le h (Nat.pow_le_pow_right (by decide) h5)
/-- sets of the states of a machine that is read backwards -/
theorem few_back (hw : Wf lt n rows) {R : List (List Nat)} {F : List Nat} (lm : LM lt R F fun w => run rows 0 w.reverse ∈ fin) (P : List Nat) (hn : P.Nodup) (ho : ∀ b ∈ P, Rch (bst R R.length) (pw F) lt b) : P.length ≤ n := by
  have hF : F.Pairwise (· < ·) := by
    have h1 := lm.fnl.2.1
    have h2 := lm.fnl.2.2.2
    exact (h1.and h2).imp fun ⟨a, b⟩ => Nat.lt_of_le_of_ne a b
  have hFl := lm.fnl.1
  have bit : ∀ w, Wd' lt w → ∀ u, Wd' lt u → ((stw (bst R R.length) (pw F) w).testBit (run R 0 u) = true ↔ run rows (run rows 0 w) u.reverse ∈ fin) := fun w ww u wu => by
    have wr : Wd' lt w.reverse := fun c hc => ww c (List.mem_reverse.mp hc)
    rw [bits_of' lm.wf hF hFl ww, decide_eq_true_iff, ← run_cat, lm.lang _ (wu.cat wr), List.reverse_append, List.reverse_reverse, run_cat]
    exact ⟨fun h => h.2, fun h => ⟨run_lt lm.wf u 0 lm.wf.n1 wu, h⟩⟩
  refine few_of (fun b s => ∃ w, Wd' lt w ∧ b = stw (bst R R.length) (pw F) w ∧ run rows 0 w = s) ?_ ?_ P hn ho
  · rintro b ⟨w, ww, rfl⟩
    exact ⟨_, run_lt hw w 0 hw.n1 ww, w, ww, rfl, rfl⟩
  · rintro b b' s _ _ ⟨w, ww, rfl, h1⟩ ⟨w', ww', rfl, h2⟩
    refine Nat.eq_of_testBit_eq fun p => ?_
    by_cases hp : p < R.length
    · obtain ⟨u, wu, rfl⟩ := lm.reach hp
      rw [Bool.eq_iff_iff, bit w ww u wu, bit w' ww' u wu, h1, h2]
    · rw [bits_of' lm.wf hF hFl ww, bits_of' lm.wf hF hFl ww', decide_eq_false (fun z => hp z.1), decide_eq_false (fun z => hp z.1)]
end
end GW

/-! the law's own sets of states -/
namespace VS
open PySem PySem.Spec PyProof.Rows L2
theorem eLIxD_def (g : Env → R D) (gs : Env → R (List D)) (c : Env) : eLIxD g gs c = g c >>= fun d => match d with
  | .lst ds => gs c >>= fun es => lift (fLIxD ds es)
  | _ => .stuck := rfl
end VS
namespace GW
open PySem PySem.Spec PyProof.Rows L2 VS
theorem eqv_row (a b : List Nat) : D.eqv (rowD a) (rowD b) = (a == b) := by
  unfold rowD
  rw [D.eqv, eqvs_ni, Bool.eq_iff_iff, decide_eq_true_iff, beq_iff_eq]
theorem pln_row (n : Nat) (a : List Nat) : D.pln (n + 2) (rowD a) = true := by
  unfold rowD
  rw [pln_tup]; exact plns_ni (n + 1) _
theorem plns_row (n : Nat) : ∀ P : List (List Nat), D.plns (n + 2) (P.map rowD) = true
  | [] => by rw [List.map_nil, D.plns]
  | a :: P => by rw [List.map_cons, D.plns, pln_row, plns_row n P]; rfl
theorem notin_row (s : List Nat) (P : List (List Nat)) : opNotInS (rowD s) (.lst (P.map rowD)) = some (.bl (!decide (s ∈ P))) := by
  unfold opNotInS
  have h : inS (rowD s) (.lst (P.map rowD)) = some (decide (s ∈ P)) := by
    show (if D.pln 64 (rowD s) && D.pln 64 (.lst (P.map rowD)) then some ((P.map rowD).any fun z => D.eqv z (rowD s)) else none) = _
    rw [if_pos (by rw [pln_row 62, pln_lst, plns_row 61]; rfl), List.any_map]
    congr 1
    rw [Bool.eq_iff_iff, List.any_eq_true, decide_eq_true_iff]
    constructor
    · rintro ⟨x, hx, e⟩
      have e : D.eqv (rowD x) (rowD s) = true := e
      rw [eqv_row, beq_iff_eq] at e
      rw [← e]; exact hx
    · intro hx
      exact ⟨s, hx, by show D.eqv (rowD s) (rowD s) = true; rw [eqv_row]; simp⟩
  rw [h]; rfl
theorem lix_row {P : List (List Nat)} {s : List Nat} {g : VS.Env → R D} {gs : VS.Env → R (List D)} {c : VS.Env} (hg : g c = .ok (.lst (P.map rowD))) (hgs : gs c = .ok [rowD s]) (h : s ∈ P) : eLIxD g gs c = .ok (ni (ixG P s)) := by
  rw [eLIxD_def, hg, ok_bind]
  show (gs c >>= fun es => lift (fLIxD (P.map rowD) es)) = _
  rw [hgs, ok_bind]
  have e : (P.map rowD).findIdx (fun z => D.eqv z (rowD s)) = ixG P s := by
    rw [List.findIdx_map]
    unfold ixG List.idxOf
    congr 1
    funext x
    show D.eqv (rowD x) (rowD s) = decide (x = s)
    rw [eqv_row, Bool.eq_iff_iff, decide_eq_true_iff, beq_iff_eq]
  have hl := ixG_lt h
  show lift (if D.pln 64 (rowD s) && D.pln 64 (.lst (P.map rowD)) then (if ((P.map rowD).findIdx fun z => D.eqv z (rowD s)) < (P.map rowD).length then some (D.int (((P.map rowD).findIdx fun z => D.eqv z (rowD s) : Nat) : Int)) else none) else none) = _
  rw [if_pos (by rw [pln_row 62, pln_lst, plns_row 61]; rfl), e, List.length_map, if_pos hl]; rfl
def lst (rows : List (List Nat)) (n : Nat) (S : List Nat) (i : Nat) : List Nat := (List.range n).filter fun p => decide (stp rows p (97 + i) ∈ S)
def ld (fin : List Nat) (n : Nat) : List Nat := (List.range n).filter fun p => decide (p ∈ fin)
section
variable {lt n : Nat} {rows : List (List Nat)} {fin : List Nat}
theorem lst_mem (hw : Wf lt n rows) : ∀ u, Wd' lt u → ∀ p, (p ∈ stw (lst rows n) (ld fin n) u.reverse ↔ p < n ∧ run rows p u ∈ fin)
  | [], _, p => by
    show p ∈ ld fin n ↔ _
    unfold ld
    rw [List.mem_filter, List.mem_range, decide_eq_true_iff]; rfl
  | c :: u, hu, p => by
    obtain ⟨c1, c2⟩ := hu c List.mem_cons_self
    have ih := lst_mem hw u fun d hd => hu d (List.mem_cons_of_mem _ hd)
    rw [List.reverse_cons, stw_app]
    unfold lst at ih ⊢
    rw [List.mem_filter, List.mem_range, decide_eq_true_iff, ih, show 97 + (c - 97) = c by omega]
    exact ⟨fun h => ⟨h.1, h.2.2⟩, fun h => ⟨h.1, stp_lt hw h.1 c1 c2, h.2⟩⟩
theorem lst_mem' (hw : Wf lt n rows) {w : List Nat} (hu : Wd' lt w) (p : Nat) : p ∈ stw (lst rows n) (ld fin n) w ↔ p < n ∧ run rows p w.reverse ∈ fin := by
  have := lst_mem (fin := fin) hw w.reverse (fun c hc => hu c (List.mem_reverse.mp hc)) p
  rwa [List.reverse_reverse] at this
theorem stw_filt (w : List Nat) : ∃ f : Nat → Bool, stw (lst rows n) (ld fin n) w = (List.range n).filter f := by
  have key : ∀ u : List Nat, ∃ f : Nat → Bool, stw (lst rows n) (ld fin n) u.reverse = (List.range n).filter f := fun u => by
    cases u with
    | nil => exact ⟨_, rfl⟩
    | cons c u => rw [List.reverse_cons, stw_app]; exact ⟨_, rfl⟩
  have := key w.reverse
  rwa [List.reverse_reverse] at this
theorem l_few (h5 : n ≤ 5) (P : List (List Nat)) (hn : P.Nodup) (ho : ∀ b ∈ P, Rch (lst rows n) (ld fin n) lt b) : P.length ≤ 32 := by
  refine few_of (fun b s => b = (List.range n).filter fun p => s.testBit p) ?_ (fun b b' s _ _ h1 h2 => h1.trans h2.symm) P hn ho
  rintro b ⟨w, ww, rfl⟩
  obtain ⟨f, e⟩ := stw_filt (rows := rows) (n := n) (fin := fin) w
  have hp : ((List.range n).filter f).Pairwise (· < ·) := List.pairwise_lt_range.filter _
  refine ⟨pw ((List.range n).filter f), ?_, ?_⟩
  · have h := lt_of_bits (m := pw ((List.range n).filter f)) (n := n) fun q hq => by
      rw [pw_spec hp]
      exact decide_eq_false fun z => absurd (List.mem_range.mp (List.mem_filter.mp z).1) (by omega)
    exact Nat.lt_of_lt_of_le h (Nat.pow_le_pow_right (by decide) h5)
  · rw [e]
    refine List.filter_congr fun p hp' => ?_
    rw [pw_spec hp, Bool.eq_iff_iff, decide_eq_true_iff, List.mem_filter]
    exact ⟨fun h => ⟨hp', h⟩, fun h => h.2⟩
theorem l_wk (hw : Wf lt n rows) (h5 : n ≤ 5) : Wk (Rch (lst rows n) (ld fin n) lt) (lst rows n) (ld fin n) lt 32 :=
  ⟨hw.l1, hw.l2, rch_d, fun b h k hk => rch_st b h k hk, fun P => l_few h5 P⟩
abbrev bodyY : VS.Env → Rs := (sSeq (sSet 7 (eFn (fTuple true) (eCons (eLc (eItR (eC (.int 0)) (eV 1)) (eB (eOp2 (opInS) (eOp2 (opIx true) (eOp2 (opIx true) (eOp2 (opIx true) (eV 0) (eC (.int 1))) (eV 8)) (eV 6)) (eIxo 2 (eV 4)))) (eV 8) 8) eNil)))
    (sSeq (sIf (eB (eOp2 (opNotInS) (eV 7) (eL 2)))
    (sApp 2 (eV 7))
    sNil)
    (sApp 5 (eLIxD (eL 2) (eCons (eV 7) eNil)))))
abbrev eY (M : D) (n : Nat) (P : List (List Nat)) (R : List (List Nat)) (a r y6 y7 : Option O) : VS.Env := [oD M, oD (ni n), oR P, oR R, a, r, y6, y7, none, none]
theorem rng1 {c : VS.Env} (hn : n ≤ 1100) (h : c[1]? = some (oD (ni n))) : (eItR (eC (.int 0)) (eV 1)) c = .ok ((List.range n).map ni) := by
  rw [eItR_def, eC_def, ok_bind, asI_zero, lift_some, ok_bind, eV_of h, ok_bind, asI_small (i := (n : Int)) (by omega) (by omega), lift_some, ok_bind, rangeD_nat]
theorem in_row (p : Nat) (S : List Nat) : opInS (ni p) (rowD S) = some (.bl (decide (p ∈ S))) := in_fin p S
theorem filt_len (f : Nat → Bool) (n : Nat) : ((List.range n).filter f).length ≤ n := Nat.le_trans (List.length_filter_le _ _) (by rw [List.length_range]; exact Nat.le_refl _)
theorem tup_lc {c : VS.Env} {g : VS.Env → R D} {S : List Nat} (h : g c = .ok (.lst (S.map ni))) : (eFn (fTuple true) (eCons g eNil)) c = .ok (rowD S) := by
  rw [eFn_def, eCons_def, h, ok_bind, eNil_def, ok_bind, ok_bind, fTuple_lst, if_pos (okElT _)]; rfl
theorem turnY (hw : Wf lt n rows) {P : List (List Nat)} (hPl : P.length ≤ 1000) {R : List (List Nat)} {b : List Nat} (hb : P[R.length]? = some b) {k : Nat} (hk : k < lt) (row : List Nat) (hrl : row.length ≤ 100) (y7 : Option O) :
    ∃ z7, Nx bodyY (eY (mach lt rows fin) n P R (oD (ni R.length)) (oM row) (oD (ni k)) y7) (eY (mach lt rows fin) n (insG P (lst rows n b k)) R (oD (ni R.length)) (oM (row ++ [ixG (insG P (lst rows n b k)) (lst rows n b k)])) (oD (ni k)) z7) := by
  have hn2 := hw.n2
  have hset : Nx (sSet 7 (eFn (fTuple true) (eCons (eLc (eItR (eC (.int 0)) (eV 1)) (eB (eOp2 (opInS) (eOp2 (opIx true) (eOp2 (opIx true) (eOp2 (opIx true) (eV 0) (eC (.int 1))) (eV 8)) (eV 6)) (eIxo 2 (eV 4)))) (eV 8) 8) eNil))) (eY (mach lt rows fin) n P R (oD (ni R.length)) (oM row) (oD (ni k)) y7) (eY (mach lt rows fin) n P R (oD (ni R.length)) (oM row) (oD (ni k)) (oD (rowD (lst rows n b k)))) := by
    refine (Nx.set (d := rowD (lst rows n b k)) (tup_lc ?_)).to rfl
    have cm := compL_filterm (eB (eOp2 (opInS) (eOp2 (opIx true) (eOp2 (opIx true) (eOp2 (opIx true) (eV 0) (eC (.int 1))) (eV 8)) (eV 6)) (eIxo 2 (eV 4)))) (eV 8) 8 (eY (mach lt rows fin) n P R (oD (ni R.length)) (oM row) (oD (ni k)) y7) ni (fun p => decide (stp rows p (97 + k) ∈ b)) ni (List.range n) (fun p hp => by
      have hp := List.mem_range.mp hp
      have i2 := ix2 hw hp
      have i3 := (ix3 hw hp hk).1
      show (eB _) [oD (mach lt rows fin), oD (ni n), oR P, oR R, oD (ni R.length), oM row, oD (ni k), y7, oD (ni p), none] = _
      have ea : (eIxo 2 (eV 4)) [oD (mach lt rows fin), oD (ni n), oR P, oR R, oD (ni R.length), oM row, oD (ni k), y7, oD (ni p), none] = .ok (rowD b) := ixo_at (l := P) (f := rowD) rfl (eV_of rfl) hb
      have hin := in_row (stp rows p (97 + k)) b
      simp -implicitDefEqProofs only [eB_def, eOp2_def, eV_def, eC_def, List.getElem?_cons_zero, List.getElem?_cons_succ, ok_bind, ix1, i2, i3, lift_some, ea, hin, asB_bl]) (fun p _ _ => rfl)
    have hfl := filt_len (fun p => decide (stp rows p (97 + k) ∈ b)) n
    rw [eLc_def, eLcs_def, rng1 hn2 rfl, ok_bind, cm, ok_bind, List.length_map, if_pos (by omega)]; rfl
  generalize lst rows n b k = s at *
  have ht : (eB (eOp2 (opNotInS) (eV 7) (eL 2))) (eY (mach lt rows fin) n P R (oD (ni R.length)) (oM row) (oD (ni k)) (oD (rowD s))) = .ok (!decide (s ∈ P)) := by
    rw [eB_def, eOp2_def, eL_def]
    show (VS.R.ok (rowD s) >>= fun x => VS.R.ok ((O.lst (P.map fun b => O.v (rowD b))).toD) >>= fun y => lift (opNotInS x y)) >>= _ = _
    rw [own_d, ok_bind, ok_bind, notin_row]; rfl
  have hfin : ∀ P' : List (List Nat), s ∈ P' → Nx (sApp 5 (eLIxD (eL 2) (eCons (eV 7) eNil))) (eY (mach lt rows fin) n P' R (oD (ni R.length)) (oM row) (oD (ni k)) (oD (rowD s))) (eY (mach lt rows fin) n P' R (oD (ni R.length)) (oM (row ++ [ixG P' s])) (oD (ni k)) (oD (rowD s))) := fun P' hm => by
    refine (own_app (f := ni) (l := row) rfl (lix_row (P := P') (s := s) ?_ rfl hm) (by omega)).to rfl
    rw [eL_def]
    show VS.R.ok ((O.lst (P'.map fun b => O.v (rowD b))).toD) = _
    rw [own_d]
  refine ⟨oD (rowD s), ?_⟩
  by_cases h : s ∈ P
  · have e : insG P s = P := by unfold insG; rw [if_pos h]
    rw [e]
    exact .seq hset (.seq (.no (ht.trans (by rw [decide_eq_true h]; rfl)) .nil) (hfin P h))
  · have e : insG P s = P ++ [s] := by unfold insG; rw [if_neg h]
    rw [e]
    refine .seq hset (.seq (.yes (ht.trans (by rw [decide_eq_false h]; rfl)) ?_) (hfin _ (List.mem_append_right _ (List.mem_singleton.mpr rfl))))
    exact (own_app (f := rowD) (l := P) rfl rfl (by omega)).to rfl
theorem forY (hw : Wf lt n rows) (h5 : n ≤ 5) {P : List (List Nat)} (I : IvH (Rch (lst rows n) (ld fin n) lt) P) {R : List (List Nat)} {b : List Nat} (hb : P[R.length]? = some b) (y6 y7 : Option O) :
    ∃ z6 z7, Nx (sFor 6 (eItR (eC (.int 0)) (eOp2 (opIx true) (eV 0) (eC (.int 0)))) bodyY) (eY (mach lt rows fin) n P R (oD (ni R.length)) (oM []) y6 y7) (eY (mach lt rows fin) n (adG (lst rows n) b lt P) R (oD (ni R.length)) (oM (rwG (lst rows n) b P lt)) z6 z7) := by
  have hbl := I.ok b (List.mem_of_getElem? hb)
  have hlt := hw.l2
  obtain ⟨c', main, z6, z7, rfl⟩ := forL_rg 6 bodyY (lt : Int) (fun j c => ∃ z6 z7, c = eY (mach lt rows fin) n (adG (lst rows n) b j P) R (oD (ni R.length)) (oM (rwG (lst rows n) b P j)) z6 z7) (eY (mach lt rows fin) n P R (oD (ni R.length)) (oM []) y6 y7) (by
    rintro j c hj ⟨z6, z7, rfl⟩
    have I1 := I.ad (lt := lt) (st := lst rows n) (fun b h k hk => rch_st b h k hk) hbl j (by omega)
    have hl := l_few h5 _ I1.nd I1.ok
    obtain ⟨t, e⟩ := adG_pre (lst rows n) b P j
    have hb1 : (adG (lst rows n) b j P)[R.length]? = some b := by rw [e, List.getElem?_append_left (List.getElem?_eq_some_iff.mp hb).1]; exact hb
    obtain ⟨z, hz⟩ := turnY (fin := fin) hw (by omega) hb1 (k := j) (by omega) (rwG (lst rows n) b P j) (by rw [rwG_len]; omega) z7
    exact ⟨_, hz, oD (ni j), z, rfl⟩) ⟨y6, y7, rfl⟩
  refine ⟨z6, z7, (Nx.for (ds := rangeD 0 (lt : Int)) ?_ main).to rfl⟩
  simp -implicitDefEqProofs only [eItR_def, eOp2_def, eV_def, eC_def, List.getElem?_cons_zero, List.getElem?_cons_succ, ok_bind, ix0, lift_some, asI_zero, asI_small (i := (lt : Int)) (by omega) (by omega)]
abbrev whY : VS.Env → R Bool := (eB (eOp2 (opRel fun i j => decide (i < j)) (eV 4) (eFn (fLen) (eCons (eL 2) eNil))))
abbrev wbY : VS.Env → Rs := (sSeq (sSetO 5 (eFnO fLstO eNil))
    (sSeq (sFor 6 (eItR (eC (.int 0)) (eOp2 (opIx true) (eV 0) (eC (.int 0)))) bodyY)
    (sSeq (sApp 3 (eFn (fTuple false) (eCons (eL 5) eNil)))
    (sSet 4 (eOp2 (opAdd true true) (eV 4) (eC (.int 1)))))))
theorem whileY (hw : Wf lt n rows) (h5 : n ≤ 5) (x5 x6 x7 : Option O) :
    ∃ y5 y6 y7, Nx (whileL whY wbY wN) (eY (mach lt rows fin) n [ld fin n] [] (oD (ni 0)) x5 x6 x7) (eY (mach lt rows fin) n (exW (lst rows n) (ld fin n) lt).1 (exW (lst rows n) (ld fin n) lt).2 (oD (ni (exW (lst rows n) (ld fin n) lt).2.length)) y5 y6 y7) := by
  have wk := l_wk (fin := fin) hw h5
  generalize hT : exW (lst rows n) (ld fin n) lt = T
  obtain ⟨c', h, y5, y6, y7, rfl⟩ := whileL_ex whY wbY
    (fun mm c => ∃ P R y5 y6 y7, c = eY (mach lt rows fin) n P R (oD (ni R.length)) y5 y6 y7 ∧ IvX (Rch (lst rows n) (ld fin n) lt) (lst rows n) (ld fin n) lt P R ∧ R.length + mm = 1101 ∧ exG (lst rows n) (ld fin n) lt mm P R = T)
    (fun c => ∃ y5 y6 y7, c = eY (mach lt rows fin) n T.1 T.2 (oD (ni T.2.length)) y5 y6 y7)
    (by
      rintro mm c ⟨P, R, y5, y6, y7, rfl, I, hmm, hsr⟩
      have hc : whY (eY (mach lt rows fin) n P R (oD (ni R.length)) y5 y6 y7) = .ok (decide (R.length < P.length)) := by
        have e2 := own_len (f := rowD) (l := P) (i := 2) (c := eY (mach lt rows fin) n P R (oD (ni R.length)) y5 y6 y7) rfl
        show (eB _) _ = _
        rw [eB_def, eOp2_def, e2]
        show (lift (opRel (fun i j => decide (i < j)) (ni R.length) (ni P.length))) >>= _ = _
        rw [lt_nat', lift_some, ok_bind, asB_bl, lift_some]
      have hPl := wk.few P I.q.nd I.q.ok
      by_cases h : R.length < P.length
      · have hb : P[R.length]? = some (P.getD R.length (ld fin n)) := by rw [List.getD_eq_getElem?_getD, List.getElem?_eq_getElem h]; rfl
        obtain ⟨z6, z7, hf⟩ := forY (fin := fin) hw h5 I.q hb y6 y7
        obtain ⟨k, rfl⟩ : ∃ k, mm = k + 1 := ⟨mm - 1, by omega⟩
        rw [exG, if_pos h] at hsr
        have I2 := I.turn wk.st h
        generalize adG (lst rows n) (P.getD R.length (ld fin n)) lt P = P2 at *
        generalize rwG (lst rows n) (P.getD R.length (ld fin n)) P lt = rr at *
        refine .inr ⟨hc.trans (by rw [decide_eq_true h]), k, _, Nat.lt_succ_self k, Nx.seq (c' := eY (mach lt rows fin) n P R (oD (ni R.length)) (oM []) y6 y7) rfl (.seq hf (.seq ((own_app (f := rowD) (l := R) (b := rr) rfl ?_ (by have := I.le; omega)).to rfl) ((Nx.set (d := ni (R ++ [rr]).length) ?_).to rfl))), P2, R ++ [rr], oM rr, z6, z7, rfl, I2, by rw [List.length_append, List.length_singleton]; omega, hsr⟩
        · exact tup_own (f := ni) (l := rr) rfl (flats_ni rr)
        · show lift (opAdd true true (ni R.length) (ni 1)) = _
          rw [add_nat, lift_some, List.length_append]; rfl
      · refine .inl ⟨hc.trans (by rw [decide_eq_false h]), y5, y6, y7, ?_⟩
        have : exG (lst rows n) (ld fin n) lt mm P R = (P, R) := by
          cases mm with
          | zero => rfl
          | succ k => rw [exG, if_neg h]
        rw [this] at hsr
        subst hsr
        rfl)
    wN 1101 (eY (mach lt rows fin) n [ld fin n] [] (oD (ni 0)) x5 x6 x7) (by decide) ⟨[ld fin n], [], x5, x6, x7, rfl, wk.iv0, rfl, hT⟩
  exact ⟨y5, y6, y7, h⟩
/-- the law's own reading backwards -/
theorem back_op (hw : Wf lt n rows) (h5 : n ≤ 5) : ∃ d, MLback [mach lt rows fin] = .ok d ∧ Op lt d fun w => run rows 0 w.reverse ∈ fin := by
  obtain ⟨y5, y6, y7, hwh⟩ := whileY (fin := fin) hw h5 none none none
  have wk := l_wk (fin := fin) hw h5
  have hn1 := hw.n1
  have hn2 := hw.n2
  obtain ⟨wf, hl32, lang⟩ := wk.lang (by omega) (fun S => decide (0 ∈ S))
  obtain ⟨d, el, op⟩ := lleast_op wf (finG (exW (lst rows n) (ld fin n) lt).1 (ld fin n) (fun S => decide (0 ∈ S))) (P := fun w => run rows 0 w.reverse ∈ fin) (fun w ww => by
    rw [lang w ww, decide_eq_true_iff, lst_mem' hw ww]
    exact ⟨fun h => h.2, fun h => ⟨hn1, h⟩⟩)
  refine ⟨d, ?_, op⟩
  generalize hT : exW (lst rows n) (ld fin n) lt = T at *
  obtain ⟨P, Rr⟩ := T
  have hl32 : P.length ≤ 32 := hl32
  have el : MLleast [mach lt Rr (finG P (ld fin n) (fun S => decide (0 ∈ S)))] = .ok d := el
  have hl := len_rows hw
  unfold MLback BLback
  refine ret_of ?_
  show Ret _ [oD (mach lt rows fin), none, none, none, none, none, none, none, none, none] _
  refine .seq ((Nx.set (d := ni n) ?_).to rfl) (.seq (c' := [oD (mach lt rows fin), oD (ni n), oR [ld fin n], none, none, none, none, none, none, none]) ?_ (.seq (c' := [oD (mach lt rows fin), oD (ni n), oR [ld fin n], oR [], none, none, none, none, none, none]) rfl (.seq (c' := eY (mach lt rows fin) n [ld fin n] [] (oD (ni 0)) none none none) rfl (.seq hwh (.ret ?_)))))
  · show (eFn _ _) [oD (mach lt rows fin), none, none, none, none, none, none, none, none, none] = _
    simp -implicitDefEqProofs only [eFn_def, eCons_def, eNil_def, eOp2_def, eV_def, eC_def, List.getElem?_cons_zero, ok_bind, ix1, lift_some, hl]
  · have cm := compL_filterm (eB (eOp2 (opInS) (eV 8) (eOp2 (opIx true) (eV 0) (eC (.int 2))))) (eV 8) 8 [oD (mach lt rows fin), oD (ni n), none, none, none, none, none, none, none, none] ni (fun p => decide (p ∈ fin)) ni (List.range n) (fun p hp => by
      have hin := in_fin p fin
      show (eB _) [oD (mach lt rows fin), oD (ni n), none, none, none, none, none, none, oD (ni p), none] = _
      simp -implicitDefEqProofs only [eB_def, eOp2_def, eV_def, eC_def, List.getElem?_cons_zero, List.getElem?_cons_succ, ok_bind, ixf, lift_some, hin, asB_bl]) (fun p _ _ => rfl)
    have hfl := filt_len (fun p => decide (p ∈ fin)) n
    have e : (eFn (fTuple true) (eCons (eLc (eItR (eC (.int 0)) (eV 1)) (eB (eOp2 (opInS) (eV 8) (eOp2 (opIx true) (eV 0) (eC (.int 2))))) (eV 8) 8) eNil)) [oD (mach lt rows fin), oD (ni n), none, none, none, none, none, none, none, none] = .ok (rowD (ld fin n)) := tup_lc (by
      rw [eLc_def, eLcs_def, rng1 hn2 rfl, ok_bind, cm, ok_bind, List.length_map, if_pos (by omega)]; rfl)
    show (sSetO _ _) [oD (mach lt rows fin), oD (ni n), none, none, none, none, none, none, none, none] = _
    rw [sSetO_def, eFnO_def, eCons_def, e]; rfl
  · have er : (eItR (eC (.int 0)) (eFn (fLen) (eCons (eL 2) eNil))) (eY (mach lt rows fin) n P Rr (oD (ni Rr.length)) y5 y6 y7) = .ok ((List.range P.length).map ni) := by
      have e2 := own_len (f := rowD) (l := P) (i := 2) (c := eY (mach lt rows fin) n P Rr (oD (ni Rr.length)) y5 y6 y7) rfl
      rw [eItR_def, eC_def, ok_bind, asI_zero, lift_some, ok_bind, e2, ok_bind, asI_small (i := (P.length : Int)) (by omega) (by omega), lift_some, ok_bind, rangeD_nat]
    have cm := compL_filterm (eB (eOp2 (opInS) (eC (.int 0)) (eIxo 2 (eV 9)))) (eV 9) 9 (eY (mach lt rows fin) n P Rr (oD (ni Rr.length)) y5 y6 y7) ni (fun j => decide (0 ∈ P.getD j (ld fin n))) ni (List.range P.length) (fun j hj => by
      have hj := List.mem_range.mp hj
      have hb : P[j]? = some (P.getD j (ld fin n)) := by rw [List.getD_eq_getElem?_getD, List.getElem?_eq_getElem hj]; rfl
      have hin := in_row 0 (P.getD j (ld fin n))
      show (eB _) [oD (mach lt rows fin), oD (ni n), oR P, oR Rr, oD (ni Rr.length), y5, y6, y7, none, oD (ni j)] = _
      have ea : (eIxo 2 (eV 9)) [oD (mach lt rows fin), oD (ni n), oR P, oR Rr, oD (ni Rr.length), y5, y6, y7, none, oD (ni j)] = .ok (rowD (P.getD j (ld fin n))) := ixo_at (l := P) (f := rowD) rfl (eV_of rfl) hb
      rw [eB_def, eOp2_def, eC_def, ok_bind, ea, ok_bind, show (D.int 0) = ni 0 from rfl, hin]; rfl) (fun p _ _ => rfl)
    have hfl := filt_len (fun j => decide (0 ∈ P.getD j (ld fin n))) P.length
    have e3 : (eFn (fTuple true) (eCons (eLc (eItR (eC (.int 0)) (eFn (fLen) (eCons (eL 2) eNil))) (eB (eOp2 (opInS) (eC (.int 0)) (eIxo 2 (eV 9)))) (eV 9) 9) eNil)) (eY (mach lt rows fin) n P Rr (oD (ni Rr.length)) y5 y6 y7) = .ok (rowD (finG P (ld fin n) (fun S => decide (0 ∈ S)))) := tup_lc (by
      rw [eLc_def, eLcs_def, er, ok_bind, cm, ok_bind, List.length_map, if_pos (by omega)]; rfl)
    have e2 := tup_own (f := rowD) (l := Rr) (i := 3) (c := eY (mach lt rows fin) n P Rr (oD (ni Rr.length)) y5 y6 y7) rfl (flats_row Rr)
    have e1 : (eOp2 (opIx true) (eV 0) (eC (.int 0))) (eY (mach lt rows fin) n P Rr (oD (ni Rr.length)) y5 y6 y7) = .ok (ni lt) := by rw [eOp2_def, eV_of (i := 0) rfl, ok_bind, eC_def, ok_bind, ix0, lift_some]
    have e : (eFn fTup (eCons (eOp2 (opIx true) (eV 0) (eC (.int 0))) (eCons (eFn (fTuple false) (eCons (eL 3) eNil)) (eCons (eFn (fTuple true) (eCons (eLc (eItR (eC (.int 0)) (eFn (fLen) (eCons (eL 2) eNil))) (eB (eOp2 (opInS) (eC (.int 0)) (eIxo 2 (eV 9)))) (eV 9) 9) eNil)) eNil)))) (eY (mach lt rows fin) n P Rr (oD (ni Rr.length)) y5 y6 y7) = .ok (mach lt Rr (finG P (ld fin n) (fun S => decide (0 ∈ S)))) := by
      rw [eFn_def, eCons_def, e1, ok_bind, eCons_def, e2, ok_bind, eCons_def, e3]; rfl
    rw [eCall_def, eCons_def, e, ok_bind, eNil_def, ok_bind, ok_bind, el, noX_ok]
end
end GW

/-! the law -/
namespace GW
open PySem PySem.Spec PyProof.Rows L2 VS
/-! words -/
def lets (lt : Nat) : List Nat := ([97, 98, 99] : List Nat).take lt
theorem lets_in {lt : Nat} (h2 : lt ≤ 3) {c : Nat} : c ∈ lets lt → 97 ≤ c ∧ c < 97 + lt := by
  have : lt = 0 ∨ lt = 1 ∨ lt = 2 ∨ lt = 3 := by omega
  rcases this with rfl | rfl | rfl | rfl <;> (intro h; simp [lets] at h <;> omega)
def lvl (lt : Nat) : Nat → List (List Nat)
  | 0 => [[]]
  | k + 1 => (lvl lt k).flatMap fun w => (lets lt).map fun c => w ++ [c]
def upto (lt L : Nat) : List (List Nat) := (List.range (L + 1)).flatMap (lvl lt)
theorem lvl_ok {lt : Nat} (h2 : lt ≤ 3) : ∀ k, ∀ w ∈ lvl lt k, Wd' lt w ∧ w.length = k
  | 0, w, h => by
    rw [List.mem_singleton.mp (show w ∈ [[]] from h)]
    exact ⟨(fun c hc => nomatch hc), rfl⟩
  | k + 1, w, h => by
    obtain ⟨u, hu, hw⟩ := List.mem_flatMap.mp (show w ∈ (lvl lt k).flatMap _ from h)
    obtain ⟨c, hc, rfl⟩ := List.mem_map.mp hw
    obtain ⟨a, b⟩ := lvl_ok h2 k u hu
    refine ⟨fun d hd => ?_, by simp [b]⟩
    rcases List.mem_append.mp hd with z | z
    · exact a d z
    · rw [List.mem_singleton.mp z]; exact lets_in h2 hc
theorem upto_ok {lt L : Nat} (h2 : lt ≤ 3) : ∀ w ∈ upto lt L, Wd' lt w ∧ w.length ≤ L := fun w h => by
  obtain ⟨k, hk, hw⟩ := List.mem_flatMap.mp h
  have := lvl_ok h2 k w hw
  have hk := List.mem_range.mp hk
  exact ⟨this.1, by omega⟩
def maxL (lt : Nat) : Nat := if lt = 1 then 8 else if lt = 2 then 6 else 4
theorem lwords_spec {lt : Nat} (h1 : 1 ≤ lt) (h2 : lt ≤ 3) : MLwords [ni lt, ni (maxL lt)] = .ok (.lst ((upto lt (maxL lt)).map .str)) := by
  have : lt = 1 ∨ lt = 2 ∨ lt = 3 := by omega
  rcases this with rfl | rfl | rfl <;> rfl
/-! steps -/
section
variable {c : VS.Env} {x y z r : D} {g g1 g2 g3 : VS.Env → VS.R D} {M : List D → VS.R D}
theorem call1 (h : g c = .ok x) (e : M [x] = .ok r) : (eCall M (eCons g eNil)) c = .ok r := by
  simp -implicitDefEqProofs only [eCall_def, eCons_def, eNil_def, h, ok_bind, e, noX_ok]
theorem call2 (h1 : g1 c = .ok x) (h2 : g2 c = .ok y) (e : M [x, y] = .ok r) : (eCall M (eCons g1 (eCons g2 eNil))) c = .ok r := by
  simp -implicitDefEqProofs only [eCall_def, eCons_def, eNil_def, h1, h2, ok_bind, e, noX_ok]
theorem call3 (h1 : g1 c = .ok x) (h2 : g2 c = .ok y) (h3 : g3 c = .ok z) (e : M [x, y, z] = .ok r) : (eCall M (eCons g1 (eCons g2 (eCons g3 eNil)))) c = .ok r := by
  simp -implicitDefEqProofs only [eCall_def, eCons_def, eNil_def, h1, h2, h3, ok_bind, e, noX_ok]
theorem lst2_of (h1 : g1 c = .ok x) (h2 : g2 c = .ok y) : (eFn fLst (eCons g1 (eCons g2 eNil))) c = .ok (.lst [x, y]) := by
  rw [eFn_def, eCons_def, h1, ok_bind, eCons_def, h2]; rfl
theorem lst3_of (h1 : g1 c = .ok x) (h2 : g2 c = .ok y) (h3 : g3 c = .ok z) : (eFn fLst (eCons g1 (eCons g2 (eCons g3 eNil)))) c = .ok (.lst [x, y, z]) := by
  rw [eFn_def, eCons_def, h1, ok_bind, eCons_def, h2, ok_bind, eCons_def, h3]; rfl
theorem same_of (h1 : g1 c = .ok x) (h2 : g2 c = .ok x) (hs : MLsame [x, x] = .ok (.bl true)) : (eCall MLsame (eCons g1 (eCons g2 eNil))) c = .ok (.bl true) := call2 h1 h2 hs
theorem not_true (h : g c = .ok (.bl true)) : (tNot' (eTru g)) c = .ok false := by
  rw [tNot_def, eTru_def, h]; rfl
theorem for3 {i : Nat} {b : VS.Env → VS.Rs} {c1 c2 c3 : VS.Env} (h1 : Nx b (c.set i (oD x)) c1) (h2 : Nx b (c1.set i (oD y)) c2) (h3 : Nx b (c2.set i (oD z)) c3) : forL i b [x, y, z] c = .ok .nx c3 := by
  have h1 : b (c.set i (some (.v x))) = .ok .nx c1 := h1
  have h2 : b (c1.set i (some (.v y))) = .ok .nx c2 := h2
  have h3 : b (c2.set i (some (.v z))) = .ok .nx c3 := h3
  simp -implicitDefEqProofs only [forL_cons, h1, h2, h3, forL_nil]
end
theorem nat_list {m : Int} : ∀ {l : List Int}, (∀ x ∈ l, 0 ≤ x ∧ x < m) → ∃ p : List Nat, l.map D.int = p.map ni ∧ p.length = l.length
  | [], _ => ⟨[], rfl, rfl⟩
  | x :: l, h => by
    obtain ⟨p, e, hl⟩ := nat_list (l := l) fun y hy => h y (List.mem_cons_of_mem _ hy)
    have hx := (h x List.mem_cons_self).1
    refine ⟨x.toNat :: p, ?_, by simp [hl]⟩
    rw [List.map_cons, List.map_cons, e]
    show D.int x :: _ = D.int (x.toNat : Int) :: _
    rw [Int.toNat_of_nonneg hx]
theorem pkD {p : List Nat} {i : Nat} (h : i < p.length) : opIx true (.lst (p.map ni)) (ni i) = some (ni (p.getD i 0)) := by
  show opIx true (.lst (p.map ni)) (.int (i : Int)) = _
  rw [opIx_lst, atI_ofNat, List.getElem?_map, List.getElem?_eq_getElem h, List.getD_eq_getElem?_getD, List.getElem?_eq_getElem h]; rfl
theorem nat_mod (a : Nat) (b : Nat) (h : 0 < b) : opMod (ni a) (.int (b : Int)) = some (ni (a % b)) := by
  rw [opMod_int, if_pos (by omega)]; simp [ni]

theorem sum1 : ∀ l : List Nat, ((l.map fun c => [c]).map List.length).sum = l.length
  | [] => rfl
  | a :: l => by rw [List.map_cons, List.map_cons, List.sum_cons, sum1 l]; simp; omega
theorem sub_nat (a b : Nat) (h : b ≤ a) : opSub (ni a) (ni b) = some (ni (a - b)) := by
  rw [opSub_int]
  exact congrArg (fun x => some (D.int x)) (by omega)
theorem turned_spec {w : List Nat} (hl : w.length ≤ 1000) : MLturned [.str w] = .ok (.str w.reverse) := by
  unfold MLturned BLturned
  refine ret_of (.ret ?_)
  show (eMS _ _ _) [oD (.str w), none] = _
  have hlen : fLen [.str w] = some (ni w.length) := by rw [fLen_str, if_pos (by omega)]
  have er : (eItR (eC (.int 0)) (eFn (fLen) (eCons (eV 0) eNil))) [oD (.str w), none] = .ok ((List.range w.length).map ni) := by
    simp -implicitDefEqProofs only [eItR_def, eFn_def, eCons_def, eNil_def, eV_def, eC_def, List.getElem?_cons_zero, ok_bind, hlen, lift_some, asI_zero, asI_small (i := (w.length : Int)) (by omega) (by omega)]
    rw [rangeD_nat]
  have cm := compL_mapm (eOp2 (opIx true) (eV 0) (eOp2 (opSub) (eOp2 (opSub) (eFn (fLen) (eCons (eV 0) eNil)) (eC (.int 1))) (eV 1))) 1 [oD (.str w), none] ni (fun k => D.str [w.getD (w.length - 1 - k) 0]) (List.range w.length) (fun k hk => by
    have hk := List.mem_range.mp hk
    have h1 : opSub (ni w.length) (.int 1) = some (ni (w.length - 1)) := sub_nat _ 1 (by omega)
    have h2 := sub_nat (w.length - 1) k (by omega)
    have h3 : opIx true (.str w) (ni (w.length - 1 - k)) = some (.str [w.getD (w.length - 1 - k) 0]) := by
      show opIx true (.str w) (.int ((w.length - 1 - k : Nat) : Int)) = _
      rw [opIx_str, if_pos (by omega), atI_ofNat, List.getElem?_eq_getElem (by omega), List.getD_eq_getElem?_getD, List.getElem?_eq_getElem (by omega)]; rfl
    show (eOp2 _ _ _) [oD (.str w), oD (ni k)] = _
    simp -implicitDefEqProofs only [eOp2_def, eFn_def, eCons_def, eNil_def, eV_def, eC_def, List.getElem?_cons_zero, List.getElem?_cons_succ, ok_bind, hlen, lift_some, h1, h2, h3])
  have e : ((List.range w.length).map fun k => D.str [w.getD (w.length - 1 - k) 0]) = (w.reverse.map fun x => [x]).map D.str := by
    rw [List.map_map]
    refine List.ext_getElem (by simp) fun i h1 h2 => ?_
    have hi : i < w.length := by simpa using h1
    rw [List.getElem_map, List.getElem_range, List.getElem_map, List.getElem_reverse, List.getD_eq_getElem?_getD, List.getElem?_eq_getElem (by omega)]; rfl
  rw [e] at cm
  have hs := sum1 w.reverse
  rw [eMS_def, eC_def, ok_bind, asS_str, lift_some, ok_bind, eCons_def, eLc_def, eLcs_def, er, ok_bind, cm, ok_bind, List.length_map, List.length_map, List.length_reverse, if_pos (by omega), ok_bind, ok_bind, eNil_def, ok_bind, ok_bind, fJoin_lst, asSs_strs]
  show lift (if _ then _ else _) = _
  rw [hs, List.length_map, List.length_reverse, if_pos (by simp; omega), joinL_one]; rfl
section
variable {lt : Nat} {x0 x1 x2 : Option O} {A B : D} {PB : List Nat → Prop}
noncomputable def wB : VS.Env → VS.Rs :=
    (sIf (eB (eOp2 (opNe) (eCall MLaccepts (eCons (eV 4) (eCons (eV 5) eNil))) (eCall MLaccepts (eCons (eV 3) (eCons (eCall MLturned (eCons (eV 5) eNil)) eNil)))))
    (sRet (eC (.bl false)))
    sNil)
theorem w_turn {rows : List (List Nat)} {fin : List Nat} {n : Nat} (hw : Wf lt n rows) (b : Op lt B fun w => run rows 0 w.reverse ∈ fin) {w : List Nat} (ww : Wd' lt w) (hl : w.length ≤ 1000) :
    Nx wB [x0, x1, x2, oD (mach lt rows fin), oD B, oD (.str w)] [x0, x1, x2, oD (mach lt rows fin), oD B, oD (.str w)] := by
  obtain ⟨b2, e2, h2⟩ := b.acc ww hl
  have wr : Wd' lt w.reverse := fun c hc => ww c (List.mem_reverse.mp hc)
  have e1 := Lacc_spec (fin := fin) hw wr (by rw [List.length_reverse]; exact hl)
  have et := turned_spec hl
  have : b2 = decide (run rows 0 w.reverse ∈ fin) := by rw [Bool.eq_iff_iff, h2, decide_eq_true_iff]
  subst this
  refine .no ?_ .nil
  rw [eB_def, eOp2_def, call2 (eV_of rfl) (eV_of rfl) e2, ok_bind, call2 (eV_of (i := 3) rfl) (call1 (eV_of (i := 5) rfl) et) e1, ok_bind, opNe_bl, lift_some, ok_bind, asB_bl, lift_some, beq_self_eq_true]; rfl
theorem w_loop {rows : List (List Nat)} {fin : List Nat} {n : Nat} (h3 : lt ≤ 3) (hw : Wf lt n rows) (b : Op lt B fun w => run rows 0 w.reverse ∈ fin) :
    ∃ y, forL 5 wB ((upto lt (maxL lt)).map .str) [x0, x1, x2, oD (mach lt rows fin), oD B, none] = .ok .nx [x0, x1, x2, oD (mach lt rows fin), oD B, y] := by
  have hmx : maxL lt ≤ 8 := by unfold maxL; split <;> (try split) <;> omega
  obtain ⟨c', main, y, rfl⟩ := forL_ex 5 wB (fun j c => ∃ y, c = [x0, x1, x2, oD (mach lt rows fin), oD B, y]) ((upto lt (maxL lt)).map .str) [x0, x1, x2, oD (mach lt rows fin), oD B, none] (by
    rintro j d c hd ⟨y, rfl⟩
    rw [List.getElem?_map] at hd
    obtain ⟨w, hj, rfl⟩ := Option.map_eq_some_iff.mp hd
    obtain ⟨ww, wl⟩ := upto_ok h3 w (List.mem_of_getElem? hj)
    exact ⟨_, w_turn hw b ww (by omega), oD (.str w), rfl⟩) ⟨none, rfl⟩
  exact ⟨y, main⟩
end
theorem law_ok (ns : List Int) : Mlaw [.lst (ns.map D.int)] = .ok (.bl true) := by
  obtain ⟨l0, e0, hl0, hx0⟩ := Ldraws_spec ns 0 2 720 (by omega) (by omega) (by omega)
  obtain ⟨p0, hp0, hpl0⟩ := nat_list hx0
  rw [hp0] at e0
  rw [hl0] at hpl0
  have s : ∀ i, i < 2 → opIx true (.lst (p0.map ni)) (ni i) = some (ni (p0.getD i 0)) := fun i hi => pkD (by omega)
  generalize hlt : 1 + p0.getD 0 0 % 3 = lt
  have h1 : 1 ≤ lt := by omega
  have h3 : lt ≤ 3 := by omega
  obtain ⟨rA, fA, eA, hwA, hfA, hflA, hpA⟩ := Lmachine_spec (lt := lt) (n := 1 + p0.getD 1 0 % 5) ns 1 h1 h3 (by omega) (by omega)
  generalize hn1 : 1 + p0.getD 1 0 % 5 = n1 at eA hwA hfA hflA
  have hn5 : n1 ≤ 5 := by omega
  obtain ⟨T, eT, oT⟩ := rev_op hwA hpA hfA (by omega) (fun P => few32 hwA hn5 hpA hfA P) (by decide)
  obtain ⟨T', eT', oT'⟩ := back_op (fin := fA) hwA hn5
  obtain rfl := oT.uniq oT' fun w _ => Iff.rfl
  obtain ⟨L, eL', oL⟩ := lleast_op hwA fA (P := fun w => run rA 0 w ∈ fA) fun w _ => Iff.rfl
  obtain ⟨y5, main⟩ := w_loop (x0 := oD (.lst (ns.map D.int))) (x1 := oD (.lst (p0.map ni))) (x2 := oD (ni lt)) h3 hwA oT
  have sT := oT.same
  have sL := oL.same
  obtain ⟨RT, FT, hT, lm⟩ := oT.ex
  have hFT : FT.Pairwise (· < ·) := (lm.fnl.2.1.and lm.fnl.2.2.2).imp fun ⟨a, b⟩ => Nat.lt_of_le_of_ne a b
  have hRT := lm.wf.n2
  obtain ⟨B, eB', oB⟩ := rev_op lm.wf hFT lm.fnl.1 (by have := lm.fnl.2.2.1; omega) (N := n1) (fun P => few_back hwA lm P) (by omega)
  rw [← hT] at eB'
  obtain rfl := oL.uniq oB fun w ww => by
    have wr : Wd' lt w.reverse := fun c hc => ww c (List.mem_reverse.mp hc)
    rw [lm.lang _ wr, List.reverse_reverse]
  have ew := lwords_spec h1 h3
  generalize hNs : D.lst (ns.map D.int) = Ns at e0 eA main ⊢
  generalize hSh : D.lst (p0.map ni) = Sh at e0 s main
  generalize hMA : mach lt rA fA = A at eA eT eT' eL' main
  have e0 : MLdraws [Ns, .int 0, .int 2, .int 720] = .ok Sh := e0
  have eA : MLmachine [Ns, .int 1, ni lt, ni n1] = .ok A := eA
  have v1 : (eCall MLdraws (eCons (eV 0) (eCons (eC (.int 0)) (eCons (eC (.int 2)) (eCons (eC (.int 720)) eNil))))) [oD Ns, none, none, none, none, none] = .ok Sh := by
    simp -implicitDefEqProofs only [eCall_def, eCons_def, eNil_def, eV_def, eC_def, List.getElem?_cons_zero, ok_bind, e0, noX_ok]
  have v2 : (eOp2 (opAdd true true) (eC (.int 1)) (eOp2 (opMod) (eOp2 (opIx true) (eV 1) (eC (.int 0))) (eC (.int 3)))) [oD Ns, oD Sh, none, none, none, none] = .ok (ni lt) := by
    simp -implicitDefEqProofs only [eOp2_def, eV_def, eC_def, List.getElem?_cons_zero, List.getElem?_cons_succ, ok_bind]
    rw [show opIx true Sh (.int 0) = _ from s 0 (by omega), lift_some, ok_bind, show opMod (ni (p0.getD 0 0)) (.int 3) = _ from nat_mod _ 3 (by omega), lift_some, ok_bind, show opAdd true true (.int 1) (ni (p0.getD 0 0 % 3)) = _ from add_nat 1 _, hlt, lift_some]
  have v3 : (eCall MLmachine (eCons (eV 0) (eCons (eC (.int 1)) (eCons (eV 2) (eCons (eOp2 (opAdd true true) (eC (.int 1)) (eOp2 (opMod) (eOp2 (opIx true) (eV 1) (eC (.int 1))) (eC (.int 5)))) eNil))))) [oD Ns, oD Sh, oD (ni lt), none, none, none] = .ok A := by
    simp -implicitDefEqProofs only [eCall_def, eCons_def, eNil_def, eOp2_def, eV_def, eC_def, List.getElem?_cons_zero, List.getElem?_cons_succ, ok_bind]
    rw [show opIx true Sh (.int 1) = _ from s 1 (by omega), lift_some, ok_bind, show opMod (ni (p0.getD 1 0)) (.int 5) = _ from nat_mod _ 5 (by omega), lift_some, ok_bind, show opAdd true true (.int 1) (ni (p0.getD 1 0 % 5)) = _ from add_nat 1 _, hn1, lift_some]
    simp -implicitDefEqProofs only [ok_bind, eA, noX_ok]
  have v8 : (eIt true (eCall MLwords (eCons (eV 2) (eCons (eOp2 (opIx true) (eFn fLst (eCons (eC (.int 8)) (eCons (eC (.int 6)) (eCons (eC (.int 4)) eNil)))) (eOp2 (opSub) (eV 2) (eC (.int 1)))) eNil)))) [oD Ns, oD Sh, oD (ni lt), oD A, oD T, none] = .ok ((upto lt (maxL lt)).map .str) := by
    have em : (eOp2 (opIx true) (eFn fLst (eCons (eC (.int 8)) (eCons (eC (.int 6)) (eCons (eC (.int 4)) eNil)))) (eOp2 (opSub) (eV 2) (eC (.int 1)))) [oD Ns, oD Sh, oD (ni lt), oD A, oD T, none] = .ok (ni (maxL lt)) := by
      have : lt = 1 ∨ lt = 2 ∨ lt = 3 := by omega
      rcases this with h | h | h <;> (rw [h]; rfl)
    rw [eIt_def, call2 (eV_of rfl) em ew, ok_bind, asA_lst, if_pos (okElT _)]; rfl
  unfold Mlaw Blaw
  refine ret_of ?_
  show Ret _ [oD Ns, none, none, none, none, none] _
  refine .seq ((Nx.set v1).to rfl) (.seq ((Nx.set v2).to rfl) (.seq ((Nx.set v3).to rfl) (.seq ((Nx.set (call1 (eV_of rfl) eT)).to rfl) ?_)))
  refine .seq (.no (not_true (same_of (eV_of rfl) (call1 (eV_of rfl) eT') sT)) .nil) ?_
  refine .seq (.for v8 main) ?_
  exact .ret (same_of (call1 (eV_of rfl) eB') (call1 (eV_of rfl) eL') sL)
end GW

set_option maxHeartbeats 8000000
/-! the walk of law_k06_words_read_backwards, printed by vsgen.py -/
namespace GW
open PySem PySem.Spec PyProof.Rows L2 VS
def topS (i : Nat) : Stmt := PySem.Challenge.pw_viewedwords_k06_words_read_backwards.main.body.getD i (.Pass ⟨0, 0, 0, 0⟩)
def metS (i j : Nat) : Stmt := match topS i with
  | .ClassDef (body := b) .. => b.getD j (.Pass ⟨0, 0, 0, 0⟩)
  | _ => .Pass ⟨0, 0, 0, 0⟩
theorem u1 {A : Around} {k : Nat} (hr : Room k A) : A.units + 1 < cLine := by have := hr.un; omega
theorem u65 {A : Around} {k : Nat} (hr : Room k A) : A.units + 65 < cLine := by have := hr.un; omega
/-! ### _law_number -/
abbrev sLnumber : Stmt := topS 30
abbrev nLnumber : List Str := ["script", "k", "number"]
theorem scLnumber : FnScope nLnumber ["script", "k"] (defScope sLnumber) := ⟨rfl, rfl, rfl, by decide +kernel, rfl, by decide +kernel, by decide +kernel⟩
theorem ndLnumber : (nLnumber : List Str).Nodup := scLnumber.nd
/-! ### _law_draws -/
abbrev sLdraws : Stmt := topS 31
abbrev nLdraws : List Str := ["script", "k", "count", "many", "number", "found", "at", "state", "other"]
theorem scLdraws : FnScope nLdraws ["script", "k", "count", "many"] (defScope sLdraws) := ⟨rfl, rfl, rfl, by decide +kernel, rfl, by decide +kernel, by decide +kernel⟩
theorem ndLdraws : (nLdraws : List Str).Nodup := scLdraws.nd
/-! ### _law_machine -/
abbrev sLmachine : Stmt := topS 32
abbrev nLmachine : List Str := ["script", "k", "letters", "n", "picks", "rows", "p", "finals", "pick"]
theorem scLmachine : FnScope nLmachine ["script", "k", "letters", "n"] (defScope sLmachine) := ⟨rfl, rfl, rfl, by decide +kernel, rfl, by decide +kernel, by decide +kernel⟩
theorem ndLmachine : (nLmachine : List Str).Nodup := scLmachine.nd
/-! ### is_final -/
abbrev sis_final : Stmt := topS 6
abbrev nis_final : List Str := ["machine", "state"]
theorem scis_final : FnScope nis_final ["machine", "state"] (defScope sis_final) := ⟨rfl, rfl, rfl, by decide +kernel, rfl, by decide +kernel, by decide +kernel⟩
theorem ndis_final : (nis_final : List Str).Nodup := scis_final.nd
/-! ### first_parts -/
abbrev sfirst_parts : Stmt := topS 11
abbrev nfirst_parts : List Str := ["machine", "states", "state"]
theorem scfirst_parts : FnScope nfirst_parts ["machine", "states"] (defScope sfirst_parts) := ⟨rfl, rfl, rfl, by decide +kernel, rfl, by decide +kernel, by decide +kernel⟩
theorem ndfirst_parts : (nfirst_parts : List Str).Nodup := scfirst_parts.nd
/-! ### finer_parts -/
abbrev sfiner_parts : Stmt := topS 12
abbrev nfiner_parts : List Str := ["machine", "parts", "numbers", "found", "state", "key", "following"]
theorem scfiner_parts : FnScope nfiner_parts ["machine", "parts"] (defScope sfiner_parts) := ⟨rfl, rfl, rfl, by decide +kernel, rfl, by decide +kernel, by decide +kernel⟩
theorem ndfiner_parts : (nfiner_parts : List Str).Nodup := scfiner_parts.nd
/-! ### access_from -/
abbrev saccess_from : Stmt := topS 7
abbrev naccess_from : List Str := ["machine", "start", "found", "waiting", "at", "state", "index", "following"]
theorem scaccess_from : FnScope naccess_from ["machine", "start"] (defScope saccess_from) := ⟨rfl, rfl, rfl, by decide +kernel, rfl, by decide +kernel, by decide +kernel⟩
theorem ndaccess_from : (naccess_from : List Str).Nodup := scaccess_from.nd
/-! ### access_words -/
abbrev saccess_words : Stmt := topS 8
abbrev naccess_words : List Str := ["machine"]
theorem scaccess_words : FnScope naccess_words ["machine"] (defScope saccess_words) := ⟨rfl, rfl, rfl, by decide +kernel, rfl, by decide +kernel, by decide +kernel⟩
theorem ndaccess_words : (naccess_words : List Str).Nodup := scaccess_words.nd
/-! ### reachable -/
abbrev sreachable : Stmt := topS 9
abbrev nreachable : List Str := ["machine", "found", "state"]
theorem screachable : FnScope nreachable ["machine"] (defScope sreachable) := ⟨rfl, rfl, rfl, by decide +kernel, rfl, by decide +kernel, by decide +kernel⟩
theorem ndreachable : (nreachable : List Str).Nodup := screachable.nd
/-! ### part_count -/
abbrev spart_count : Stmt := topS 13
abbrev npart_count : List Str := ["parts"]
theorem scpart_count : FnScope npart_count ["parts"] (defScope spart_count) := ⟨rfl, rfl, rfl, by decide +kernel, rfl, by decide +kernel, by decide +kernel⟩
theorem ndpart_count : (npart_count : List Str).Nodup := scpart_count.nd
/-! ### same_parts -/
abbrev ssame_parts : Stmt := topS 14
abbrev nsame_parts : List Str := ["machine", "parts", "finer"]
theorem scsame_parts : FnScope nsame_parts ["machine"] (defScope ssame_parts) := ⟨rfl, rfl, rfl, by decide +kernel, rfl, by decide +kernel, by decide +kernel⟩
theorem ndsame_parts : (nsame_parts : List Str).Nodup := scsame_parts.nd
/-! ### numbered_states -/
abbrev snumbered_states : Stmt := topS 15
abbrev nnumbered_states : List Str := ["machine", "parts", "chosen", "seen", "at", "following"]
theorem scnumbered_states : FnScope nnumbered_states ["machine", "parts"] (defScope snumbered_states) := ⟨rfl, rfl, rfl, by decide +kernel, rfl, by decide +kernel, by decide +kernel⟩
theorem ndnumbered_states : (nnumbered_states : List Str).Nodup := scnumbered_states.nd
/-! ### least -/
abbrev sleast : Stmt := topS 16
abbrev nleast : List Str := ["machine", "parts", "chosen", "numbers", "rows", "finals", "index", "state", "following"]
theorem scleast : FnScope nleast ["machine"] (defScope sleast) := ⟨rfl, rfl, rfl, by decide +kernel, rfl, by decide +kernel, by decide +kernel⟩
theorem ndleast : (nleast : List Str).Nodup := scleast.nd
/-! ### bounded -/
abbrev sbounded : Stmt := topS 26
abbrev nbounded : List Str := ["machine", "small"]
theorem scbounded : FnScope nbounded ["machine"] (defScope sbounded) := ⟨rfl, rfl, rfl, by decide +kernel, rfl, by decide +kernel, by decide +kernel⟩
theorem ndbounded : (nbounded : List Str).Nodup := scbounded.nd
/-! ### final_set -/
abbrev sfinal_set : Stmt := topS 22
abbrev nfinal_set : List Str := ["machine", "state"]
theorem scfinal_set : FnScope nfinal_set ["machine"] (defScope sfinal_set) := ⟨rfl, rfl, rfl, by decide +kernel, rfl, by decide +kernel, by decide +kernel⟩
theorem ndfinal_set : (nfinal_set : List Str).Nodup := scfinal_set.nd
/-! ### BackWalk.begin -/
abbrev sBackWalk_begin : Stmt := metS 24 1
abbrev nBackWalk_begin : List Str := ["self"]
theorem scBackWalk_begin : FnScope nBackWalk_begin ["self"] (defScope sBackWalk_begin) := ⟨rfl, rfl, rfl, by decide +kernel, rfl, by decide +kernel, by decide +kernel⟩
theorem ndBackWalk_begin : (nBackWalk_begin : List Str).Nodup := scBackWalk_begin.nd
/-! ### has_state -/
abbrev shas_state : Stmt := topS 21
abbrev nhas_state : List Str := ["mask", "state"]
theorem schas_state : FnScope nhas_state ["mask", "state"] (defScope shas_state) := ⟨rfl, rfl, rfl, by decide +kernel, rfl, by decide +kernel, by decide +kernel⟩
theorem ndhas_state : (nhas_state : List Str).Nodup := schas_state.nd
/-! ### source_set -/
abbrev ssource_set : Stmt := topS 23
abbrev nsource_set : List Str := ["machine", "mask", "index", "found", "state"]
theorem scsource_set : FnScope nsource_set ["machine", "mask", "index"] (defScope ssource_set) := ⟨rfl, rfl, rfl, by decide +kernel, rfl, by decide +kernel, by decide +kernel⟩
theorem ndsource_set : (nsource_set : List Str).Nodup := scsource_set.nd
/-! ### BackWalk.follow -/
abbrev sBackWalk_follow : Stmt := metS 24 2
abbrev nBackWalk_follow : List Str := ["self", "mask", "index"]
theorem scBackWalk_follow : FnScope nBackWalk_follow ["self", "mask", "index"] (defScope sBackWalk_follow) := ⟨rfl, rfl, rfl, by decide +kernel, rfl, by decide +kernel, by decide +kernel⟩
theorem ndBackWalk_follow : (nBackWalk_follow : List Str).Nodup := scBackWalk_follow.nd
/-! ### BackWalk.ends -/
abbrev sBackWalk_ends : Stmt := metS 24 3
abbrev nBackWalk_ends : List Str := ["self", "mask"]
theorem scBackWalk_ends : FnScope nBackWalk_ends ["self", "mask"] (defScope sBackWalk_ends) := ⟨rfl, rfl, rfl, by decide +kernel, rfl, by decide +kernel, by decide +kernel⟩
theorem ndBackWalk_ends : (nBackWalk_ends : List Str).Nodup := scBackWalk_ends.nd
/-! ### explored -/
abbrev sexplored : Stmt := topS 19
abbrev nexplored : List Str := ["walk", "letters", "things", "numbers", "rows", "row", "index", "thing", "finals", "number"]
theorem scexplored : FnScope nexplored ["walk", "letters"] (defScope sexplored) := ⟨rfl, rfl, rfl, by decide +kernel, rfl, by decide +kernel, by decide +kernel⟩
theorem ndexplored : (nexplored : List Str).Nodup := scexplored.nd
/-! ### BackWalk.__init__ -/
abbrev sBackWalk_init : Stmt := metS 24 0
abbrev nBackWalk_init : List Str := ["self", "machine"]
theorem scBackWalk_init : FnScope nBackWalk_init ["self", "machine"] (defScope sBackWalk_init) := ⟨rfl, rfl, rfl, by decide +kernel, rfl, by decide +kernel, by decide +kernel⟩
theorem ndBackWalk_init : (nBackWalk_init : List Str).Nodup := scBackWalk_init.nd
/-! ### reversal -/
abbrev sreversal : Stmt := topS 27
abbrev nreversal : List Str := ["machine"]
theorem screversal : FnScope nreversal ["machine"] (defScope sreversal) := ⟨rfl, rfl, rfl, by decide +kernel, rfl, by decide +kernel, by decide +kernel⟩
theorem ndreversal : (nreversal : List Str).Nodup := screversal.nd
/-! ### _law_words -/
abbrev sLwords : Stmt := topS 33
abbrev nLwords : List Str := ["letters", "length", "found", "level", "k", "longer", "word", "letter"]
theorem scLwords : FnScope nLwords ["letters", "length"] (defScope sLwords) := ⟨rfl, rfl, rfl, by decide +kernel, rfl, by decide +kernel, by decide +kernel⟩
theorem ndLwords : (nLwords : List Str).Nodup := scLwords.nd
/-! ### _law_same -/
abbrev sLsame : Stmt := topS 29
abbrev nLsame : List Str := ["told", "due", "k"]
theorem scLsame : FnScope nLsame ["told", "due"] (defScope sLsame) := ⟨rfl, rfl, rfl, by decide +kernel, rfl, by decide +kernel, by decide +kernel⟩
theorem ndLsame : (nLsame : List Str).Nodup := scLsame.nd
/-! ### _law_parted -/
abbrev sLparted : Stmt := topS 37
abbrev nLparted : List Str := ["machine", "states", "parted", "before", "p", "q", "apart", "i"]
theorem scLparted : FnScope nLparted ["machine", "states"] (defScope sLparted) := ⟨rfl, rfl, rfl, by decide +kernel, rfl, by decide +kernel, by decide +kernel⟩
theorem ndLparted : (nLparted : List Str).Nodup := scLparted.nd
/-! ### _law_least -/
abbrev sLleast : Stmt := topS 36
abbrev nLleast : List Str := ["machine", "found", "at", "q", "parted", "chosen", "p", "order", "following", "rows", "r", "j"]
theorem scLleast : FnScope nLleast ["machine"] (defScope sLleast) := ⟨rfl, rfl, rfl, by decide +kernel, rfl, by decide +kernel, by decide +kernel⟩
theorem ndLleast : (nLleast : List Str).Nodup := scLleast.nd
/-! ### _law_back -/
abbrev sLback : Stmt := topS 38
abbrev nLback : List Str := ["machine", "n", "sets", "rows", "at", "row", "i", "following", "p", "k"]
theorem scLback : FnScope nLback ["machine"] (defScope sLback) := ⟨rfl, rfl, rfl, by decide +kernel, rfl, by decide +kernel, by decide +kernel⟩
theorem ndLback : (nLback : List Str).Nodup := scLback.nd
/-! ### _law_state -/
abbrev sLstate : Stmt := topS 34
abbrev nLstate : List Str := ["machine", "state", "word", "letter"]
theorem scLstate : FnScope nLstate ["machine", "state", "word"] (defScope sLstate) := ⟨rfl, rfl, rfl, by decide +kernel, rfl, by decide +kernel, by decide +kernel⟩
theorem ndLstate : (nLstate : List Str).Nodup := scLstate.nd
/-! ### _law_accepts -/
abbrev sLaccepts : Stmt := topS 35
abbrev nLaccepts : List Str := ["machine", "word"]
theorem scLaccepts : FnScope nLaccepts ["machine", "word"] (defScope sLaccepts) := ⟨rfl, rfl, rfl, by decide +kernel, rfl, by decide +kernel, by decide +kernel⟩
theorem ndLaccepts : (nLaccepts : List Str).Nodup := scLaccepts.nd
/-! ### _law_turned -/
abbrev sLturned : Stmt := topS 39
abbrev nLturned : List Str := ["word", "k"]
theorem scLturned : FnScope nLturned ["word"] (defScope sLturned) := ⟨rfl, rfl, rfl, by decide +kernel, rfl, by decide +kernel, by decide +kernel⟩
theorem ndLturned : (nLturned : List Str).Nodup := scLturned.nd
/-! ### law -/
abbrev slaw : Stmt := topS 40
abbrev nlaw : List Str := ["script", "shape", "letters", "machine", "told", "word"]
theorem sclaw : FnScope nlaw ["script"] (defScope slaw) := ⟨rfl, rfl, rfl, by decide +kernel, rfl, by decide +kernel, by decide +kernel⟩
theorem ndlaw : (nlaw : List Str).Nodup := sclaw.nd
/-! ### the text -/
structure Txt (K : PySem.W.Frag) (mg : Str → Option Value) : Prop where
  d_Lnumber : Def K mg "_law_number" sLnumber
  d_Ldraws : Def K mg "_law_draws" sLdraws
  d_Lmachine : Def K mg "_law_machine" sLmachine
  d_is_final : Def K mg "is_final" sis_final
  d_first_parts : Def K mg "first_parts" sfirst_parts
  d_finer_parts : Def K mg "finer_parts" sfiner_parts
  d_access_from : Def K mg "access_from" saccess_from
  d_access_words : Def K mg "access_words" saccess_words
  d_reachable : Def K mg "reachable" sreachable
  d_part_count : Def K mg "part_count" spart_count
  d_same_parts : Def K mg "same_parts" ssame_parts
  d_numbered_states : Def K mg "numbered_states" snumbered_states
  d_least : Def K mg "least" sleast
  d_bounded : Def K mg "bounded" sbounded
  d_final_set : Def K mg "final_set" sfinal_set
  d_BackWalk_begin : MDef K mg "BackWalk" "begin" "BackWalk.begin" sBackWalk_begin
  d_has_state : Def K mg "has_state" shas_state
  d_source_set : Def K mg "source_set" ssource_set
  d_BackWalk_follow : MDef K mg "BackWalk" "follow" "BackWalk.follow" sBackWalk_follow
  d_BackWalk_ends : MDef K mg "BackWalk" "ends" "BackWalk.ends" sBackWalk_ends
  d_explored : Def K mg "explored" sexplored
  d_BackWalk_init : IDef K mg "BackWalk" "BackWalk.__init__" sBackWalk_init ["machine"]
  d_reversal : Def K mg "reversal" sreversal
  d_Lwords : Def K mg "_law_words" sLwords
  d_Lsame : Def K mg "_law_same" sLsame
  d_Lparted : Def K mg "_law_parted" sLparted
  d_Lleast : Def K mg "_law_least" sLleast
  d_Lback : Def K mg "_law_back" sLback
  d_Lstate : Def K mg "_law_state" sLstate
  d_Laccepts : Def K mg "_law_accepts" sLaccepts
  d_Lturned : Def K mg "_law_turned" sLturned
  d_law : Def K mg "law" slaw
  at_BackWalk_machine : Ats K mg "BackWalk" "machine"
  z_abs : mg "abs" = none
  z_bool : mg "bool" = none
  z_int : mg "int" = none
  z_isinstance : mg "isinstance" = none
  z_len : mg "len" = none
  z_list : mg "list" = none
  z_range : mg "range" = none
  z_set : mg "set" = none
  z_str : mg "str" = none
  z_sum : mg "sum" = none
  z_tuple : mg "tuple" = none
  k_LETTERS : ∃ t, mg "LETTERS" = some (.str "abc" t)
  k_MAX_STATES : ∃ t, mg "MAX_STATES" = some (.int 40 t)
  k_MOST_THINGS : ∃ t, mg "MOST_THINGS" = some (.int 1000 t)
variable {P : Program} {w : World} {K : PySem.W.Frag} {mg : Str → Option Value} {base : Heap}
theorem Txt.c_LETTERS {X : Cx} {W : VS.WX} {pos : Pos} (T : Txt X.K X.mg) (hg : Gl X "LETTERS") : PX X W true (.Name "LETTERS" pos) (eC (.str [97, 98, 99])) := by
  obtain ⟨t, h⟩ := T.k_LETTERS
  exact px_glob (v := .str (S [97, 98, 99])) (fun _ => .str _) h ⟨t, congrArg (fun z => Value.str z t) (by decide +kernel : ("abc" : Str) = S [97, 98, 99])⟩ hg
theorem Txt.c_MAX_STATES {X : Cx} {W : VS.WX} {pos : Pos} (T : Txt X.K X.mg) (hg : Gl X "MAX_STATES") : PX X W true (.Name "MAX_STATES" pos) (eC (.int 40)) := by
  obtain ⟨t, h⟩ := T.k_MAX_STATES
  exact px_glob (v := .int 40) (fun _ => .int _) h ⟨t, rfl⟩ hg
theorem Txt.c_MOST_THINGS {X : Cx} {W : VS.WX} {pos : Pos} (T : Txt X.K X.mg) (hg : Gl X "MOST_THINGS") : PX X W true (.Name "MOST_THINGS" pos) (eC (.int 1000)) := by
  obtain ⟨t, h⟩ := T.k_MOST_THINGS
  exact px_glob (v := .int 1000) (fun _ => .int _) h ⟨t, rfl⟩ hg
theorem okLnumber (T : Txt K mg)  : Cal P w K mg base 1 "_law_number" ["script", "k"] MLnumber :=
  cal_of T.d_Lnumber scLnumber (fun _ _ _ _ _ _ us hl => match us, hl with | [_, _], _ => rfl) fun f cdv A outer s H E hr =>
    (pxs_cons (pxs_set 2 (px_op op_addD ok_add (px_op (op_mul.or op_mulS) ok_mul (px_fn (cr_sum rfl) ok_sum T.z_sum (pxa_cons (px_v 0) pxa_nil)) px_int) (px_op (op_mul.or op_mulS) ok_mul px_int (px_op op_addD ok_add (px_v 1) px_int))) ndLnumber)
    (pxs_cons (pxs_if (pxt_cmp op_lt (ok_rel (f := fun i j => decide (i < j))) (px_v 1) (px_fn call_lenA ok_len T.z_len (pxa_cons (px_v 0) pxa_nil)) (nomark _))
    (pxs_one (pxs_set 2 (px_ix (px_v 0) (px_v 1)) ndLnumber))
    pxs_nil)
    (pxs_one (pxs_ret (px_fn call_abs ok_abs T.z_abs (pxa_cons (px_v 2) pxa_nil))))))
theorem okLdraws (T : Txt K mg) (CLnumber : Cal P w K mg base 1 "_law_number" ["script", "k"] MLnumber) : Cal P w K mg base 2 "_law_draws" ["script", "k", "count", "many"] MLdraws :=
  cal_of T.d_Ldraws scLdraws (fun _ _ _ _ _ _ us hl => match us, hl with | [_, _, _, _], _ => rfl) fun f cdv A outer s H E hr =>
    (pxs_cons (pxs_set 4 (px_callC CLnumber hr (by decide) (pxa_cons (px_v 0) (pxa_cons (px_v 1) pxa_nil)) (fun _ _ => (len_cons fun _ => (len_cons fun _ => len_nil)))) ndLdraws)
    (pxs_cons (pxs_setO 5 (pf_lst pxa_nil) ndLdraws)
    (pxs_cons (pxs_if (pxt_cmp op_ge (ok_rel (f := fun i j => decide (j ≤ i))) (px_v 4) (px_op op_pow ok_pow px_int px_int) (nomark _))
    (pxs_cons (pxs_set 4 (px_op op_sub ok_sub (px_v 4) (px_op op_pow ok_pow px_int px_int)) ndLdraws)
    (pxs_cons (pxs_for 6 PassesOwn.never rfl (src_r1 (b' := true) T.z_range (px_v 2))
    (pxs_cons (pxs_app 5 (px_op op_mod ok_mod (px_v 4) (px_v 3)))
    (pxs_one (pxs_set 4 (px_op op_fdiv ok_div (px_v 4) (px_v 3)) ndLdraws))) ndLdraws)
    (pxs_one (pxs_fz 5 (pxs_ret (px_v 5))))))
    pxs_nil)
    (pxs_cons (pxs_set 7 (px_op op_addD ok_add (px_op op_mod ok_mod (px_v 4) px_int) px_int) ndLdraws)
    (pxs_cons (pxs_for 6 PassesOwn.never rfl (src_r1 (b' := true) T.z_range (px_v 2))
    (pxs_cons (pxs_set 7 (px_op op_mod ok_mod (px_op op_addD ok_add (px_op op_addD ok_add (px_op (op_mul.or op_mulS) ok_mul (px_v 7) px_int) (px_op (op_mul.or op_mulS) ok_mul px_int (px_v 6))) px_int) px_int) ndLdraws)
    (pxs_cons (pxs_set 8 (px_op op_mod ok_mod (px_op op_addD ok_add (px_op op_addD ok_add (px_op (op_mul.or op_mulS) ok_mul (px_v 7) (px_v 7)) (px_op (op_mul.or op_mulS) ok_mul px_int (px_v 6))) px_int) px_int) ndLdraws)
    (pxs_one (pxs_app 5 (px_op op_mod ok_mod (px_op op_fdiv ok_div (px_v 8) px_int) (px_v 3)))))) ndLdraws)
    (pxs_one (pxs_fz 5 (pxs_ret (px_v 5)))))))))
theorem okLmachine (T : Txt K mg) (CLdraws : Cal P w K mg base 2 "_law_draws" ["script", "k", "count", "many"] MLdraws) : Cal P w K mg base 3 "_law_machine" ["script", "k", "letters", "n"] MLmachine :=
  cal_of T.d_Lmachine scLmachine (fun _ _ _ _ _ _ us hl => match us, hl with | [_, _, _, _], _ => rfl) fun f cdv A outer s H E hr =>
    (pxs_cons (pxs_set 4 (px_callC CLdraws hr (by decide) (pxa_cons (px_v 0) (pxa_cons (px_v 1) (pxa_cons (px_op op_addD ok_add (px_op (op_mul.or op_mulS) ok_mul (px_v 3) (px_v 2)) (px_v 3)) (pxa_cons (px_op (op_mul.or op_mulS) ok_mul (px_v 3) px_int) pxa_nil)))) (fun _ _ => (len_cons fun _ => (len_cons fun _ => (len_cons fun _ => (len_cons fun _ => len_nil)))))) ndLmachine)
    (pxs_cons (pxs_setO 5 (pf_lst pxa_nil) ndLmachine)
    (pxs_cons (pxs_for 6 PassesOwn.never rfl (src_r1 (b' := true) T.z_range (px_v 3))
    (pxs_one (pxs_app 5 (px_ty call_tuple_of ok_tuple T.z_tuple (pxa_cons (px_lc 8 rfl ndLmachine (src_any (px_sl (px_v 4) (pxo_some (px_op (op_mul.or op_mulS) ok_mul (px_v 6) (px_v 2))) (pxo_some (px_op op_addD ok_add (px_op (op_mul.or op_mulS) ok_mul (px_v 6) (px_v 2)) (px_v 2))))) (blkOk_by (own := [("pick", 8)]) (N := nLmachine) (by kernel_rfl)) (fun _ _ _ _ _ => pg_name (i := 8) ndLmachine rfl (by first | exact Or.inl rfl | exact Or.inr rfl)) (fun _ _ _ _ _ => pxts_nil) (fun _ _ _ _ _ => (px_op op_mod ok_mod (px_v 8) (px_v 3)))) pxa_nil)))) ndLmachine)
    (pxs_cons (pxs_setLc 7 6 rfl ndLmachine (sw_true rfl rfl rfl (by decide +kernel)) (src_r1 (b' := true) T.z_range (px_v 3)) (blkOk_by (own := [("p", 6)]) (N := nLmachine) (by kernel_rfl)) (fun _ _ _ _ _ => pg_name (i := 6) ndLmachine rfl (by first | exact Or.inl rfl | exact Or.inr rfl)) (fun _ _ _ _ _ => (pxts_one (pxt_cmp (op_eqD hr.units) ok_eq (px_op op_mod ok_mod (px_ix (px_v 4) (px_op op_addD ok_add (px_op (op_mul.or op_mulS) ok_mul (px_v 3) (px_v 2)) (px_v 6))) px_int) px_int (nomark _)))) (fun _ _ _ _ _ => (px_v 6)))
    (pxs_one (pxs_ret (px_tup (pxa_cons (px_v 2) (pxa_cons (px_ty call_tuple_of ok_tuple T.z_tuple (pxa_cons (px_l 5) pxa_nil)) (pxa_cons (px_ty call_tuple_of ok_tuple T.z_tuple (pxa_cons (px_v 7) pxa_nil)) pxa_nil))))))))))
theorem okis_final (T : Txt K mg)  : Cal P w K mg base 1 "is_final" ["machine", "state"] Mis_final :=
  cal_of T.d_is_final scis_final (fun _ _ _ _ _ _ us hl => match us, hl with | [_, _], _ => rfl) fun f cdv A outer s H E hr =>
    (pxs_one (pxs_ret (px_cmp (op_inX (u65 hr)) ok_inS (px_v 1) (px_ix (px_v 0) px_int) (by rfl))))
theorem okfirst_parts (T : Txt K mg) (Cis_final : Cal P w K mg base 1 "is_final" ["machine", "state"] Mis_final) : Cal P w K mg base 2 "first_parts" ["machine", "states"] Mfirst_parts :=
  cal_of T.d_first_parts scfirst_parts (fun _ _ _ _ _ _ us hl => match us, hl with | [_, _], _ => rfl) fun f cdv A outer s H E hr =>
    (pxs_one (pxs_ret (px_lk (pf_dc 2 rfl ndfirst_parts (src_any (px_v 1)) (blkOk_by (own := [("state", 2)]) (N := nfirst_parts) (by kernel_rfl)) (fun _ _ _ _ _ => pg_name (i := 2) ndfirst_parts rfl (by first | exact Or.inl rfl | exact Or.inr rfl)) (fun _ _ _ _ _ => pxts_nil) (fun _ _ _ _ _ => (px_v 2)) (fun _ _ _ _ _ => (px_ty call_int1 ok_int T.z_int (pxa_cons (px_callC Cis_final hr (by decide) (pxa_cons (px_v 0) (pxa_cons (px_v 2) pxa_nil)) (fun _ _ => (len_cons fun _ => (len_cons fun _ => len_nil)))) pxa_nil)))))))
theorem okfiner_parts (T : Txt K mg)  : Cal P w K mg base 1 "finer_parts" ["machine", "parts"] Mfiner_parts :=
  cal_of T.d_finer_parts scfiner_parts (fun _ _ _ _ _ _ us hl => match us, hl with | [_, _], _ => rfl) fun f cdv A outer s H E hr =>
    (pxs_cons (pxs_setO 2 pf_nnew ndfiner_parts)
    (pxs_cons (pxs_setO 3 pf_dnew ndfiner_parts)
    (pxs_cons (pxs_for 4 PassesOwn.never rfl (src_keys (b := true) (px_v 1))
    (pxs_cons (pxs_set 5 (px_tup (pxa_cons (px_dix 1 (u1 hr) (px_v 4)) (pxa_cons (px_ty call_tuple_of ok_tuple T.z_tuple (pxa_cons (px_lc 6 rfl ndfiner_parts (src_any (px_ix (px_ix (px_v 0) px_int) (px_v 4))) (blkOk_by (own := [("following", 6)]) (N := nfiner_parts) (by kernel_rfl)) (fun _ _ _ _ _ => pg_name (i := 6) ndfiner_parts rfl (by first | exact Or.inl rfl | exact Or.inr rfl)) (fun _ _ _ _ _ => pxts_nil) (fun _ _ _ _ _ => (px_dix 1 (u1 hr) (px_v 6)))) pxa_nil)) pxa_nil))) ndfiner_parts)
    (pxs_cons (pxs_if (pxt_nnotin 2 (u65 hr) (px_v 5))
    (pxs_one (pxs_nset 2 (u65 hr) (px_fn call_lenN ok_lenN T.z_len (pxa_cons (px_l 2) pxa_nil)) (px_v 5)))
    pxs_nil)
    (pxs_one (pxs_dset 3 (u1 hr) (px_nix 2 (u65 hr) (px_v 5)) (px_v 4))))) ndfiner_parts)
    (pxs_one (pxs_fzK 3 (pxs_ret (px_v 3)))))))
theorem okaccess_from (T : Txt K mg)  : Cal P w K mg base 1 "access_from" ["machine", "start"] Maccess_from :=
  cal_of T.d_access_from scaccess_from (fun _ _ _ _ _ _ us hl => match us, hl with | [_, _], _ => rfl) fun f cdv A outer s H E hr =>
    (pxs_cons (pxs_setLcO 2 5 rfl ndaccess_from (sw_true rfl rfl rfl (by decide +kernel)) (src_any (px_ix (px_v 0) px_int)) (blkOk_by (own := [("state", 5)]) (N := naccess_from) (by kernel_rfl)) (fun _ _ _ _ _ => pg_name (i := 5) ndaccess_from rfl (by first | exact Or.inl rfl | exact Or.inr rfl)) (fun _ _ _ _ _ => pxts_nil) (fun _ _ _ _ _ => px_non))
    (pxs_cons (pxs_ixset 2 (px_str []) (px_v 1))
    (pxs_cons (pxs_setO 3 (pf_lst (pxa_cons (px_v 1) pxa_nil)) ndaccess_from)
    (pxs_cons (pxs_set 4 px_int ndaccess_from)
    (pxs_cons (pxs_while wN PassesOwn.never (pxt_cmp op_lt (ok_rel (f := fun i j => decide (i < j))) (px_v 4) (px_fn call_lenA ok_len T.z_len (pxa_cons (px_l 3) pxa_nil)) (nomark _))
    (pxs_cons (pxs_set 5 (px_ixo 3 (px_v 4)) ndaccess_from)
    (pxs_cons (pxs_for 6 PassesOwn.never rfl (src_r1 (b' := true) T.z_range (px_ix (px_v 0) px_int))
    (pxs_cons (pxs_set 7 (px_ix (px_ix (px_ix (px_v 0) px_int) (px_v 5)) (px_v 6)) ndaccess_from)
    (pxs_one (pxs_if (pxt_cmp op_isN ok_is (px_ixo 2 (px_v 7)) px_non (nomark _))
    (pxs_cons (pxs_ixset 2 (px_op op_addD ok_add (px_ixo 2 (px_v 5)) (px_ix (T.c_LETTERS (by rfl)) (px_v 6))) (px_v 7))
    (pxs_one (pxs_app 3 (px_v 7))))
    pxs_nil))) ndaccess_from)
    (pxs_one (pxs_set 4 (px_op op_addD ok_add (px_v 4) px_int) ndaccess_from)))))
    (pxs_one (pxs_fz 2 (pxs_ret (px_v 2)))))))))
theorem okaccess_words (T : Txt K mg) (Caccess_from : Cal P w K mg base 1 "access_from" ["machine", "start"] Maccess_from) : Cal P w K mg base 2 "access_words" ["machine"] Maccess_words :=
  cal_of T.d_access_words scaccess_words (fun _ _ _ _ _ _ us hl => match us, hl with | [_], _ => rfl) fun f cdv A outer s H E hr =>
    (pxs_one (pxs_ret (px_callC Caccess_from hr (by decide) (pxa_cons (px_v 0) (pxa_cons px_int pxa_nil)) (fun _ _ => (len_cons fun _ => (len_cons fun _ => len_nil))))))
theorem okreachable (T : Txt K mg) (Caccess_words : Cal P w K mg base 2 "access_words" ["machine"] Maccess_words) : Cal P w K mg base 3 "reachable" ["machine"] Mreachable :=
  cal_of T.d_reachable screachable (fun _ _ _ _ _ _ us hl => match us, hl with | [_], _ => rfl) fun f cdv A outer s H E hr =>
    (pxs_cons (pxs_set 1 (px_callC Caccess_words hr (by decide) (pxa_cons (px_v 0) pxa_nil) (fun _ _ => (len_cons fun _ => len_nil))) ndreachable)
    (pxs_one (pxs_ret (px_lc 2 rfl ndreachable (src_r1 (b' := true) T.z_range (px_fn call_lenA ok_len T.z_len (pxa_cons (px_v 1) pxa_nil))) (blkOk_by (own := [("state", 2)]) (N := nreachable) (by kernel_rfl)) (fun _ _ _ _ _ => pg_name (i := 2) ndreachable rfl (by first | exact Or.inl rfl | exact Or.inr rfl)) (fun _ _ _ _ _ => (pxts_one (pxt_cmp op_notN ok_isnt (px_ix (px_v 1) (px_v 2)) px_non (nomark _)))) (fun _ _ _ _ _ => (px_v 2))))))
theorem okpart_count (T : Txt K mg)  : Cal P w K mg base 1 "part_count" ["parts"] Mpart_count :=
  cal_of T.d_part_count scpart_count (fun _ _ _ _ _ _ us hl => match us, hl with | [_], _ => rfl) fun f cdv A outer s H E hr =>
    (pxs_one (pxs_ret (px_lenSet rfl T.z_len T.z_set (px_listVals rfl T.z_list (px_v 0)))))
theorem oksame_parts (T : Txt K mg) (Cfirst_parts : Cal P w K mg base 2 "first_parts" ["machine", "states"] Mfirst_parts) (Creachable : Cal P w K mg base 3 "reachable" ["machine"] Mreachable) (Cfiner_parts : Cal P w K mg base 1 "finer_parts" ["machine", "parts"] Mfiner_parts) (Cpart_count : Cal P w K mg base 1 "part_count" ["parts"] Mpart_count) : Cal P w K mg base 4 "same_parts" ["machine"] Msame_parts :=
  cal_of T.d_same_parts scsame_parts (fun _ _ _ _ _ _ us hl => match us, hl with | [_], _ => rfl) fun f cdv A outer s H E hr =>
    (pxs_cons (pxs_set 1 (px_callC Cfirst_parts hr (by decide) (pxa_cons (px_v 0) (pxa_cons (px_callC Creachable hr (by decide) (pxa_cons (px_v 0) pxa_nil) (fun _ _ => (len_cons fun _ => len_nil))) pxa_nil)) (fun _ _ => (len_cons fun _ => (len_cons fun _ => len_nil)))) ndsame_parts)
    (pxs_cons (pxs_set 2 (px_callC Cfiner_parts hr (by decide) (pxa_cons (px_v 0) (pxa_cons (px_v 1) pxa_nil)) (fun _ _ => (len_cons fun _ => (len_cons fun _ => len_nil)))) ndsame_parts)
    (pxs_cons (pxs_while wN PassesOwn.never (pxt_cmp op_gt (ok_rel (f := fun i j => decide (j < i))) (px_callC Cpart_count hr (by decide) (pxa_cons (px_v 2) pxa_nil) (fun _ _ => (len_cons fun _ => len_nil))) (px_callC Cpart_count hr (by decide) (pxa_cons (px_v 1) pxa_nil) (fun _ _ => (len_cons fun _ => len_nil))) (nomark _))
    (pxs_cons (pxs_set 1 (px_v 2) ndsame_parts)
    (pxs_one (pxs_set 2 (px_callC Cfiner_parts hr (by decide) (pxa_cons (px_v 0) (pxa_cons (px_v 1) pxa_nil)) (fun _ _ => (len_cons fun _ => (len_cons fun _ => len_nil)))) ndsame_parts))))
    (pxs_one (pxs_ret (px_v 1))))))
theorem oknumbered_states (T : Txt K mg)  : Cal P w K mg base 1 "numbered_states" ["machine", "parts"] Mnumbered_states :=
  cal_of T.d_numbered_states scnumbered_states (fun _ _ _ _ _ _ us hl => match us, hl with | [_, _], _ => rfl) fun f cdv A outer s H E hr =>
    (pxs_cons (pxs_setO 2 (pf_lst (pxa_cons px_int pxa_nil)) ndnumbered_states)
    (pxs_cons (pxs_setO 3 (pf_d1x (px_dix 1 (u1 hr) px_int) px_bl) ndnumbered_states)
    (pxs_cons (pxs_set 4 px_int ndnumbered_states)
    (pxs_cons (pxs_while wN PassesOwn.never (pxt_cmp op_lt (ok_rel (f := fun i j => decide (i < j))) (px_v 4) (px_fn call_lenA ok_len T.z_len (pxa_cons (px_l 2) pxa_nil)) (nomark _))
    (pxs_cons (pxs_for 5 PassesOwn.never rfl (src_any (px_ix (px_ix (px_v 0) px_int) (px_ixo 2 (px_v 4))))
    (pxs_one (pxs_if (pxt_dnotin 3 (u1 hr) (px_dix 1 (u1 hr) (px_v 5)))
    (pxs_cons (pxs_dset 3 (u1 hr) px_bl (px_dix 1 (u1 hr) (px_v 5)))
    (pxs_one (pxs_app 2 (px_v 5))))
    pxs_nil)) ndnumbered_states)
    (pxs_one (pxs_set 4 (px_op op_addD ok_add (px_v 4) px_int) ndnumbered_states))))
    (pxs_one (pxs_fz 2 (pxs_ret (px_v 2))))))))
theorem okleast (T : Txt K mg) (Csame_parts : Cal P w K mg base 4 "same_parts" ["machine"] Msame_parts) (Cnumbered_states : Cal P w K mg base 1 "numbered_states" ["machine", "parts"] Mnumbered_states) (Cis_final : Cal P w K mg base 1 "is_final" ["machine", "state"] Mis_final) : Cal P w K mg base 5 "least" ["machine"] Mleast :=
  cal_of T.d_least scleast (fun _ _ _ _ _ _ us hl => match us, hl with | [_], _ => rfl) fun f cdv A outer s H E hr =>
    (pxs_cons (pxs_set 1 (px_callC Csame_parts hr (by decide) (pxa_cons (px_v 0) pxa_nil) (fun _ _ => (len_cons fun _ => len_nil))) ndleast)
    (pxs_cons (pxs_set 2 (px_callC Cnumbered_states hr (by decide) (pxa_cons (px_v 0) (pxa_cons (px_v 1) pxa_nil)) (fun _ _ => (len_cons fun _ => (len_cons fun _ => len_nil)))) ndleast)
    (pxs_cons (pxs_setO 3 (pf_dc 6 rfl ndleast (src_r1 (b' := true) T.z_range (px_fn call_lenA ok_len T.z_len (pxa_cons (px_v 2) pxa_nil))) (blkOk_by (own := [("index", 6)]) (N := nleast) (by kernel_rfl)) (fun _ _ _ _ _ => pg_name (i := 6) ndleast rfl (by first | exact Or.inl rfl | exact Or.inr rfl)) (fun _ _ _ _ _ => pxts_nil) (fun _ _ _ _ _ => (px_dix 1 (u1 hr) (px_ix (px_v 2) (px_v 6)))) (fun _ _ _ _ _ => (px_v 6))) ndleast)
    (pxs_cons (pxs_setLc 4 7 rfl ndleast (sw_true rfl rfl rfl (by decide +kernel)) (src_any (px_v 2)) (blkOk_by (own := [("state", 7)]) (N := nleast) (by kernel_rfl)) (fun _ _ _ _ _ => pg_name (i := 7) ndleast rfl (by first | exact Or.inl rfl | exact Or.inr rfl)) (fun _ _ _ _ _ => pxts_nil) (fun _ _ _ _ _ => (px_ty call_tuple_of ok_tuple T.z_tuple (pxa_cons (px_lc 8 rfl ndleast (src_any (px_ix (px_ix (px_v 0) px_int) (px_v 7))) (blkOk_by (own := [("following", 8)]) (N := nleast) (by kernel_rfl)) (fun _ _ _ _ _ => pg_name (i := 8) ndleast rfl (by first | exact Or.inl rfl | exact Or.inr rfl)) (fun _ _ _ _ _ => pxts_nil) (fun _ _ _ _ _ => (px_dix 3 (u1 hr) (px_dix 1 (u1 hr) (px_v 8))))) pxa_nil))))
    (pxs_cons (pxs_setLc 5 6 rfl ndleast (sw_true rfl rfl rfl (by decide +kernel)) (src_r1 (b' := true) T.z_range (px_fn call_lenA ok_len T.z_len (pxa_cons (px_v 2) pxa_nil))) (blkOk_by (own := [("index", 6)]) (N := nleast) (by kernel_rfl)) (fun _ _ _ _ _ => pg_name (i := 6) ndleast rfl (by first | exact Or.inl rfl | exact Or.inr rfl)) (fun _ _ _ _ _ => (pxts_one (pxt_truth (px_callC Cis_final hr (by decide) (pxa_cons (px_v 0) (pxa_cons (px_ix (px_v 2) (px_v 6)) pxa_nil)) (fun _ _ => (len_cons fun _ => (len_cons fun _ => len_nil))))))) (fun _ _ _ _ _ => (px_v 6)))
    (pxs_one (pxs_ret (px_tup (pxa_cons (px_ix (px_v 0) px_int) (pxa_cons (px_ty call_tuple_of ok_tuple T.z_tuple (pxa_cons (px_v 4) pxa_nil)) (pxa_cons (px_ty call_tuple_of ok_tuple T.z_tuple (pxa_cons (px_v 5) pxa_nil)) pxa_nil)))))))))))
theorem okbounded (T : Txt K mg) (Cleast : Cal P w K mg base 5 "least" ["machine"] Mleast) : Cal P w K mg base 6 "bounded" ["machine"] Mbounded :=
  cal_of T.d_bounded scbounded (fun _ _ _ _ _ _ us hl => match us, hl with | [_], _ => rfl) fun f cdv A outer s H E hr =>
    (pxs_cons (pxs_set 1 (px_callC Cleast hr (by decide) (pxa_cons (px_v 0) pxa_nil) (fun _ _ => (len_cons fun _ => len_nil))) ndbounded)
    (pxs_cons (pxs_if (pxt_cmp op_gt (ok_rel (f := fun i j => decide (j < i))) (px_fn call_lenA ok_len T.z_len (pxa_cons (px_ix (px_v 1) px_int) pxa_nil)) (T.c_MAX_STATES (by rfl)) (nomark _))
    (pxs_one pxs_no)
    pxs_nil)
    (pxs_one (pxs_ret (px_v 1)))))
theorem okfinal_set (T : Txt K mg)  : Cal P w K mg base 1 "final_set" ["machine"] Mfinal_set :=
  cal_of T.d_final_set scfinal_set (fun _ _ _ _ _ _ us hl => match us, hl with | [_], _ => rfl) fun f cdv A outer s H E hr =>
    (pxs_one (pxs_ret (px_fn (cr_sum rfl) ok_sum T.z_sum (pxa_cons (px_lc 1 rfl ndfinal_set (src_any (px_ix (px_v 0) px_int)) (blkOk_by (own := [("state", 1)]) (N := nfinal_set) (by kernel_rfl)) (fun _ _ _ _ _ => pg_name (i := 1) ndfinal_set rfl (by first | exact Or.inl rfl | exact Or.inr rfl)) (fun _ _ _ _ _ => pxts_nil) (fun _ _ _ _ _ => (px_op op_shl ok_shl px_int (px_v 1)))) pxa_nil))))
theorem okBackWalk_begin (T : Txt K mg) (Cfinal_set : Cal P w K mg base 1 "final_set" ["machine"] Mfinal_set) : MCal P w K mg base 2 "BackWalk" "begin" 1 MBackWalk_begin :=
  mcal_of T.d_BackWalk_begin scBackWalk_begin (fun _ _ _ _ _ _ us hl => match us, hl with | [_], _ => rfl) fun f cdv A outer s H E hr =>
    (pxs_one (pxs_ret (px_callC Cfinal_set hr (by decide) (pxa_cons (px_att ["BackWalk"] "machine" (at_cons T.at_BackWalk_machine at_nil) (px_v 0)) pxa_nil) (fun _ _ => (len_cons fun _ => len_nil)))))
theorem okhas_state (T : Txt K mg)  : Cal P w K mg base 1 "has_state" ["mask", "state"] Mhas_state :=
  cal_of T.d_has_state schas_state (fun _ _ _ _ _ _ us hl => match us, hl with | [_, _], _ => rfl) fun f cdv A outer s H E hr =>
    (pxs_one (pxs_ret (px_cmp (op_eqD hr.units) ok_eq (px_op op_and (ok_bit (f := Builtin.bitAnd)) (px_op op_shr ok_shr (px_v 0) (px_v 1)) px_int) px_int (nomark _))))
theorem oksource_set (T : Txt K mg) (Chas_state : Cal P w K mg base 1 "has_state" ["mask", "state"] Mhas_state) : Cal P w K mg base 2 "source_set" ["machine", "mask", "index"] Msource_set :=
  cal_of T.d_source_set scsource_set (fun _ _ _ _ _ _ us hl => match us, hl with | [_, _, _], _ => rfl) fun f cdv A outer s H E hr =>
    (pxs_cons (pxs_set 3 px_int ndsource_set)
    (pxs_cons (pxs_for 4 PassesOwn.never rfl (src_r1 (b' := true) T.z_range (px_fn call_lenA ok_len T.z_len (pxa_cons (px_ix (px_v 0) px_int) pxa_nil)))
    (pxs_one (pxs_if (pxt_truth (px_callC Chas_state hr (by decide) (pxa_cons (px_v 1) (pxa_cons (px_ix (px_ix (px_ix (px_v 0) px_int) (px_v 4)) (px_v 2)) pxa_nil)) (fun _ _ => (len_cons fun _ => (len_cons fun _ => len_nil)))))
    (pxs_one (pxs_set 3 (px_op op_or (ok_bit (f := Builtin.bitOr)) (px_v 3) (px_op op_shl ok_shl px_int (px_v 4))) ndsource_set))
    pxs_nil)) ndsource_set)
    (pxs_one (pxs_ret (px_v 3)))))
theorem okBackWalk_follow (T : Txt K mg) (Csource_set : Cal P w K mg base 2 "source_set" ["machine", "mask", "index"] Msource_set) : MCal P w K mg base 3 "BackWalk" "follow" 3 MBackWalk_follow :=
  mcal_of T.d_BackWalk_follow scBackWalk_follow (fun _ _ _ _ _ _ us hl => match us, hl with | [_, _, _], _ => rfl) fun f cdv A outer s H E hr =>
    (pxs_one (pxs_ret (px_callC Csource_set hr (by decide) (pxa_cons (px_att ["BackWalk"] "machine" (at_cons T.at_BackWalk_machine at_nil) (px_v 0)) (pxa_cons (px_v 1) (pxa_cons (px_v 2) pxa_nil))) (fun _ _ => (len_cons fun _ => (len_cons fun _ => (len_cons fun _ => len_nil)))))))
theorem okBackWalk_ends (T : Txt K mg) (Chas_state : Cal P w K mg base 1 "has_state" ["mask", "state"] Mhas_state) : MCal P w K mg base 2 "BackWalk" "ends" 2 MBackWalk_ends :=
  mcal_of T.d_BackWalk_ends scBackWalk_ends (fun _ _ _ _ _ _ us hl => match us, hl with | [_, _], _ => rfl) fun f cdv A outer s H E hr =>
    (pxs_one (pxs_ret (px_callC Chas_state hr (by decide) (pxa_cons (px_v 1) (pxa_cons px_int pxa_nil)) (fun _ _ => (len_cons fun _ => (len_cons fun _ => len_nil))))))
theorem okexplored (T : Txt K mg) (CBackWalk_begin : MCal P w K mg base 2 "BackWalk" "begin" 1 MBackWalk_begin) (CBackWalk_follow : MCal P w K mg base 3 "BackWalk" "follow" 3 MBackWalk_follow) (CBackWalk_ends : MCal P w K mg base 2 "BackWalk" "ends" 2 MBackWalk_ends) : Cal P w K mg base 4 "explored" ["walk", "letters"] Mexplored :=
  cal_of T.d_explored scexplored (fun _ _ _ _ _ _ us hl => match us, hl with | [_, _], _ => rfl) fun f cdv A outer s H E hr =>
    (pxs_cons (pxs_setO 2 (pf_lst (pxa_cons (px_mth0 (k := 2) (n := 1) [("BackWalk", MBackWalk_begin)] (mc_cons (CBackWalk_begin.mono (by decide)) mc_nil) hr (by decide) (px_v 0) rfl) pxa_nil)) ndexplored)
    (pxs_cons (pxs_setO 3 (pf_d1x (px_ixo 2 px_int) px_int) ndexplored)
    (pxs_cons (pxs_setO 4 (pf_lst pxa_nil) ndexplored)
    (pxs_cons (pxs_while wN PassesOwn.never (pxt_cmp op_lt (ok_rel (f := fun i j => decide (i < j))) (px_fn call_lenA ok_len T.z_len (pxa_cons (px_l 4) pxa_nil)) (px_fn call_lenA ok_len T.z_len (pxa_cons (px_l 2) pxa_nil)) (nomark _))
    (pxs_cons (pxs_setO 5 (pf_lst pxa_nil) ndexplored)
    (pxs_cons (pxs_for 6 PassesOwn.never rfl (src_r1 (b' := true) T.z_range (px_v 1))
    (pxs_cons (pxs_set 7 (px_mth (k := 3) (n := 3) [("BackWalk", MBackWalk_follow)] (mc_cons (CBackWalk_follow.mono (by decide)) mc_nil) hr (by decide) (px_v 0) (pxa_cons (px_ixo 2 (px_fn call_lenA ok_len T.z_len (pxa_cons (px_l 4) pxa_nil))) (pxa_cons (px_v 6) pxa_nil)) (fun _ _ h => congrArg (· + 1) (((len_cons fun _ => (len_cons fun _ => len_nil))) h))) ndexplored)
    (pxs_cons (pxs_if (pxt_dnotin 3 (u1 hr) (px_v 7))
    (pxs_cons (pxs_dset 3 (u1 hr) (px_fn call_lenA ok_len T.z_len (pxa_cons (px_l 2) pxa_nil)) (px_v 7))
    (pxs_one (pxs_app 2 (px_v 7))))
    pxs_nil)
    (pxs_one (pxs_app 5 (px_dix 3 (u1 hr) (px_v 7)))))) ndexplored)
    (pxs_cons (pxs_if (pxt_cmp op_gt (ok_rel (f := fun i j => decide (j < i))) (px_fn call_lenA ok_len T.z_len (pxa_cons (px_l 2) pxa_nil)) (T.c_MOST_THINGS (by rfl)) (nomark _))
    (pxs_one pxs_no)
    pxs_nil)
    (pxs_one (pxs_app 4 (px_ty call_tuple_of ok_tuple T.z_tuple (pxa_cons (px_l 5) pxa_nil))))))))
    (pxs_cons (pxs_setLc 8 9 rfl ndexplored (sw_true rfl rfl rfl (by decide +kernel)) (src_r1 (b' := true) T.z_range (px_fn call_lenA ok_len T.z_len (pxa_cons (px_l 2) pxa_nil))) (blkOk_by (own := [("number", 9)]) (N := nexplored) (by kernel_rfl)) (fun _ _ _ _ _ => pg_name (i := 9) ndexplored rfl (by first | exact Or.inl rfl | exact Or.inr rfl)) (fun _ _ _ _ _ => (pxts_one (pxt_truth (px_mth (k := 2) (n := 2) [("BackWalk", MBackWalk_ends)] (mc_cons (CBackWalk_ends.mono (by decide)) mc_nil) hr (by decide) (px_v 0) (pxa_cons (px_ixo 2 (px_v 9)) pxa_nil) (fun _ _ h => congrArg (· + 1) (((len_cons fun _ => len_nil)) h)))))) (fun _ _ _ _ _ => (px_v 9)))
    (pxs_one (pxs_ret (px_tup (pxa_cons (px_v 1) (pxa_cons (px_ty call_tuple_of ok_tuple T.z_tuple (pxa_cons (px_l 4) pxa_nil)) (pxa_cons (px_ty call_tuple_of ok_tuple T.z_tuple (pxa_cons (px_v 8) pxa_nil)) pxa_nil)))))))))))
theorem okBackWalk_init (T : Txt K mg)  : KCal P w K mg base 1 "BackWalk" 1 MBackWalk_init :=
  kcal_of (ps := ["machine"]) T.d_BackWalk_init scBackWalk_init (by decide) (by decide) (by decide +kernel) (fun _ _ _ _ _ _ us hl => match us, hl with | [_, _], _ => rfl) fun C f hc hn cdv A outer s H E hr =>
    (pi_cons hc (hn _ (by simp)) (px_v 1) pi_nil)
theorem okreversal (T : Txt K mg) (Cbounded : Cal P w K mg base 6 "bounded" ["machine"] Mbounded) (Cexplored : Cal P w K mg base 4 "explored" ["walk", "letters"] Mexplored) (CBackWalk_init : KCal P w K mg base 1 "BackWalk" 1 MBackWalk_init) : Cal P w K mg base 7 "reversal" ["machine"] Mreversal :=
  cal_of T.d_reversal screversal (fun _ _ _ _ _ _ us hl => match us, hl with | [_], _ => rfl) fun f cdv A outer s H E hr =>
    (pxs_one (pxs_ret (px_callC Cbounded hr (by decide) (pxa_cons (px_callC Cexplored hr (by decide) (pxa_cons (px_make CBackWalk_init hr (by decide) (pxa_cons (px_v 0) pxa_nil) (fun _ _ => (len_cons fun _ => len_nil))) (pxa_cons (px_ix (px_v 0) px_int) pxa_nil)) (fun _ _ => (len_cons fun _ => (len_cons fun _ => len_nil)))) pxa_nil) (fun _ _ => (len_cons fun _ => len_nil)))))
theorem okLwords (T : Txt K mg)  : Cal P w K mg base 1 "_law_words" ["letters", "length"] MLwords :=
  cal_of T.d_Lwords scLwords (fun _ _ _ _ _ _ us hl => match us, hl with | [_, _], _ => rfl) fun f cdv A outer s H E hr =>
    (pxs_cons (pxs_set 2 (px_lst (pxa_cons (px_str []) pxa_nil)) ndLwords)
    (pxs_cons (pxs_set 3 (px_lst (pxa_cons (px_str []) pxa_nil)) ndLwords)
    (pxs_cons (pxs_for 4 PassesOwn.never rfl (src_r1 (b' := true) T.z_range (px_v 1))
    (pxs_cons (pxs_setO 5 (pf_lst pxa_nil) ndLwords)
    (pxs_cons (pxs_for 6 PassesOwn.never rfl (src_any (px_v 3))
    (pxs_one (pxs_for 7 PassesOwn.never rfl (src_any (px_sl (px_str [97, 98, 99]) pxo_no (pxo_some (px_v 0))))
    (pxs_one (pxs_app 5 (px_op op_addD ok_add (px_v 6) (px_v 7)))) ndLwords)) ndLwords)
    (pxs_cons (pxs_set 2 (px_op op_addD ok_add (px_v 2) (px_l 5)) ndLwords)
    (pxs_one (pxs_fz 5 (pxs_set 3 (px_v 5) ndLwords)))))) ndLwords)
    (pxs_one (pxs_ret (px_v 2))))))
theorem okLsameN (T : Txt K mg)  : ∀ n, Cal P w K mg base (0 + n) "_law_same" ["told", "due"] (MLsameN n)
  | 0 => cal_stuck T.d_Lsame (fun _ _ _ _ _ _ us hl => match us, hl with | [_, _], _ => rfl)
  | n + 1 => by
    have CLsame := okLsameN T  n
    exact cal_of T.d_Lsame scLsame (fun _ _ _ _ _ _ us hl => match us, hl with | [_, _], _ => rfl) fun f cdv A outer s H E hr =>
    (pxs_cons (pxs_if (PXW.pt (pxw_or (pxt_truth (px_is .bool (px_v 1) T.z_isinstance T.z_bool)) (pxw_or1 (pxt_truth (px_is .bool (px_v 0) T.z_isinstance T.z_bool)))))
    (pxs_one (pxs_ret (px_and (px_is .bool (px_v 1) T.z_isinstance T.z_bool) (px_and (px_is .bool (px_v 0) T.z_isinstance T.z_bool) (px_one (px_cmp (op_eqD hr.units) ok_eq (px_v 0) (px_v 1) (nomark _)))))))
    pxs_nil)
    (pxs_cons (pxs_if (PXW.pt (pxw_or (pxt_cmp op_isN ok_is (px_v 1) px_non (nomark _)) (pxw_or1 (pxt_truth (px_is .int (px_v 1) T.z_isinstance T.z_int)))))
    (pxs_one (pxs_ret (px_and (px_cmp (op_eqD hr.units) ok_eq (px_v 0) (px_v 1) (nomark _)) (px_one (px_or (px_cmp op_isN ok_is (px_v 1) px_non (nomark _)) (px_one (px_is .int (px_v 0) T.z_isinstance T.z_int)))))))
    pxs_nil)
    (pxs_cons (pxs_if (pxt_truth (px_is .str (px_v 1) T.z_isinstance T.z_str))
    (pxs_one (pxs_ret (px_and (px_is .str (px_v 0) T.z_isinstance T.z_str) (px_one (px_cmp (op_eqD hr.units) ok_eq (px_v 0) (px_v 1) (nomark _))))))
    pxs_nil)
    (pxs_cons (pxs_if (PXW.pt (pxw_or (pxt_cmp (op_neD hr.units) ok_ne (px_is .list (px_v 1) T.z_isinstance T.z_list) (px_is .list (px_v 0) T.z_isinstance T.z_list) (nomark _)) (pxw_or1 (pxt_cmp (op_neD hr.units) ok_ne (px_is .tuple (px_v 1) T.z_isinstance T.z_tuple) (px_is .tuple (px_v 0) T.z_isinstance T.z_tuple) (nomark _)))))
    (pxs_one (pxs_ret px_bl))
    pxs_nil)
    (pxs_cons (pxs_if (pxt_cmp (op_neD hr.units) ok_ne (px_fn call_lenA ok_len T.z_len (pxa_cons (px_v 0) pxa_nil)) (px_fn call_lenA ok_len T.z_len (pxa_cons (px_v 1) pxa_nil)) (nomark _))
    (pxs_one (pxs_ret px_bl))
    pxs_nil)
    (pxs_cons (pxs_for 2 PassesOwn.never rfl (src_r1 (b' := true) T.z_range (px_fn call_lenA ok_len T.z_len (pxa_cons (px_v 1) pxa_nil)))
    (pxs_one (pxs_if (pxt_not (pxt_truth (px_callC CLsame hr (Nat.le_refl _) (pxa_cons (px_ix (px_v 0) (px_v 2)) (pxa_cons (px_ix (px_v 1) (px_v 2)) pxa_nil)) (fun _ _ => (len_cons fun _ => (len_cons fun _ => len_nil))))))
    (pxs_one (pxs_ret px_bl))
    pxs_nil)) ndLsame)
    (pxs_one (pxs_ret px_bl))))))))
theorem okLsame (T : Txt K mg)  : Cal P w K mg base 64 "_law_same" ["told", "due"] MLsame := okLsameN T  64
theorem okLparted (T : Txt K mg)  : Cal P w K mg base 1 "_law_parted" ["machine", "states"] MLparted :=
  cal_of T.d_Lparted scLparted (fun _ _ _ _ _ _ us hl => match us, hl with | [_, _], _ => rfl) fun f cdv A outer s H E hr =>
    (pxs_cons (pxs_setO 2 pf_nnew ndLparted)
    (pxs_cons (pxs_set 3 (px_op op_sub ok_sub px_int px_int) ndLparted)
    (pxs_cons (pxs_while wN PassesOwn.never (pxt_cmp op_gt (ok_rel (f := fun i j => decide (j < i))) (px_fn call_lenN ok_lenN T.z_len (pxa_cons (px_l 2) pxa_nil)) (px_v 3) (nomark _))
    (pxs_cons (pxs_set 3 (px_fn call_lenN ok_lenN T.z_len (pxa_cons (px_l 2) pxa_nil)) ndLparted)
    (pxs_one (pxs_for 4 PassesOwn.never rfl (src_any (px_v 1))
    (pxs_one (pxs_for 5 PassesOwn.never rfl (src_any (px_v 1))
    (pxs_cons (pxs_set 6 (px_cmp (op_neD hr.units) ok_ne (px_cmp (op_inX (u65 hr)) ok_inS (px_v 4) (px_ix (px_v 0) px_int) (by rfl)) (px_cmp (op_inX (u65 hr)) ok_inS (px_v 5) (px_ix (px_v 0) px_int) (by rfl)) (nomark _)) ndLparted)
    (pxs_cons (pxs_for 7 PassesOwn.never rfl (src_r1 (b' := true) T.z_range (px_ix (px_v 0) px_int))
    (pxs_one (pxs_if (pxt_nin 2 (u65 hr) (px_tup (pxa_cons (px_ix (px_ix (px_ix (px_v 0) px_int) (px_v 4)) (px_v 7)) (pxa_cons (px_ix (px_ix (px_ix (px_v 0) px_int) (px_v 5)) (px_v 7)) pxa_nil))))
    (pxs_one (pxs_set 6 px_bl ndLparted))
    pxs_nil)) ndLparted)
    (pxs_one (pxs_if (pxt_truth (px_v 6))
    (pxs_one (pxs_nset 2 (u65 hr) px_bl (px_tup (pxa_cons (px_v 4) (pxa_cons (px_v 5) pxa_nil)))))
    pxs_nil)))) ndLparted)) ndLparted))))
    (pxs_one (pxs_fz 2 (pxs_ret (px_v 2)))))))
theorem okLleast (T : Txt K mg) (CLparted : Cal P w K mg base 1 "_law_parted" ["machine", "states"] MLparted) : Cal P w K mg base 2 "_law_least" ["machine"] MLleast :=
  cal_of T.d_Lleast scLleast (fun _ _ _ _ _ _ us hl => match us, hl with | [_], _ => rfl) fun f cdv A outer s H E hr =>
    (pxs_cons (pxs_setO 1 (pf_lst (pxa_cons px_int pxa_nil)) ndLleast)
    (pxs_cons (pxs_set 2 px_int ndLleast)
    (pxs_cons (pxs_while wN PassesOwn.never (pxt_cmp op_lt (ok_rel (f := fun i j => decide (i < j))) (px_v 2) (px_fn call_lenA ok_len T.z_len (pxa_cons (px_l 1) pxa_nil)) (nomark _))
    (pxs_cons (pxs_for 3 PassesOwn.never rfl (src_any (px_ix (px_ix (px_v 0) px_int) (px_ixo 1 (px_v 2))))
    (pxs_one (pxs_if (pxt_cmp (op_notInX (u65 hr)) ok_notInS (px_v 3) (px_l 1) (by rfl))
    (pxs_one (pxs_app 1 (px_v 3)))
    pxs_nil)) ndLleast)
    (pxs_one (pxs_set 2 (px_op op_addD ok_add (px_v 2) px_int) ndLleast))))
    (pxs_cons (pxs_fz 1 (pxs_set 4 (px_callC CLparted hr (by decide) (pxa_cons (px_v 0) (pxa_cons (px_v 1) pxa_nil)) (fun _ _ => (len_cons fun _ => (len_cons fun _ => len_nil)))) ndLleast))
    (pxs_cons (pxs_setO 5 (pf_lst pxa_nil) ndLleast)
    (pxs_cons (pxs_for 6 PassesOwn.never rfl (src_any (px_v 1))
    (pxs_one (pxs_if (pxt_cmp (op_eqD hr.units) ok_eq (px_fn call_lenA ok_len T.z_len (pxa_cons (px_lc 3 rfl ndLleast (src_any (px_l 5)) (blkOk_by (own := [("q", 3)]) (N := nLleast) (by kernel_rfl)) (fun _ _ _ _ _ => pg_name (i := 3) ndLleast rfl (by first | exact Or.inl rfl | exact Or.inr rfl)) (fun _ _ _ _ _ => (pxts_one (pxt_nnotin 4 (u65 hr) (px_tup (pxa_cons (px_v 6) (pxa_cons (px_v 3) pxa_nil)))))) (fun _ _ _ _ _ => (px_v 3))) pxa_nil)) px_int (nomark _))
    (pxs_one (pxs_app 5 (px_v 6)))
    pxs_nil)) ndLleast)
    (pxs_cons (pxs_setO 7 (pf_lst (pxa_cons (px_ixo 5 px_int) pxa_nil)) ndLleast)
    (pxs_cons (pxs_set 2 px_int ndLleast)
    (pxs_cons (pxs_while wN PassesOwn.never (pxt_cmp op_lt (ok_rel (f := fun i j => decide (i < j))) (px_v 2) (px_fn call_lenA ok_len T.z_len (pxa_cons (px_l 7) pxa_nil)) (nomark _))
    (pxs_cons (pxs_for 8 PassesOwn.never rfl (src_any (px_ix (px_ix (px_v 0) px_int) (px_ixo 7 (px_v 2))))
    (pxs_cons (pxs_set 3 (px_ix (px_lc 10 rfl ndLleast (src_any (px_l 5)) (blkOk_by (own := [("r", 10)]) (N := nLleast) (by kernel_rfl)) (fun _ _ _ _ _ => pg_name (i := 10) ndLleast rfl (by first | exact Or.inl rfl | exact Or.inr rfl)) (fun _ _ _ _ _ => (pxts_one (pxt_nnotin 4 (u65 hr) (px_tup (pxa_cons (px_v 8) (pxa_cons (px_v 10) pxa_nil)))))) (fun _ _ _ _ _ => (px_v 10))) px_int) ndLleast)
    (pxs_one (pxs_if (pxt_cmp (op_notInX (u65 hr)) ok_notInS (px_v 3) (px_l 7) (by rfl))
    (pxs_one (pxs_app 7 (px_v 3)))
    pxs_nil))) ndLleast)
    (pxs_one (pxs_set 2 (px_op op_addD ok_add (px_v 2) px_int) ndLleast))))
    (pxs_cons (pxs_setO 9 (pf_lst pxa_nil) ndLleast)
    (pxs_cons (pxs_fz 7 (pxs_for 6 PassesOwn.never rfl (src_any (px_v 7))
    (pxs_one (pxs_app 9 (px_ty call_tuple_of ok_tuple T.z_tuple (pxa_cons (px_lc 3 rfl ndLleast (src_any (px_ix (px_ix (px_v 0) px_int) (px_v 6))) (blkOk_by (own := [("q", 3)]) (N := nLleast) (by kernel_rfl)) (fun _ _ _ _ _ => pg_name (i := 3) ndLleast rfl (by first | exact Or.inl rfl | exact Or.inr rfl)) (fun _ _ _ _ _ => pxts_nil) (fun _ _ _ _ _ => (px_ix (px_lc 11 rfl ndLleast (src_r1 (b' := true) T.z_range (px_fn call_lenA ok_len T.z_len (pxa_cons (px_l 7) pxa_nil))) (blkOk_by (own := [("j", 11)]) (N := nLleast) (by kernel_rfl)) (fun _ _ _ _ _ => pg_name (i := 11) ndLleast rfl (by first | exact Or.inl rfl | exact Or.inr rfl)) (fun _ _ _ _ _ => (pxts_one (pxt_nnotin 4 (u65 hr) (px_tup (pxa_cons (px_v 3) (pxa_cons (px_ixo 7 (px_v 11)) pxa_nil)))))) (fun _ _ _ _ _ => (px_v 11))) px_int))) pxa_nil)))) ndLleast))
    (pxs_one (pxs_ret (px_tup (pxa_cons (px_ix (px_v 0) px_int) (pxa_cons (px_ty call_tuple_of ok_tuple T.z_tuple (pxa_cons (px_l 9) pxa_nil)) (pxa_cons (px_ty call_tuple_of ok_tuple T.z_tuple (pxa_cons (px_lc 11 rfl ndLleast (src_r1 (b' := true) T.z_range (px_fn call_lenA ok_len T.z_len (pxa_cons (px_l 7) pxa_nil))) (blkOk_by (own := [("j", 11)]) (N := nLleast) (by kernel_rfl)) (fun _ _ _ _ _ => pg_name (i := 11) ndLleast rfl (by first | exact Or.inl rfl | exact Or.inr rfl)) (fun _ _ _ _ _ => (pxts_one (pxt_cmp (op_inX (u65 hr)) ok_inS (px_ixo 7 (px_v 11)) (px_ix (px_v 0) px_int) (by rfl)))) (fun _ _ _ _ _ => (px_v 11))) pxa_nil)) pxa_nil)))))))))))))))))
theorem okLback (T : Txt K mg) (CLleast : Cal P w K mg base 2 "_law_least" ["machine"] MLleast) : Cal P w K mg base 3 "_law_back" ["machine"] MLback :=
  cal_of T.d_Lback scLback (fun _ _ _ _ _ _ us hl => match us, hl with | [_], _ => rfl) fun f cdv A outer s H E hr =>
    (pxs_cons (pxs_set 1 (px_fn call_lenA ok_len T.z_len (pxa_cons (px_ix (px_v 0) px_int) pxa_nil)) ndLback)
    (pxs_cons (pxs_setO 2 (pf_lst (pxa_cons (px_ty call_tuple_of ok_tuple T.z_tuple (pxa_cons (px_lc 8 rfl ndLback (src_r1 (b' := true) T.z_range (px_v 1)) (blkOk_by (own := [("p", 8)]) (N := nLback) (by kernel_rfl)) (fun _ _ _ _ _ => pg_name (i := 8) ndLback rfl (by first | exact Or.inl rfl | exact Or.inr rfl)) (fun _ _ _ _ _ => (pxts_one (pxt_cmp (op_inX (u65 hr)) ok_inS (px_v 8) (px_ix (px_v 0) px_int) (by rfl)))) (fun _ _ _ _ _ => (px_v 8))) pxa_nil)) pxa_nil)) ndLback)
    (pxs_cons (pxs_setO 3 (pf_lst pxa_nil) ndLback)
    (pxs_cons (pxs_set 4 px_int ndLback)
    (pxs_cons (pxs_while wN PassesOwn.never (pxt_cmp op_lt (ok_rel (f := fun i j => decide (i < j))) (px_v 4) (px_fn call_lenA ok_len T.z_len (pxa_cons (px_l 2) pxa_nil)) (nomark _))
    (pxs_cons (pxs_setO 5 (pf_lst pxa_nil) ndLback)
    (pxs_cons (pxs_for 6 PassesOwn.never rfl (src_r1 (b' := true) T.z_range (px_ix (px_v 0) px_int))
    (pxs_cons (pxs_set 7 (px_ty call_tuple_of ok_tuple T.z_tuple (pxa_cons (px_lc 8 rfl ndLback (src_r1 (b' := true) T.z_range (px_v 1)) (blkOk_by (own := [("p", 8)]) (N := nLback) (by kernel_rfl)) (fun _ _ _ _ _ => pg_name (i := 8) ndLback rfl (by first | exact Or.inl rfl | exact Or.inr rfl)) (fun _ _ _ _ _ => (pxts_one (pxt_cmp (op_inX (u65 hr)) ok_inS (px_ix (px_ix (px_ix (px_v 0) px_int) (px_v 8)) (px_v 6)) (px_ixo 2 (px_v 4)) (by rfl)))) (fun _ _ _ _ _ => (px_v 8))) pxa_nil)) ndLback)
    (pxs_cons (pxs_if (pxt_cmp (op_notInX (u65 hr)) ok_notInS (px_v 7) (px_l 2) (by rfl))
    (pxs_one (pxs_app 2 (px_v 7)))
    pxs_nil)
    (pxs_one (pxs_app 5 (px_liD (b' := true) (u65 hr) (px_l 2) (pxa_cons (px_v 7) pxa_nil)))))) ndLback)
    (pxs_cons (pxs_app 3 (px_ty call_tuple_of ok_tuple T.z_tuple (pxa_cons (px_l 5) pxa_nil)))
    (pxs_one (pxs_set 4 (px_op op_addD ok_add (px_v 4) px_int) ndLback))))))
    (pxs_one (pxs_ret (px_callC CLleast hr (by decide) (pxa_cons (px_tup (pxa_cons (px_ix (px_v 0) px_int) (pxa_cons (px_ty call_tuple_of ok_tuple T.z_tuple (pxa_cons (px_l 3) pxa_nil)) (pxa_cons (px_ty call_tuple_of ok_tuple T.z_tuple (pxa_cons (px_lc 9 rfl ndLback (src_r1 (b' := true) T.z_range (px_fn call_lenA ok_len T.z_len (pxa_cons (px_l 2) pxa_nil))) (blkOk_by (own := [("k", 9)]) (N := nLback) (by kernel_rfl)) (fun _ _ _ _ _ => pg_name (i := 9) ndLback rfl (by first | exact Or.inl rfl | exact Or.inr rfl)) (fun _ _ _ _ _ => (pxts_one (pxt_cmp (op_inX (u65 hr)) ok_inS px_int (px_ixo 2 (px_v 9)) (by rfl)))) (fun _ _ _ _ _ => (px_v 9))) pxa_nil)) pxa_nil)))) pxa_nil) (fun _ _ => (len_cons fun _ => len_nil))))))))))
theorem okLstate (T : Txt K mg)  : Cal P w K mg base 1 "_law_state" ["machine", "state", "word"] MLstate :=
  cal_of T.d_Lstate scLstate (fun _ _ _ _ _ _ us hl => match us, hl with | [_, _, _], _ => rfl) fun f cdv A outer s H E hr =>
    (pxs_cons (pxs_for 3 PassesOwn.never rfl (src_any (px_v 2))
    (pxs_one (pxs_set 1 (px_ix (px_ix (px_ix (px_v 0) px_int) (px_v 1)) (px_ms PySem.F.slot_str_index PySem.F.type_str_index mt_sindex ok_sindex (px_str [97, 98, 99]) (pxa_cons (px_v 3) pxa_nil))) ndLstate)) ndLstate)
    (pxs_one (pxs_ret (px_v 1))))
theorem okLaccepts (T : Txt K mg) (CLstate : Cal P w K mg base 1 "_law_state" ["machine", "state", "word"] MLstate) : Cal P w K mg base 2 "_law_accepts" ["machine", "word"] MLaccepts :=
  cal_of T.d_Laccepts scLaccepts (fun _ _ _ _ _ _ us hl => match us, hl with | [_, _], _ => rfl) fun f cdv A outer s H E hr =>
    (pxs_one (pxs_ret (px_cmp (op_inX (u65 hr)) ok_inS (px_callC CLstate hr (by decide) (pxa_cons (px_v 0) (pxa_cons px_int (pxa_cons (px_v 1) pxa_nil))) (fun _ _ => (len_cons fun _ => (len_cons fun _ => (len_cons fun _ => len_nil))))) (px_ix (px_v 0) px_int) (by rfl))))
theorem okLturned (T : Txt K mg)  : Cal P w K mg base 1 "_law_turned" ["word"] MLturned :=
  cal_of T.d_Lturned scLturned (fun _ _ _ _ _ _ us hl => match us, hl with | [_], _ => rfl) fun f cdv A outer s H E hr =>
    (pxs_one (pxs_ret (px_ms PySem.F.slot_str_join PySem.F.type_str_join mt_join ok_join (px_str []) (pxa_cons (px_lc 1 rfl ndLturned (src_r1 (b' := true) T.z_range (px_fn call_lenA ok_len T.z_len (pxa_cons (px_v 0) pxa_nil))) (blkOk_by (own := [("k", 1)]) (N := nLturned) (by kernel_rfl)) (fun _ _ _ _ _ => pg_name (i := 1) ndLturned rfl (by first | exact Or.inl rfl | exact Or.inr rfl)) (fun _ _ _ _ _ => pxts_nil) (fun _ _ _ _ _ => (px_ix (px_v 0) (px_op op_sub ok_sub (px_op op_sub ok_sub (px_fn call_lenA ok_len T.z_len (pxa_cons (px_v 0) pxa_nil)) px_int) (px_v 1))))) pxa_nil))))
theorem oklaw {f : Addr} {fd : FuncData} (F : Fun K "law" "law" slaw f fd) (T : Txt K mg) (CLdraws : Cal P w K mg base 2 "_law_draws" ["script", "k", "count", "many"] MLdraws) (CLmachine : Cal P w K mg base 3 "_law_machine" ["script", "k", "letters", "n"] MLmachine) (Creversal : Cal P w K mg base 7 "reversal" ["machine"] Mreversal) (CLsame : Cal P w K mg base 64 "_law_same" ["told", "due"] MLsame) (CLback : Cal P w K mg base 3 "_law_back" ["machine"] MLback) (CLwords : Cal P w K mg base 1 "_law_words" ["letters", "length"] MLwords) (CLaccepts : Cal P w K mg base 2 "_law_accepts" ["machine", "word"] MLaccepts) (CLturned : Cal P w K mg base 1 "_law_turned" ["word"] MLturned) (CLleast : Cal P w K mg base 2 "_law_least" ["machine"] MLleast) : FnM P w K mg base 65 f fd ["script"] Mlaw :=
  fnm_of F sclaw fun cdv A outer s H E hr =>
    (pxs_cons (pxs_set 1 (px_callC CLdraws hr (by decide) (pxa_cons (px_v 0) (pxa_cons px_int (pxa_cons px_int (pxa_cons px_int pxa_nil)))) (fun _ _ => (len_cons fun _ => (len_cons fun _ => (len_cons fun _ => (len_cons fun _ => len_nil)))))) ndlaw)
    (pxs_cons (pxs_set 2 (px_op op_addD ok_add px_int (px_op op_mod ok_mod (px_ix (px_v 1) px_int) px_int)) ndlaw)
    (pxs_cons (pxs_set 3 (px_callC CLmachine hr (by decide) (pxa_cons (px_v 0) (pxa_cons px_int (pxa_cons (px_v 2) (pxa_cons (px_op op_addD ok_add px_int (px_op op_mod ok_mod (px_ix (px_v 1) px_int) px_int)) pxa_nil)))) (fun _ _ => (len_cons fun _ => (len_cons fun _ => (len_cons fun _ => (len_cons fun _ => len_nil)))))) ndlaw)
    (pxs_cons (pxs_set 4 (px_callC Creversal hr (by decide) (pxa_cons (px_v 3) pxa_nil) (fun _ _ => (len_cons fun _ => len_nil))) ndlaw)
    (pxs_cons (pxs_if (pxt_not (pxt_truth (px_callC CLsame hr (by decide) (pxa_cons (px_v 4) (pxa_cons (px_callC CLback hr (by decide) (pxa_cons (px_v 3) pxa_nil) (fun _ _ => (len_cons fun _ => len_nil))) pxa_nil)) (fun _ _ => (len_cons fun _ => (len_cons fun _ => len_nil))))))
    (pxs_one (pxs_ret px_bl))
    pxs_nil)
    (pxs_cons (pxs_for 5 PassesOwn.never rfl (src_any (px_callC CLwords hr (by decide) (pxa_cons (px_v 2) (pxa_cons (px_ix (px_lst (pxa_cons px_int (pxa_cons px_int (pxa_cons px_int pxa_nil)))) (px_op op_sub ok_sub (px_v 2) px_int)) pxa_nil)) (fun _ _ => (len_cons fun _ => (len_cons fun _ => len_nil)))))
    (pxs_one (pxs_if (pxt_cmp (op_neD hr.units) ok_ne (px_callC CLaccepts hr (by decide) (pxa_cons (px_v 4) (pxa_cons (px_v 5) pxa_nil)) (fun _ _ => (len_cons fun _ => (len_cons fun _ => len_nil)))) (px_callC CLaccepts hr (by decide) (pxa_cons (px_v 3) (pxa_cons (px_callC CLturned hr (by decide) (pxa_cons (px_v 5) pxa_nil) (fun _ _ => (len_cons fun _ => len_nil))) pxa_nil)) (fun _ _ => (len_cons fun _ => (len_cons fun _ => len_nil)))) (nomark _))
    (pxs_one (pxs_ret px_bl))
    pxs_nil)) ndlaw)
    (pxs_one (pxs_ret (px_callC CLsame hr (by decide) (pxa_cons (px_callC Creversal hr (by decide) (pxa_cons (px_v 4) pxa_nil) (fun _ _ => (len_cons fun _ => len_nil))) (pxa_cons (px_callC CLleast hr (by decide) (pxa_cons (px_v 3) pxa_nil) (fun _ _ => (len_cons fun _ => len_nil))) pxa_nil)) (fun _ _ => (len_cons fun _ => (len_cons fun _ => len_nil))))))))))))
theorem all {f : Addr} {fd : FuncData} (F : Fun K "law" "law" slaw f fd) (T : Txt K mg)  : FnM P w K mg base 65 f fd ["script"] Mlaw := by
  have CLnumber := okLnumber (P := P) (w := w) (base := base) T 
  have CLdraws := okLdraws (P := P) (w := w) (base := base) T CLnumber
  have CLmachine := okLmachine (P := P) (w := w) (base := base) T CLdraws
  have Cis_final := okis_final (P := P) (w := w) (base := base) T 
  have Cfirst_parts := okfirst_parts (P := P) (w := w) (base := base) T Cis_final
  have Cfiner_parts := okfiner_parts (P := P) (w := w) (base := base) T 
  have Caccess_from := okaccess_from (P := P) (w := w) (base := base) T 
  have Caccess_words := okaccess_words (P := P) (w := w) (base := base) T Caccess_from
  have Creachable := okreachable (P := P) (w := w) (base := base) T Caccess_words
  have Cpart_count := okpart_count (P := P) (w := w) (base := base) T 
  have Csame_parts := oksame_parts (P := P) (w := w) (base := base) T Cfirst_parts Creachable Cfiner_parts Cpart_count
  have Cnumbered_states := oknumbered_states (P := P) (w := w) (base := base) T 
  have Cleast := okleast (P := P) (w := w) (base := base) T Csame_parts Cnumbered_states Cis_final
  have Cbounded := okbounded (P := P) (w := w) (base := base) T Cleast
  have Cfinal_set := okfinal_set (P := P) (w := w) (base := base) T 
  have CBackWalk_begin := okBackWalk_begin (P := P) (w := w) (base := base) T Cfinal_set
  have Chas_state := okhas_state (P := P) (w := w) (base := base) T 
  have Csource_set := oksource_set (P := P) (w := w) (base := base) T Chas_state
  have CBackWalk_follow := okBackWalk_follow (P := P) (w := w) (base := base) T Csource_set
  have CBackWalk_ends := okBackWalk_ends (P := P) (w := w) (base := base) T Chas_state
  have Cexplored := okexplored (P := P) (w := w) (base := base) T CBackWalk_begin CBackWalk_follow CBackWalk_ends
  have CBackWalk_init := okBackWalk_init (P := P) (w := w) (base := base) T 
  have Creversal := okreversal (P := P) (w := w) (base := base) T Cbounded Cexplored CBackWalk_init
  have CLwords := okLwords (P := P) (w := w) (base := base) T 
  have CLsame := okLsame (P := P) (w := w) (base := base) T 
  have CLparted := okLparted (P := P) (w := w) (base := base) T 
  have CLleast := okLleast (P := P) (w := w) (base := base) T CLparted
  have CLback := okLback (P := P) (w := w) (base := base) T CLleast
  have CLstate := okLstate (P := P) (w := w) (base := base) T 
  have CLaccepts := okLaccepts (P := P) (w := w) (base := base) T CLstate
  have CLturned := okLturned (P := P) (w := w) (base := base) T 
  exact oklaw F T CLdraws CLmachine Creversal CLsame CLback CLwords CLaccepts CLturned CLleast
/-- the law, of the script alone -/
def spLaw (K : PySem.W.Frag) : Sp := fun vs H Q _ => ∃ (a : Addr) (ns : List Int), vs = [.ref a] ∧ SqL K H a (ns.map V.int) ∧ ns.length ≤ 63 ∧ Only H ∧ ∀ H', Q (.bl true) H'
theorem all_mk (hm : ∀ ns : List Int, ns.length ≤ 63 → Mlaw [.lst (ns.map D.int)] = .ok (.bl true)) {P : Program} {w : World} {K : PySem.W.Frag} {h : Heap} {mg : Str → Option Value} {fa : Addr} (X : K.In h) (G : h.Ns mainGlobals mg) (hfa : mg "law" = some (.ref fa))
     {Co_BackWalk : Addr} {f0 : Addr} {od0 an0 : Option Addr} {sl0 : Array (Option Value)} {oc0 kV0 dc0 pm0 cd0 ct0 : Value} {f1 : Addr} {od1 an1 : Option Addr} {sl1 : Array (Option Value)} {oc1 kV1 dc1 pm1 cd1 ct1 : Value} {f2 : Addr} {od2 an2 : Option Addr} {sl2 : Array (Option Value)} {oc2 kV2 dc2 pm2 cd2 ct2 : Value} {f3 : Addr} {od3 an3 : Option Addr} {sl3 : Array (Option Value)} {oc3 kV3 dc3 pm3 cd3 ct3 : Value} {f4 : Addr} {od4 an4 : Option Addr} {sl4 : Array (Option Value)} {oc4 kV4 dc4 pm4 cd4 ct4 : Value} {f5 : Addr} {od5 an5 : Option Addr} {sl5 : Array (Option Value)} {oc5 kV5 dc5 pm5 cd5 ct5 : Value} {f6 : Addr} {od6 an6 : Option Addr} {sl6 : Array (Option Value)} {oc6 kV6 dc6 pm6 cd6 ct6 : Value} {f7 : Addr} {od7 an7 : Option Addr} {sl7 : Array (Option Value)} {oc7 kV7 dc7 pm7 cd7 ct7 : Value} {f8 : Addr} {od8 an8 : Option Addr} {sl8 : Array (Option Value)} {oc8 kV8 dc8 pm8 cd8 ct8 : Value} {f9 : Addr} {od9 an9 : Option Addr} {sl9 : Array (Option Value)} {oc9 kV9 dc9 pm9 cd9 ct9 : Value} {f10 : Addr} {od10 an10 : Option Addr} {sl10 : Array (Option Value)} {oc10 kV10 dc10 pm10 cd10 ct10 : Value} {f11 : Addr} {od11 an11 : Option Addr} {sl11 : Array (Option Value)} {oc11 kV11 dc11 pm11 cd11 ct11 : Value} {f12 : Addr} {od12 an12 : Option Addr} {sl12 : Array (Option Value)} {oc12 kV12 dc12 pm12 cd12 ct12 : Value} {f13 : Addr} {od13 an13 : Option Addr} {sl13 : Array (Option Value)} {oc13 kV13 dc13 pm13 cd13 ct13 : Value} {f14 : Addr} {od14 an14 : Option Addr} {sl14 : Array (Option Value)} {oc14 kV14 dc14 pm14 cd14 ct14 : Value} {f15 : Addr} {od15 an15 : Option Addr} {sl15 : Array (Option Value)} {oc15 kV15 dc15 pm15 cd15 ct15 : Value} {f16 : Addr} {od16 an16 : Option Addr} {sl16 : Array (Option Value)} {oc16 kV16 dc16 pm16 cd16 ct16 : Value} {f17 : Addr} {od17 an17 : Option Addr} {sl17 : Array (Option Value)} {oc17 kV17 dc17 pm17 cd17 ct17 : Value} {f18 : Addr} {od18 an18 : Option Addr} {sl18 : Array (Option Value)} {oc18 kV18 dc18 pm18 cd18 ct18 : Value} {f19 : Addr} {od19 an19 : Option Addr} {sl19 : Array (Option Value)} {oc19 kV19 dc19 pm19 cd19 ct19 : Value} {f20 : Addr} {od20 an20 : Option Addr} {sl20 : Array (Option Value)} {oc20 kV20 dc20 pm20 cd20 ct20 : Value} {f21 : Addr} {od21 an21 : Option Addr} {sl21 : Array (Option Value)} {oc21 kV21 dc21 pm21 cd21 ct21 : Value} {f22 : Addr} {od22 an22 : Option Addr} {sl22 : Array (Option Value)} {oc22 kV22 dc22 pm22 cd22 ct22 : Value} {f23 : Addr} {od23 an23 : Option Addr} {sl23 : Array (Option Value)} {oc23 kV23 dc23 pm23 cd23 ct23 : Value} {f24 : Addr} {od24 an24 : Option Addr} {sl24 : Array (Option Value)} {oc24 kV24 dc24 pm24 cd24 ct24 : Value} {f25 : Addr} {od25 an25 : Option Addr} {sl25 : Array (Option Value)} {oc25 kV25 dc25 pm25 cd25 ct25 : Value} {f26 : Addr} {od26 an26 : Option Addr} {sl26 : Array (Option Value)} {oc26 kV26 dc26 pm26 cd26 ct26 : Value} {f27 : Addr} {od27 an27 : Option Addr} {sl27 : Array (Option Value)} {oc27 kV27 dc27 pm27 cd27 ct27 : Value} {f28 : Addr} {od28 an28 : Option Addr} {sl28 : Array (Option Value)} {oc28 kV28 dc28 pm28 cd28 ct28 : Value} {f29 : Addr} {od29 an29 : Option Addr} {sl29 : Array (Option Value)} {oc29 kV29 dc29 pm29 cd29 ct29 : Value} {f30 : Addr} {od30 an30 : Option Addr} {sl30 : Array (Option Value)} {oc30 kV30 dc30 pm30 cd30 ct30 : Value} {f31 : Addr} {od31 an31 : Option Addr} {sl31 : Array (Option Value)} {oc31 kV31 dc31 pm31 cd31 ct31 : Value} {t0 : Tok} {t1 : Tok} {t2 : Tok}
    
    (oa_BackWalk : PySem.W.nsIn K mainGlobals "BackWalk" = some (some (.ref Co_BackWalk))) (og_BackWalk : PySem.W.plainGet K Co_BackWalk Str.empty = true) (oh_BackWalk : PySem.W.hasDictIn K Co_BackWalk = true) (op_BackWalk : PySem.W.plainOver K Co_BackWalk = true) (os_BackWalk : PySem.W.findIn K (.ref Co_BackWalk) "__setattr__" = some (some (.builtin "object.__setattr__"))) (om_BackWalk : PySem.W.makesIn K Co_BackWalk = true) (ok_BackWalk : PySem.W.keepIn K (.ref Co_BackWalk) = true) (of_BackWalk_machine : PySem.W.findIn K (.ref Co_BackWalk) "machine" = some none)
    (a0 : PySem.W.nsIn K mainGlobals "_law_number" = some (some (.ref f0))) (l0 : K.lookup f0 = some ⟨oc0, od0, .func (PySem.W.fnOf "_law_number" "_law_number" (defArgs sLnumber) (defBody sLnumber) (defScope sLnumber) .none kV0 dc0 pm0 an0 cd0 ct0), sl0⟩) (c0 : PySem.W.codeIn K cd0 "_law_number" = true) (k0 : PySem.W.keepIn K (.ref f0) = true)
    (a1 : PySem.W.nsIn K mainGlobals "_law_draws" = some (some (.ref f1))) (l1 : K.lookup f1 = some ⟨oc1, od1, .func (PySem.W.fnOf "_law_draws" "_law_draws" (defArgs sLdraws) (defBody sLdraws) (defScope sLdraws) .none kV1 dc1 pm1 an1 cd1 ct1), sl1⟩) (c1 : PySem.W.codeIn K cd1 "_law_draws" = true) (k1 : PySem.W.keepIn K (.ref f1) = true)
    (a2 : PySem.W.nsIn K mainGlobals "_law_machine" = some (some (.ref f2))) (l2 : K.lookup f2 = some ⟨oc2, od2, .func (PySem.W.fnOf "_law_machine" "_law_machine" (defArgs sLmachine) (defBody sLmachine) (defScope sLmachine) .none kV2 dc2 pm2 an2 cd2 ct2), sl2⟩) (c2 : PySem.W.codeIn K cd2 "_law_machine" = true) (k2 : PySem.W.keepIn K (.ref f2) = true)
    (a3 : PySem.W.nsIn K mainGlobals "is_final" = some (some (.ref f3))) (l3 : K.lookup f3 = some ⟨oc3, od3, .func (PySem.W.fnOf "is_final" "is_final" (defArgs sis_final) (defBody sis_final) (defScope sis_final) .none kV3 dc3 pm3 an3 cd3 ct3), sl3⟩) (c3 : PySem.W.codeIn K cd3 "is_final" = true) (k3 : PySem.W.keepIn K (.ref f3) = true)
    (a4 : PySem.W.nsIn K mainGlobals "first_parts" = some (some (.ref f4))) (l4 : K.lookup f4 = some ⟨oc4, od4, .func (PySem.W.fnOf "first_parts" "first_parts" (defArgs sfirst_parts) (defBody sfirst_parts) (defScope sfirst_parts) .none kV4 dc4 pm4 an4 cd4 ct4), sl4⟩) (c4 : PySem.W.codeIn K cd4 "first_parts" = true) (k4 : PySem.W.keepIn K (.ref f4) = true)
    (a5 : PySem.W.nsIn K mainGlobals "finer_parts" = some (some (.ref f5))) (l5 : K.lookup f5 = some ⟨oc5, od5, .func (PySem.W.fnOf "finer_parts" "finer_parts" (defArgs sfiner_parts) (defBody sfiner_parts) (defScope sfiner_parts) .none kV5 dc5 pm5 an5 cd5 ct5), sl5⟩) (c5 : PySem.W.codeIn K cd5 "finer_parts" = true) (k5 : PySem.W.keepIn K (.ref f5) = true)
    (a6 : PySem.W.nsIn K mainGlobals "access_from" = some (some (.ref f6))) (l6 : K.lookup f6 = some ⟨oc6, od6, .func (PySem.W.fnOf "access_from" "access_from" (defArgs saccess_from) (defBody saccess_from) (defScope saccess_from) .none kV6 dc6 pm6 an6 cd6 ct6), sl6⟩) (c6 : PySem.W.codeIn K cd6 "access_from" = true) (k6 : PySem.W.keepIn K (.ref f6) = true)
    (a7 : PySem.W.nsIn K mainGlobals "access_words" = some (some (.ref f7))) (l7 : K.lookup f7 = some ⟨oc7, od7, .func (PySem.W.fnOf "access_words" "access_words" (defArgs saccess_words) (defBody saccess_words) (defScope saccess_words) .none kV7 dc7 pm7 an7 cd7 ct7), sl7⟩) (c7 : PySem.W.codeIn K cd7 "access_words" = true) (k7 : PySem.W.keepIn K (.ref f7) = true)
    (a8 : PySem.W.nsIn K mainGlobals "reachable" = some (some (.ref f8))) (l8 : K.lookup f8 = some ⟨oc8, od8, .func (PySem.W.fnOf "reachable" "reachable" (defArgs sreachable) (defBody sreachable) (defScope sreachable) .none kV8 dc8 pm8 an8 cd8 ct8), sl8⟩) (c8 : PySem.W.codeIn K cd8 "reachable" = true) (k8 : PySem.W.keepIn K (.ref f8) = true)
    (a9 : PySem.W.nsIn K mainGlobals "part_count" = some (some (.ref f9))) (l9 : K.lookup f9 = some ⟨oc9, od9, .func (PySem.W.fnOf "part_count" "part_count" (defArgs spart_count) (defBody spart_count) (defScope spart_count) .none kV9 dc9 pm9 an9 cd9 ct9), sl9⟩) (c9 : PySem.W.codeIn K cd9 "part_count" = true) (k9 : PySem.W.keepIn K (.ref f9) = true)
    (a10 : PySem.W.nsIn K mainGlobals "same_parts" = some (some (.ref f10))) (l10 : K.lookup f10 = some ⟨oc10, od10, .func (PySem.W.fnOf "same_parts" "same_parts" (defArgs ssame_parts) (defBody ssame_parts) (defScope ssame_parts) .none kV10 dc10 pm10 an10 cd10 ct10), sl10⟩) (c10 : PySem.W.codeIn K cd10 "same_parts" = true) (k10 : PySem.W.keepIn K (.ref f10) = true)
    (a11 : PySem.W.nsIn K mainGlobals "numbered_states" = some (some (.ref f11))) (l11 : K.lookup f11 = some ⟨oc11, od11, .func (PySem.W.fnOf "numbered_states" "numbered_states" (defArgs snumbered_states) (defBody snumbered_states) (defScope snumbered_states) .none kV11 dc11 pm11 an11 cd11 ct11), sl11⟩) (c11 : PySem.W.codeIn K cd11 "numbered_states" = true) (k11 : PySem.W.keepIn K (.ref f11) = true)
    (a12 : PySem.W.nsIn K mainGlobals "least" = some (some (.ref f12))) (l12 : K.lookup f12 = some ⟨oc12, od12, .func (PySem.W.fnOf "least" "least" (defArgs sleast) (defBody sleast) (defScope sleast) .none kV12 dc12 pm12 an12 cd12 ct12), sl12⟩) (c12 : PySem.W.codeIn K cd12 "least" = true) (k12 : PySem.W.keepIn K (.ref f12) = true)
    (a13 : PySem.W.nsIn K mainGlobals "bounded" = some (some (.ref f13))) (l13 : K.lookup f13 = some ⟨oc13, od13, .func (PySem.W.fnOf "bounded" "bounded" (defArgs sbounded) (defBody sbounded) (defScope sbounded) .none kV13 dc13 pm13 an13 cd13 ct13), sl13⟩) (c13 : PySem.W.codeIn K cd13 "bounded" = true) (k13 : PySem.W.keepIn K (.ref f13) = true)
    (a14 : PySem.W.nsIn K mainGlobals "final_set" = some (some (.ref f14))) (l14 : K.lookup f14 = some ⟨oc14, od14, .func (PySem.W.fnOf "final_set" "final_set" (defArgs sfinal_set) (defBody sfinal_set) (defScope sfinal_set) .none kV14 dc14 pm14 an14 cd14 ct14), sl14⟩) (c14 : PySem.W.codeIn K cd14 "final_set" = true) (k14 : PySem.W.keepIn K (.ref f14) = true)
    (a15 : PySem.W.findIn K (.ref Co_BackWalk) "begin" = some (some (.ref f15))) (l15 : K.lookup f15 = some ⟨oc15, od15, .func (PySem.W.fnOf "begin" "BackWalk.begin" (defArgs sBackWalk_begin) (defBody sBackWalk_begin) (defScope sBackWalk_begin) .none kV15 dc15 pm15 an15 cd15 ct15), sl15⟩) (c15 : PySem.W.codeIn K cd15 "BackWalk.begin" = true) (k15 : PySem.W.keepIn K (.ref f15) = true) (i15 : PySem.W.isFn K (.ref f15) = true)
    (a16 : PySem.W.nsIn K mainGlobals "has_state" = some (some (.ref f16))) (l16 : K.lookup f16 = some ⟨oc16, od16, .func (PySem.W.fnOf "has_state" "has_state" (defArgs shas_state) (defBody shas_state) (defScope shas_state) .none kV16 dc16 pm16 an16 cd16 ct16), sl16⟩) (c16 : PySem.W.codeIn K cd16 "has_state" = true) (k16 : PySem.W.keepIn K (.ref f16) = true)
    (a17 : PySem.W.nsIn K mainGlobals "source_set" = some (some (.ref f17))) (l17 : K.lookup f17 = some ⟨oc17, od17, .func (PySem.W.fnOf "source_set" "source_set" (defArgs ssource_set) (defBody ssource_set) (defScope ssource_set) .none kV17 dc17 pm17 an17 cd17 ct17), sl17⟩) (c17 : PySem.W.codeIn K cd17 "source_set" = true) (k17 : PySem.W.keepIn K (.ref f17) = true)
    (a18 : PySem.W.findIn K (.ref Co_BackWalk) "follow" = some (some (.ref f18))) (l18 : K.lookup f18 = some ⟨oc18, od18, .func (PySem.W.fnOf "follow" "BackWalk.follow" (defArgs sBackWalk_follow) (defBody sBackWalk_follow) (defScope sBackWalk_follow) .none kV18 dc18 pm18 an18 cd18 ct18), sl18⟩) (c18 : PySem.W.codeIn K cd18 "BackWalk.follow" = true) (k18 : PySem.W.keepIn K (.ref f18) = true) (i18 : PySem.W.isFn K (.ref f18) = true)
    (a19 : PySem.W.findIn K (.ref Co_BackWalk) "ends" = some (some (.ref f19))) (l19 : K.lookup f19 = some ⟨oc19, od19, .func (PySem.W.fnOf "ends" "BackWalk.ends" (defArgs sBackWalk_ends) (defBody sBackWalk_ends) (defScope sBackWalk_ends) .none kV19 dc19 pm19 an19 cd19 ct19), sl19⟩) (c19 : PySem.W.codeIn K cd19 "BackWalk.ends" = true) (k19 : PySem.W.keepIn K (.ref f19) = true) (i19 : PySem.W.isFn K (.ref f19) = true)
    (a20 : PySem.W.nsIn K mainGlobals "explored" = some (some (.ref f20))) (l20 : K.lookup f20 = some ⟨oc20, od20, .func (PySem.W.fnOf "explored" "explored" (defArgs sexplored) (defBody sexplored) (defScope sexplored) .none kV20 dc20 pm20 an20 cd20 ct20), sl20⟩) (c20 : PySem.W.codeIn K cd20 "explored" = true) (k20 : PySem.W.keepIn K (.ref f20) = true)
    (a21 : PySem.W.findIn K (.ref Co_BackWalk) "__init__" = some (some (.ref f21))) (l21 : K.lookup f21 = some ⟨oc21, od21, .func (PySem.W.fnOf "__init__" "BackWalk.__init__" (defArgs sBackWalk_init) (defBody sBackWalk_init) (defScope sBackWalk_init) .none kV21 dc21 pm21 an21 cd21 ct21), sl21⟩) (c21 : PySem.W.codeIn K cd21 "BackWalk.__init__" = true) (k21 : PySem.W.keepIn K (.ref f21) = true) (i21 : PySem.W.isFn K (.ref f21) = true)
    (a22 : PySem.W.nsIn K mainGlobals "reversal" = some (some (.ref f22))) (l22 : K.lookup f22 = some ⟨oc22, od22, .func (PySem.W.fnOf "reversal" "reversal" (defArgs sreversal) (defBody sreversal) (defScope sreversal) .none kV22 dc22 pm22 an22 cd22 ct22), sl22⟩) (c22 : PySem.W.codeIn K cd22 "reversal" = true) (k22 : PySem.W.keepIn K (.ref f22) = true)
    (a23 : PySem.W.nsIn K mainGlobals "_law_words" = some (some (.ref f23))) (l23 : K.lookup f23 = some ⟨oc23, od23, .func (PySem.W.fnOf "_law_words" "_law_words" (defArgs sLwords) (defBody sLwords) (defScope sLwords) .none kV23 dc23 pm23 an23 cd23 ct23), sl23⟩) (c23 : PySem.W.codeIn K cd23 "_law_words" = true) (k23 : PySem.W.keepIn K (.ref f23) = true)
    (a24 : PySem.W.nsIn K mainGlobals "_law_same" = some (some (.ref f24))) (l24 : K.lookup f24 = some ⟨oc24, od24, .func (PySem.W.fnOf "_law_same" "_law_same" (defArgs sLsame) (defBody sLsame) (defScope sLsame) .none kV24 dc24 pm24 an24 cd24 ct24), sl24⟩) (c24 : PySem.W.codeIn K cd24 "_law_same" = true) (k24 : PySem.W.keepIn K (.ref f24) = true)
    (a25 : PySem.W.nsIn K mainGlobals "_law_parted" = some (some (.ref f25))) (l25 : K.lookup f25 = some ⟨oc25, od25, .func (PySem.W.fnOf "_law_parted" "_law_parted" (defArgs sLparted) (defBody sLparted) (defScope sLparted) .none kV25 dc25 pm25 an25 cd25 ct25), sl25⟩) (c25 : PySem.W.codeIn K cd25 "_law_parted" = true) (k25 : PySem.W.keepIn K (.ref f25) = true)
    (a26 : PySem.W.nsIn K mainGlobals "_law_least" = some (some (.ref f26))) (l26 : K.lookup f26 = some ⟨oc26, od26, .func (PySem.W.fnOf "_law_least" "_law_least" (defArgs sLleast) (defBody sLleast) (defScope sLleast) .none kV26 dc26 pm26 an26 cd26 ct26), sl26⟩) (c26 : PySem.W.codeIn K cd26 "_law_least" = true) (k26 : PySem.W.keepIn K (.ref f26) = true)
    (a27 : PySem.W.nsIn K mainGlobals "_law_back" = some (some (.ref f27))) (l27 : K.lookup f27 = some ⟨oc27, od27, .func (PySem.W.fnOf "_law_back" "_law_back" (defArgs sLback) (defBody sLback) (defScope sLback) .none kV27 dc27 pm27 an27 cd27 ct27), sl27⟩) (c27 : PySem.W.codeIn K cd27 "_law_back" = true) (k27 : PySem.W.keepIn K (.ref f27) = true)
    (a28 : PySem.W.nsIn K mainGlobals "_law_state" = some (some (.ref f28))) (l28 : K.lookup f28 = some ⟨oc28, od28, .func (PySem.W.fnOf "_law_state" "_law_state" (defArgs sLstate) (defBody sLstate) (defScope sLstate) .none kV28 dc28 pm28 an28 cd28 ct28), sl28⟩) (c28 : PySem.W.codeIn K cd28 "_law_state" = true) (k28 : PySem.W.keepIn K (.ref f28) = true)
    (a29 : PySem.W.nsIn K mainGlobals "_law_accepts" = some (some (.ref f29))) (l29 : K.lookup f29 = some ⟨oc29, od29, .func (PySem.W.fnOf "_law_accepts" "_law_accepts" (defArgs sLaccepts) (defBody sLaccepts) (defScope sLaccepts) .none kV29 dc29 pm29 an29 cd29 ct29), sl29⟩) (c29 : PySem.W.codeIn K cd29 "_law_accepts" = true) (k29 : PySem.W.keepIn K (.ref f29) = true)
    (a30 : PySem.W.nsIn K mainGlobals "_law_turned" = some (some (.ref f30))) (l30 : K.lookup f30 = some ⟨oc30, od30, .func (PySem.W.fnOf "_law_turned" "_law_turned" (defArgs sLturned) (defBody sLturned) (defScope sLturned) .none kV30 dc30 pm30 an30 cd30 ct30), sl30⟩) (c30 : PySem.W.codeIn K cd30 "_law_turned" = true) (k30 : PySem.W.keepIn K (.ref f30) = true)
    (a31 : PySem.W.nsIn K mainGlobals "law" = some (some (.ref f31))) (l31 : K.lookup f31 = some ⟨oc31, od31, .func (PySem.W.fnOf "law" "law" (defArgs slaw) (defBody slaw) (defScope slaw) .none kV31 dc31 pm31 an31 cd31 ct31), sl31⟩) (c31 : PySem.W.codeIn K cd31 "law" = true) (k31 : PySem.W.keepIn K (.ref f31) = true)
    (z0 : PySem.W.nsIn K mainGlobals "abs" = some none) (z1 : PySem.W.nsIn K mainGlobals "bool" = some none) (z2 : PySem.W.nsIn K mainGlobals "int" = some none) (z3 : PySem.W.nsIn K mainGlobals "isinstance" = some none) (z4 : PySem.W.nsIn K mainGlobals "len" = some none) (z5 : PySem.W.nsIn K mainGlobals "list" = some none) (z6 : PySem.W.nsIn K mainGlobals "range" = some none) (z7 : PySem.W.nsIn K mainGlobals "set" = some none) (z8 : PySem.W.nsIn K mainGlobals "str" = some none) (z9 : PySem.W.nsIn K mainGlobals "sum" = some none) (z10 : PySem.W.nsIn K mainGlobals "tuple" = some none)
    (q0 : PySem.W.nsIn K mainGlobals "LETTERS" = some (some (.str "abc" t0)))
    (q1 : PySem.W.nsIn K mainGlobals "MAX_STATES" = some (some (.int 40 t1)))
    (q2 : PySem.W.nsIn K mainGlobals "MOST_THINGS" = some (some (.int 1000 t2))) :
    ∃ fd : FuncData, (∀ (s : Shared) (v : Value), BindsTo s fd ⟨[v], []⟩ [("script", v)]) ∧ ∀ base : Heap, K.In base → base.Ns mainGlobals mg → FnOk P w K mg base CX0 65 fa fd ["script"] (spLaw K) := by
  have e := hfa.symm.trans (PySem.W.mg_of X G a31)
  cases e
  have F := fun_mk (st := slaw) l31 c31 k31
  have T : Txt K mg := ⟨⟨⟨_, _, fun_mk (st := sLnumber) l0 c0 k0, PySem.W.mg_of X G a0⟩⟩, ⟨⟨_, _, fun_mk (st := sLdraws) l1 c1 k1, PySem.W.mg_of X G a1⟩⟩, ⟨⟨_, _, fun_mk (st := sLmachine) l2 c2 k2, PySem.W.mg_of X G a2⟩⟩, ⟨⟨_, _, fun_mk (st := sis_final) l3 c3 k3, PySem.W.mg_of X G a3⟩⟩, ⟨⟨_, _, fun_mk (st := sfirst_parts) l4 c4 k4, PySem.W.mg_of X G a4⟩⟩, ⟨⟨_, _, fun_mk (st := sfiner_parts) l5 c5 k5, PySem.W.mg_of X G a5⟩⟩, ⟨⟨_, _, fun_mk (st := saccess_from) l6 c6 k6, PySem.W.mg_of X G a6⟩⟩, ⟨⟨_, _, fun_mk (st := saccess_words) l7 c7 k7, PySem.W.mg_of X G a7⟩⟩, ⟨⟨_, _, fun_mk (st := sreachable) l8 c8 k8, PySem.W.mg_of X G a8⟩⟩, ⟨⟨_, _, fun_mk (st := spart_count) l9 c9 k9, PySem.W.mg_of X G a9⟩⟩, ⟨⟨_, _, fun_mk (st := ssame_parts) l10 c10 k10, PySem.W.mg_of X G a10⟩⟩, ⟨⟨_, _, fun_mk (st := snumbered_states) l11 c11 k11, PySem.W.mg_of X G a11⟩⟩, ⟨⟨_, _, fun_mk (st := sleast) l12 c12 k12, PySem.W.mg_of X G a12⟩⟩, ⟨⟨_, _, fun_mk (st := sbounded) l13 c13 k13, PySem.W.mg_of X G a13⟩⟩, ⟨⟨_, _, fun_mk (st := sfinal_set) l14 c14 k14, PySem.W.mg_of X G a14⟩⟩, ⟨⟨_, _, _, PySem.W.mg_of X G oa_BackWalk, ⟨og_BackWalk, oh_BackWalk, op_BackWalk, os_BackWalk⟩, ⟨a15, i15, k15⟩, fun_mk (st := sBackWalk_begin) l15 c15 k15⟩⟩, ⟨⟨_, _, fun_mk (st := shas_state) l16 c16 k16, PySem.W.mg_of X G a16⟩⟩, ⟨⟨_, _, fun_mk (st := ssource_set) l17 c17 k17, PySem.W.mg_of X G a17⟩⟩, ⟨⟨_, _, _, PySem.W.mg_of X G oa_BackWalk, ⟨og_BackWalk, oh_BackWalk, op_BackWalk, os_BackWalk⟩, ⟨a18, i18, k18⟩, fun_mk (st := sBackWalk_follow) l18 c18 k18⟩⟩, ⟨⟨_, _, _, PySem.W.mg_of X G oa_BackWalk, ⟨og_BackWalk, oh_BackWalk, op_BackWalk, os_BackWalk⟩, ⟨a19, i19, k19⟩, fun_mk (st := sBackWalk_ends) l19 c19 k19⟩⟩, ⟨⟨_, _, fun_mk (st := sexplored) l20 c20 k20, PySem.W.mg_of X G a20⟩⟩, ⟨⟨_, _, _, PySem.W.mg_of X G oa_BackWalk, ⟨om_BackWalk, a21, i21, ok_BackWalk⟩, ⟨og_BackWalk, oh_BackWalk, op_BackWalk, os_BackWalk⟩, (na_cons of_BackWalk_machine na_nil), fun_mk (st := sBackWalk_init) l21 c21 k21⟩⟩, ⟨⟨_, _, fun_mk (st := sreversal) l22 c22 k22, PySem.W.mg_of X G a22⟩⟩, ⟨⟨_, _, fun_mk (st := sLwords) l23 c23 k23, PySem.W.mg_of X G a23⟩⟩, ⟨⟨_, _, fun_mk (st := sLsame) l24 c24 k24, PySem.W.mg_of X G a24⟩⟩, ⟨⟨_, _, fun_mk (st := sLparted) l25 c25 k25, PySem.W.mg_of X G a25⟩⟩, ⟨⟨_, _, fun_mk (st := sLleast) l26 c26 k26, PySem.W.mg_of X G a26⟩⟩, ⟨⟨_, _, fun_mk (st := sLback) l27 c27 k27, PySem.W.mg_of X G a27⟩⟩, ⟨⟨_, _, fun_mk (st := sLstate) l28 c28 k28, PySem.W.mg_of X G a28⟩⟩, ⟨⟨_, _, fun_mk (st := sLaccepts) l29 c29 k29, PySem.W.mg_of X G a29⟩⟩, ⟨⟨_, _, fun_mk (st := sLturned) l30 c30 k30, PySem.W.mg_of X G a30⟩⟩, ⟨⟨_, _, fun_mk (st := slaw) l31 c31 k31, PySem.W.mg_of X G a31⟩⟩, (ats_mk (PySem.W.mg_of X G oa_BackWalk) ⟨og_BackWalk, oh_BackWalk, op_BackWalk, os_BackWalk⟩ of_BackWalk_machine), PySem.W.mg_none_of X G z0, PySem.W.mg_none_of X G z1, PySem.W.mg_none_of X G z2, PySem.W.mg_none_of X G z3, PySem.W.mg_none_of X G z4, PySem.W.mg_none_of X G z5, PySem.W.mg_none_of X G z6, PySem.W.mg_none_of X G z7, PySem.W.mg_none_of X G z8, PySem.W.mg_none_of X G z9, PySem.W.mg_none_of X G z10, ⟨_, PySem.W.mg_of X G q0⟩, ⟨_, PySem.W.mg_of X G q1⟩, ⟨_, PySem.W.mg_of X G q2⟩⟩
  refine ⟨_, fun s v => .of_eq rfl, fun base _ _ => FnOk.imp (all F T) fun vs H Q E hsp => ?_⟩
  obtain ⟨a, ns, rfl, hS, hl, hO, q⟩ := hsp
  refine ⟨H, [.lst (ns.map D.int)], rfl, Same.refl _, fun _ _ e _ => e, .cons (.lst hS (RpL.ofInt ns)) .nil, ?_⟩
  rw [hm ns hl]
  intro v G' H' _ _ _ _ _ r
  cases r.blH
  exact q H'
end GW

open PySem PySem.W PyProof.Rows
set_option maxHeartbeats 0 in
theorem PySem.Challenge.cw_viewedwords_k06_words_read_backwards_holds : PySem.Challenge.rw_viewedwords_k06_words_read_backwards.Holds := by
  w_on; o_law; k_head; (case hw => w_witness2)
  k_fill
  refine L2.walk_of (l := PySem.Challenge.rw_viewedwords_k06_words_read_backwards) (n := 63) (k := 65) (x := "script") (CX := fun _ => L2.CX0) (sp := fun w => GW.spLaw _) rfl (by decide) rfl ⟨rfl, by decide, by decide⟩ (fun w h Y => PySem.W.kIn_of Y) ?F (fun _ _ a ns hl hO hS => ⟨a, ns, rfl, hS, hl, hO, fun _ => rfl⟩) (fun _ _ _ _ _ h => h)
  case F =>
    intro w mg fa h KX G hmg
    refine' GW.all_mk (fun ns _ => GW.law_ok ns) KX G hmg ?oa_BackWalk ?og_BackWalk ?oh_BackWalk ?op_BackWalk ?os_BackWalk ?om_BackWalk ?ok_BackWalk ?of_BackWalk_machine ?a0 ?l0 ?c0 ?k0 ?a1 ?l1 ?c1 ?k1 ?a2 ?l2 ?c2 ?k2 ?a3 ?l3 ?c3 ?k3 ?a4 ?l4 ?c4 ?k4 ?a5 ?l5 ?c5 ?k5 ?a6 ?l6 ?c6 ?k6 ?a7 ?l7 ?c7 ?k7 ?a8 ?l8 ?c8 ?k8 ?a9 ?l9 ?c9 ?k9 ?a10 ?l10 ?c10 ?k10 ?a11 ?l11 ?c11 ?k11 ?a12 ?l12 ?c12 ?k12 ?a13 ?l13 ?c13 ?k13 ?a14 ?l14 ?c14 ?k14 ?a15 ?l15 ?c15 ?k15 ?i15 ?a16 ?l16 ?c16 ?k16 ?a17 ?l17 ?c17 ?k17 ?a18 ?l18 ?c18 ?k18 ?i18 ?a19 ?l19 ?c19 ?k19 ?i19 ?a20 ?l20 ?c20 ?k20 ?a21 ?l21 ?c21 ?k21 ?i21 ?a22 ?l22 ?c22 ?k22 ?a23 ?l23 ?c23 ?k23 ?a24 ?l24 ?c24 ?k24 ?a25 ?l25 ?c25 ?k25 ?a26 ?l26 ?c26 ?k26 ?a27 ?l27 ?c27 ?k27 ?a28 ?l28 ?c28 ?k28 ?a29 ?l29 ?c29 ?k29 ?a30 ?l30 ?c30 ?k30 ?a31 ?l31 ?c31 ?k31 ?z0 ?z1 ?z2 ?z3 ?z4 ?z5 ?z6 ?z7 ?z8 ?z9 ?z10 ?q0 ?q1 ?q2
    (case oa_BackWalk => k_is); (case og_BackWalk => k_is); (case oh_BackWalk => k_is); (case op_BackWalk => k_is); (case os_BackWalk => k_is); (case om_BackWalk => k_is); (case ok_BackWalk => k_is); (case of_BackWalk_machine => k_is); (case a0 => k_is); (case l0 => k_is); (case c0 => k_is); (case k0 => k_is); (case a1 => k_is); (case l1 => k_is); (case c1 => k_is); (case k1 => k_is); (case a2 => k_is); (case l2 => k_is); (case c2 => k_is); (case k2 => k_is); (case a3 => k_is); (case l3 => k_is); (case c3 => k_is); (case k3 => k_is); (case a4 => k_is); (case l4 => k_is); (case c4 => k_is); (case k4 => k_is); (case a5 => k_is); (case l5 => k_is); (case c5 => k_is); (case k5 => k_is); (case a6 => k_is); (case l6 => k_is); (case c6 => k_is); (case k6 => k_is); (case a7 => k_is); (case l7 => k_is); (case c7 => k_is); (case k7 => k_is); (case a8 => k_is); (case l8 => k_is); (case c8 => k_is); (case k8 => k_is); (case a9 => k_is); (case l9 => k_is); (case c9 => k_is); (case k9 => k_is); (case a10 => k_is); (case l10 => k_is); (case c10 => k_is); (case k10 => k_is); (case a11 => k_is); (case l11 => k_is); (case c11 => k_is); (case k11 => k_is); (case a12 => k_is); (case l12 => k_is); (case c12 => k_is); (case k12 => k_is); (case a13 => k_is); (case l13 => k_is); (case c13 => k_is); (case k13 => k_is); (case a14 => k_is); (case l14 => k_is); (case c14 => k_is); (case k14 => k_is); (case a15 => k_is); (case l15 => k_is); (case c15 => k_is); (case k15 => k_is); (case i15 => k_is); (case a16 => k_is); (case l16 => k_is); (case c16 => k_is); (case k16 => k_is); (case a17 => k_is); (case l17 => k_is); (case c17 => k_is); (case k17 => k_is); (case a18 => k_is); (case l18 => k_is); (case c18 => k_is); (case k18 => k_is); (case i18 => k_is); (case a19 => k_is); (case l19 => k_is); (case c19 => k_is); (case k19 => k_is); (case i19 => k_is); (case a20 => k_is); (case l20 => k_is); (case c20 => k_is); (case k20 => k_is); (case a21 => k_is); (case l21 => k_is); (case c21 => k_is); (case k21 => k_is); (case i21 => k_is); (case a22 => k_is); (case l22 => k_is); (case c22 => k_is); (case k22 => k_is); (case a23 => k_is); (case l23 => k_is); (case c23 => k_is); (case k23 => k_is); (case a24 => k_is); (case l24 => k_is); (case c24 => k_is); (case k24 => k_is); (case a25 => k_is); (case l25 => k_is); (case c25 => k_is); (case k25 => k_is); (case a26 => k_is); (case l26 => k_is); (case c26 => k_is); (case k26 => k_is); (case a27 => k_is); (case l27 => k_is); (case c27 => k_is); (case k27 => k_is); (case a28 => k_is); (case l28 => k_is); (case c28 => k_is); (case k28 => k_is); (case a29 => k_is); (case l29 => k_is); (case c29 => k_is); (case k29 => k_is); (case a30 => k_is); (case l30 => k_is); (case c30 => k_is); (case k30 => k_is); (case a31 => k_is); (case l31 => k_is); (case c31 => k_is); (case k31 => k_is); (case z0 => k_is); (case z1 => k_is); (case z2 => k_is); (case z3 => k_is); (case z4 => k_is); (case z5 => k_is); (case z6 => k_is); (case z7 => k_is); (case z8 => k_is); (case z9 => k_is); (case z10 => k_is); (case q0 => k_is); (case q1 => k_is); (case q2 => k_is)

