import PyProof.Rows.All
import Wide.All
import OpenK.AllK
import Wide.FinOn
import HandS.ForMost
import KE.SortData
import PyProof.NeData
import HandS.TupLen
import HandS.IsInst
import HandS.DictTup
import HandS.Flow
import HandS.More
import HandS.Exc
import HandS.ReplaceList
import HandS.Replace
import HandS.CallSlots
import HandS.ExcInit
import HandS.WordsExc
import HandS.ExcField
import HandS.ExcIs
import KE.KExcIs
import PySem.Challenge.RW_majordomo_k58_words_of_a_line
set_option Elab.async false
set_option linter.all false
set_option autoImplicit false
set_option maxRecDepth 100000
set_option maxHeartbeats 4000000
/-! Values as data: tuples are data, lists, dicts and instances stand in a memory of our own. -/
namespace Mj
open PySem PySem.Spec L2

inductive D where
  | non | bl (b : Bool) | int (i : Int) | str (x : Str) | tup (ds : List D) | ref (n : Nat)

mutual
def D.beq : D → D → Bool
  | .non, .non => true
  | .bl a, .bl b => a == b
  | .int a, .int b => decide (a = b)
  | .str a, .str b => decide (a = b)
  | .tup a, .tup b => D.beqs a b
  | .ref a, .ref b => a == b
  | _, _ => false
def D.beqs : List D → List D → Bool
  | [], [] => true
  | a :: as, b :: bs => D.beq a b && D.beqs as bs
  | _, _ => false
end
mutual
theorem D.beq_iff : ∀ a b : D, D.beq a b = true ↔ a = b
  | .non, b => by cases b <;> simp [D.beq]
  | .bl _, b => by cases b <;> simp [D.beq]
  | .int _, b => by cases b <;> simp [D.beq]
  | .str _, b => by cases b <;> simp [D.beq]
  | .tup as, b => by
    cases b with
    | tup bs => simp only [D.beq, D.tup.injEq]; exact D.beqs_iff as bs
    | _ => simp [D.beq]
  | .ref _, b => by cases b <;> simp [D.beq]
theorem D.beqs_iff : ∀ as bs : List D, D.beqs as bs = true ↔ as = bs
  | [], bs => by cases bs <;> simp [D.beqs]
  | a :: as, bs => by
    cases bs with
    | nil => simp [D.beqs]
    | cons b bs =>
      simp only [D.beqs, Bool.and_eq_true, List.cons.injEq]
      exact and_congr (D.beq_iff a b) (D.beqs_iff as bs)
end
instance : DecidableEq D := fun a b => decidable_of_iff (D.beq a b = true) (D.beq_iff a b)

/-- what stands at an address of the memory: lk tells that a loop walks it -/
inductive MO where
  | lst (lk : Bool) (ds : List D)
  | dct (lk : Bool) (kvs : List (D × D))
  | ins (c : Nat) (fs : List (Nat × D))

/-- the memory: addresses are places in it -/
structure Mem where
  os : List MO
namespace Mem
def size (M : Mem) : Nat := M.os.length
def get (M : Mem) (n : Nat) : Option MO := M.os[n]?
def set (M : Mem) (n : Nat) (o : MO) : Mem := ⟨M.os.set n o⟩
def push (M : Mem) (o : MO) : Mem := ⟨M.os ++ [o]⟩
theorem size_push {M : Mem} {o : MO} : (M.push o).size = M.size + 1 := by simp [size, push]
theorem size_set {M : Mem} {n : Nat} {o : MO} : (M.set n o).size = M.size := by simp [size, set]
theorem get_push_self {M : Mem} {o : MO} : (M.push o).get M.size = some o := by simp [size, push, get]
theorem get_push_ne {M : Mem} {o : MO} {n : Nat} (h : n ≠ M.size) : (M.push o).get n = M.get n := by
  simp only [get, push, size] at *
  rw [List.getElem?_append]
  split
  · rfl
  · rename_i h2
    have : n - M.os.length ≠ 0 := by omega
    rw [List.getElem?_eq_none (by omega : M.os.length ≤ n), List.getElem?_eq_none (by simp; omega)]
theorem get_set_self {M : Mem} {n : Nat} {o : MO} (h : n < M.size) : (M.set n o).get n = some o := by
  simp only [get, set, size] at *
  rw [List.getElem?_set_self h]
theorem get_set_ne {M : Mem} {n m : Nat} {o : MO} (h : m ≠ n) : (M.set n o).get m = M.get m := by
  simp only [get, set] at *
  rw [List.getElem?_set_ne (Ne.symm h)]
theorem lt_of_get {M : Mem} {n : Nat} {o : MO} (h : M.get n = some o) : n < M.size := (List.getElem?_eq_some_iff.mp h).1
theorem get_none {M : Mem} {n : Nat} (h : M.size ≤ n) : M.get n = none := List.getElem?_eq_none h
theorem set_set {M : Mem} {n : Nat} {o u : MO} : (M.set n o).set n u = M.set n u := by simp [set]
theorem set_get {M : Mem} {n : Nat} {o : MO} (h : M.get n = some o) : M.set n o = M := by
  cases M with | mk os => simp only [set, get] at *; congr 1; obtain ⟨h1, h2⟩ := List.getElem?_eq_some_iff.mp h; rw [← h2]; exact List.set_getElem_self h1
end Mem

/-! ### data in the heap -/
mutual
inductive Rp (π : List Addr) (H : Hp) : V → D → Prop
  | non : Rp π H .non .non
  | bl (b : Bool) : Rp π H (.bl b) (.bl b)
  | int (i : Int) : Rp π H (.int i) (.int i)
  | str (x : Str) : Rp π H (.str x) (.str x)
  | ref {n : Nat} {a : Addr} : π[n]? = some a → Rp π H (.ref a) (.ref n)
  | tup {a : Addr} {vs : List V} {ds : List D} : H a = some (.tup vs) → Rps π H vs ds → Rp π H (.ref a) (.tup ds)
inductive Rps (π : List Addr) (H : Hp) : List V → List D → Prop
  | nil : Rps π H [] []
  | cons {v : V} {vs : List V} {d : D} {ds : List D} : Rp π H v d → Rps π H vs ds → Rps π H (v :: vs) (d :: ds)
end
/-- the heap has gone on: more places, the tuples stand, what is no cell stands, what is locked stands -/
structure Le (π : List Addr) (H : Hp) (π' : List Addr) (H' : Hp) : Prop where
  pl : ∀ (n : Nat) (a : Addr), π[n]? = some a → π'[n]? = some a
  tp : ∀ a xs, H a = some (.tup xs) → H' a = some (.tup xs)
  fz : ∀ a o u, H a = some (.frz o u) → H' a = some (.frz o u)
  fr : ∀ a o, (∀ n : Nat, π[n]? ≠ some a) → H a = some o → H' a = some o
  nw : ∀ (n : Nat) (a : Addr), π'[n]? = some a → π[n]? = some a ∨ H a = none
  st : ∀ a o, H a = some o → ∃ o', H' a = some o'
theorem Le.refl {π : List Addr} {H : Hp} : Le π H π H := ⟨fun _ _ h => h, fun _ _ h => h, fun _ _ _ h => h, fun _ _ _ h => h, fun _ _ h => .inl h, fun _ o h => ⟨o, h⟩⟩
theorem Le.trans {π π1 π2 : List Addr} {H H1 H2 : Hp} (a : Le π H π1 H1) (b : Le π1 H1 π2 H2) : Le π H π2 H2 where
  pl := fun n x h => b.pl n x (a.pl n x h)
  tp := fun x xs h => b.tp x xs (a.tp x xs h)
  fz := fun x o u h => b.fz x o u (a.fz x o u h)
  fr := fun x o hn h => b.fr x o (fun n e => (a.nw n x e).elim (hn n) fun z => by rw [z] at h; cases h) (a.fr x o hn h)
  nw := fun n x e => (b.nw n x e).elim (a.nw n x) fun z => .inr (by
    cases q : H x with
    | none => rfl
    | some o => obtain ⟨o', e'⟩ := a.st x o q; rw [z] at e'; cases e')
  st := fun x o h => by obtain ⟨o1, h1⟩ := a.st x o h; exact b.st x o1 h1
/-- only what is no cell has changed, nothing that was there -/
theorem Le.more {π : List Addr} {H H' : Hp} (h : ∀ b w, H b = some w → H' b = some w) : Le π H π H' :=
  ⟨fun _ _ h => h, fun b xs e => h b _ e, fun b o u e => h b _ e, fun b o _ e => h b _ e, fun _ _ h => .inl h, fun b o e => ⟨o, h b o e⟩⟩
section
variable {π π' : List Addr} {H H' : Hp}
mutual
theorem Rp.mono (l : Le π H π' H') : ∀ {v : V} {d : D}, Rp π H v d → Rp π' H' v d
  | _, _, .non => .non
  | _, _, .bl b => .bl b
  | _, _, .int i => .int i
  | _, _, .str x => .str x
  | _, _, .ref h => .ref (l.pl _ _ h)
  | _, _, .tup h r => .tup (l.tp _ _ h) (Rps.mono l r)
theorem Rps.mono (l : Le π H π' H') : ∀ {vs : List V} {ds : List D}, Rps π H vs ds → Rps π' H' vs ds
  | _, _, .nil => .nil
  | _, _, .cons h t => .cons (Rp.mono l h) (Rps.mono l t)
end
mutual
theorem Rp.keep (l : ∀ a xs, H a = some (.tup xs) → H' a = some (.tup xs)) : ∀ {v : V} {d : D}, Rp π H v d → Rp π H' v d
  | _, _, .non => .non
  | _, _, .bl b => .bl b
  | _, _, .int i => .int i
  | _, _, .str x => .str x
  | _, _, .ref h => .ref h
  | _, _, .tup h r => .tup (l _ _ h) (Rps.keep l r)
theorem Rps.keep (l : ∀ a xs, H a = some (.tup xs) → H' a = some (.tup xs)) : ∀ {vs : List V} {ds : List D}, Rps π H vs ds → Rps π H' vs ds
  | _, _, .nil => .nil
  | _, _, .cons h t => .cons (Rp.keep l h) (Rps.keep l t)
end
theorem Rps.length : ∀ {vs : List V} {ds : List D}, Rps π H vs ds → vs.length = ds.length
  | _, _, .nil => rfl
  | _, _, .cons _ t => by simp [Rps.length t]
theorem Rps.get : ∀ {vs : List V} {ds : List D} {i : Nat} {d : D}, Rps π H vs ds → ds[i]? = some d → ∃ v, vs[i]? = some v ∧ Rp π H v d
  | _, _, _, _, .nil, e => by simp at e
  | _, _, 0, _, .cons r _, e => by simp at e; subst e; exact ⟨_, rfl, r⟩
  | _, _, i + 1, d, .cons _ t, e => by
    obtain ⟨u, h1, h2⟩ := Rps.get (i := i) (d := d) t (by simpa using e)
    exact ⟨u, by simpa using h1, h2⟩
theorem Rps.getV : ∀ {vs : List V} {ds : List D} {i : Nat} {v : V}, Rps π H vs ds → vs[i]? = some v → ∃ d, ds[i]? = some d ∧ Rp π H v d
  | _, _, _, _, .nil, e => by simp at e
  | _, _, 0, _, .cons r _, e => by simp at e; subst e; exact ⟨_, rfl, r⟩
  | _, _, i + 1, v, .cons _ t, e => by
    obtain ⟨u, h1, h2⟩ := Rps.getV (i := i) (v := v) t (by simpa using e)
    exact ⟨u, by simpa using h1, h2⟩
theorem Rps.append : ∀ {vs ws : List V} {ds es : List D}, Rps π H vs ds → Rps π H ws es → Rps π H (vs ++ ws) (ds ++ es)
  | _, _, _, _, .nil, s => s
  | _, _, _, _, .cons r t, s => .cons r (Rps.append t s)
theorem Rps.set {v : V} {d : D} (r : Rp π H v d) : ∀ {vs : List V} {ds : List D} (i : Nat), Rps π H vs ds → Rps π H (vs.set i v) (ds.set i d)
  | _, _, _, .nil => .nil
  | _, _, 0, .cons _ t => .cons r t
  | _, _, i + 1, .cons q t => .cons q (Rps.set r i t)
theorem Rps.drop : ∀ {vs : List V} {ds : List D} (n : Nat), Rps π H vs ds → Rps π H (vs.drop n) (ds.drop n)
  | _, _, 0, r => r
  | _, _, _ + 1, .nil => .nil
  | _, _, n + 1, .cons _ t => Rps.drop n t
theorem Rps.take : ∀ {vs : List V} {ds : List D} (n : Nat), Rps π H vs ds → Rps π H (vs.take n) (ds.take n)
  | _, _, 0, _ => .nil
  | _, _, _ + 1, .nil => .nil
  | _, _, n + 1, .cons r t => .cons r (Rps.take n t)
end

/-- the key that a datum is -/
def keyD : Key → D
  | .inl i => .int i
  | .inr x => .str x
def toKey : D → Option Key
  | .int i => some (.inl i)
  | .str x => some (.inr x)
  | _ => none
theorem toKey_eq {d : D} {k : Key} (h : toKey d = some k) : d = keyD k := by
  cases d <;> simp [toKey] at h <;> subst h <;> rfl
theorem toKey_keyD (k : Key) : toKey (keyD k) = some k := by cases k <;> rfl
def toKeys : List D → Option (List Key)
  | [] => some []
  | d :: ds => match toKey d, toKeys ds with
    | some k, some ks => some (k :: ks)
    | _, _ => none
theorem toKeys_eq : ∀ {ds : List D} {ks : List Key}, toKeys ds = some ks → ds = ks.map keyD
  | [], ks, h => by simp [toKeys] at h; subst h; rfl
  | d :: ds, ks, h => by
    simp only [toKeys] at h
    split at h
    · rename_i k ks' h1 h2
      cases h
      rw [toKey_eq h1, toKeys_eq h2]; rfl
    · cases h
theorem keyD_inj {a b : Key} (h : keyD a = keyD b) : a = b := by
  have := congrArg toKey h
  rw [toKey_keyD, toKey_keyD] at this
  exact Option.some.inj this
theorem keyDs_inj : ∀ {a b : List Key}, a.map keyD = b.map keyD → a = b
  | [], [], _ => rfl
  | [], _ :: _, h => by simp at h
  | _ :: _, [], h => by simp at h
  | a :: as, b :: bs, h => by
    simp only [List.map_cons, List.cons.injEq] at h
    rw [keyD_inj h.1, keyDs_inj h.2]
/-- what may be a dict's key here -/
def isKey : D → Bool
  | .int _ => true
  | .str _ => true
  | .tup ds => (toKeys ds).isSome
  | _ => false
theorem rp_key {π : List Addr} {H : Hp} {v : V} {k : Key} (h : Rp π H v (keyD k)) : v = kV k := by
  cases k <;> cases h <;> rfl
theorem rps_keys {π : List Addr} {H : Hp} : ∀ {ks : List Key} {vs : List V}, Rps π H vs (ks.map keyD) → vs = ks.map kV
  | [], _, h => by cases h; rfl
  | k :: ks, _, h => by
    cases h with
    | cons h1 h2 => rw [rp_key h1, rps_keys h2]; rfl

/-- pairs of a dict -/
inductive KVs (π : List Addr) (H : Hp) {κ : Type} (f : κ → D) : List (κ × V) → List (D × D) → Prop
  | nil : KVs π H f [] []
  | cons {k : κ} {v : V} {d : D} {r : List (κ × V)} {s : List (D × D)} : Rp π H v d → KVs π H f r s → KVs π H f ((k, v) :: r) ((f k, d) :: s)
theorem KVs.mono {π π' : List Addr} {H H' : Hp} {κ : Type} {f : κ → D} (l : Le π H π' H') : ∀ {r : List (κ × V)} {s : List (D × D)}, KVs π H f r s → KVs π' H' f r s
  | _, _, .nil => .nil
  | _, _, .cons h t => .cons (h.mono l) (KVs.mono l t)
theorem KVs.length {π : List Addr} {H : Hp} {κ : Type} {f : κ → D} : ∀ {r : List (κ × V)} {s : List (D × D)}, KVs π H f r s → r.length = s.length
  | _, _, .nil => rfl
  | _, _, .cons _ t => by simp [KVs.length t]
def keyT (ks : List Key) : D := .tup (ks.map keyD)
theorem keyT_inj {a b : List Key} (h : keyT a = keyT b) : a = b := by
  unfold keyT at h; injection h with h; exact keyDs_inj h

/-- a dict's thing in the heap -/
inductive DR (π : List Addr) (H : Hp) : HO → List (D × D) → Prop
  | k {r : List (Key × V)} {s : List (D × D)} : KVs π H keyD r s → DR π H (.dK r) s
  | t {r : List (List Key × V)} {s : List (D × D)} : KVs π H keyT r s → DR π H (.dT r) s
theorem DR.mono {π π' : List Addr} {H H' : Hp} (l : Le π H π' H') {u : HO} {s : List (D × D)} (h : DR π H u s) : DR π' H' u s := by
  cases h with
  | k h => exact .k (h.mono l)
  | t h => exact .t (h.mono l)
theorem DR.mut {π : List Addr} {H : Hp} {u : HO} {s : List (D × D)} (h : DR π H u s) : Mut (some u) := by cases h <;> exact trivial

/-- the program's classes by number, its attributes' names by number, and whether a class leaves an attribute's name alone -/
structure Cw where
  cls : Nat → Addr
  fnm : Nat → Option Str
  na : Nat → Nat → Bool
  finj : ∀ a b x, fnm a = some x → fnm b = some x → a = b
/-- an instance's attributes -/
inductive FsR (C : Cw) (π : List Addr) (H : Hp) : List (Str × V) → List (Nat × D) → Prop
  | nil : FsR C π H [] []
  | cons {f : Nat} {x : Str} {v : V} {d : D} {r : List (Str × V)} {s : List (Nat × D)} : C.fnm f = some x → Rp π H v d → FsR C π H r s → FsR C π H ((x, v) :: r) ((f, d) :: s)
theorem FsR.mono {C : Cw} {π π' : List Addr} {H H' : Hp} (l : Le π H π' H') : ∀ {r : List (Str × V)} {s : List (Nat × D)}, FsR C π H r s → FsR C π' H' r s
  | _, _, .nil => .nil
  | _, _, .cons n h t => .cons n (h.mono l) (FsR.mono l t)
theorem FsR.length {C : Cw} {π : List Addr} {H : Hp} : ∀ {r : List (Str × V)} {s : List (Nat × D)}, FsR C π H r s → r.length = s.length
  | _, _, .nil => rfl
  | _, _, .cons _ _ t => by simp [FsR.length t]
theorem FsR.lookup {C : Cw} {π : List Addr} {H : Hp} {f : Nat} {x : Str} (hx : C.fnm f = some x) : ∀ {r : List (Str × V)} {s : List (Nat × D)} {d : D}, FsR C π H r s → s.lookup f = some d → ∃ v, r.lookup x = some v ∧ Rp π H v d
  | _, _, _, .nil, e => by simp at e
  | _, _, d, .cons (f := g) (x := y) n h t, e => by
    rw [List.lookup_cons] at e ⊢
    by_cases z : f = g
    · subst z
      rw [hx] at n; cases n
      simp at e ⊢
      subst e; exact h
    · have z2 : ¬ x = y := fun q => z (C.finj f g x hx (by rw [q]; exact n))
      rw [show (f == g) = false by simpa using z] at e
      rw [show (x == y) = false by simpa using z2]
      exact FsR.lookup hx t e
theorem FsR.lookup_none {C : Cw} {π : List Addr} {H : Hp} {f : Nat} {x : Str} (hx : C.fnm f = some x) : ∀ {r : List (Str × V)} {s : List (Nat × D)}, FsR C π H r s → s.lookup f = none → r.lookup x = none
  | _, _, .nil, e => by simp
  | _, _, .cons (f := g) (x := y) n h t, e => by
    rw [List.lookup_cons] at e ⊢
    by_cases z : f = g
    · subst z; simp at e
    · have z2 : ¬ x = y := fun q => z (C.finj f g x hx (by rw [q]; exact n))
      rw [show (f == g) = false by simpa using z] at e
      rw [show (x == y) = false by simpa using z2]
      exact FsR.lookup_none hx t e
def putD (f : Nat) (v : D) : List (Nat × D) → List (Nat × D)
  | [] => [(f, v)]
  | (g, u) :: r => if g = f then (g, v) :: r else (g, u) :: putD f v r
theorem FsR.put {C : Cw} {π : List Addr} {H : Hp} {f : Nat} {x : Str} (hx : C.fnm f = some x) {v : V} {d : D} (q : Rp π H v d) : ∀ {r : List (Str × V)} {s : List (Nat × D)}, FsR C π H r s → FsR C π H (putF x v r) (putD f d s)
  | _, _, .nil => .cons hx q .nil
  | _, _, .cons (f := g) (x := y) n h t => by
    simp only [putF, putD]
    by_cases z : g = f
    · subst z
      rw [hx] at n; cases n
      rw [if_pos rfl, if_pos rfl]
      exact .cons hx q t
    · have z2 : ¬ y = x := fun e => z (C.finj g f y n (by rw [e]; exact hx))
      rw [if_neg z, if_neg z2]
      exact .cons n h (FsR.put hx q t)

/-- a memory cell in the heap -/
def MOk (C : Cw) (π : List Addr) (H : Hp) (a : Addr) : MO → Prop
  | .lst lk ds => ∃ vs, Rps π H vs ds ∧ if lk then ∃ o, H a = some (.frz o (.lst vs)) else H a = some (.lst vs)
  | .dct lk kvs => ∃ u, DR π H u kvs ∧ if lk then ∃ o, H a = some (.frz o u) else H a = some u
  | .ins c fs => ∃ dx gs, FsR C π H gs fs ∧ H a = some (.ins (C.cls c) dx gs)
theorem MOk.not_tup {C : Cw} {π : List Addr} {H : Hp} {a : Addr} {o : MO} (h : MOk C π H a o) : ∀ xs, H a ≠ some (.tup xs) := by
  intro xs e
  cases o with
  | lst lk ds =>
    obtain ⟨vs, _, h⟩ := h
    cases lk with
    | true => obtain ⟨o, h⟩ := h; rw [h] at e; cases e
    | false => rw [show H a = _ from h] at e; cases e
  | dct lk kvs =>
    obtain ⟨u, r, h⟩ := h
    cases lk with
    | true => obtain ⟨o, h⟩ := h; rw [h] at e; cases e
    | false => rw [show H a = _ from h] at e; cases r <;> cases e
  | ins c fs => obtain ⟨dx, gs, _, h⟩ := h; rw [h] at e; cases e
theorem MOk.some {C : Cw} {π : List Addr} {H : Hp} {a : Addr} {o : MO} (h : MOk C π H a o) : ∃ u, H a = some u := by
  cases o with
  | lst lk ds =>
    obtain ⟨vs, _, h⟩ := h
    cases lk with
    | true => obtain ⟨o, h⟩ := h; exact ⟨_, h⟩
    | false => exact ⟨_, h⟩
  | dct lk kvs =>
    obtain ⟨u, r, h⟩ := h
    cases lk with
    | true => obtain ⟨o, h⟩ := h; exact ⟨_, h⟩
    | false => exact ⟨_, h⟩
  | ins c fs => obtain ⟨dx, gs, _, h⟩ := h; exact ⟨_, h⟩
theorem MOk.mono {C : Cw} {π π' : List Addr} {H H' : Hp} {a : Addr} {o : MO} (h : MOk C π H a o) (l : Le π H π' H') (e : H' a = H a) : MOk C π' H' a o := by
  cases o with
  | lst lk ds => obtain ⟨vs, r, h⟩ := h; exact ⟨vs, r.mono l, by rw [e]; exact h⟩
  | dct lk kvs => obtain ⟨u, r, h⟩ := h; exact ⟨u, r.mono l, by rw [e]; exact h⟩
  | ins c fs => obtain ⟨dx, gs, r, h⟩ := h; exact ⟨dx, gs, r.mono l, by rw [e]; exact h⟩
/-- the memory is held by the heap -/
structure MR (C : Cw) (π : List Addr) (H : Hp) (M : Mem) : Prop where
  len : π.length = M.size
  nd : ∀ (n m : Nat) (a : Addr), π[n]? = some a → π[m]? = some a → n = m
  ok : ∀ n o, M.get n = some o → ∃ a, π[n]? = some a ∧ MOk C π H a o
section
variable {C : Cw} {π π' : List Addr} {H H' : Hp} {M : Mem} {n : Nat} {a p : Addr} {o o' : MO} {u u' : HO}
theorem MR.at (R : MR C π H M) (e : M.get n = some o) (h : π[n]? = some a) : MOk C π H a o := by
  obtain ⟨b, hb, k⟩ := R.ok n o e
  rw [h] at hb; cases hb; exact k
/-- only what is no cell has changed (more tuples) -/
theorem MR.tuples (R : MR C π H M) (h : ∀ b w, H b = some w → H' b = some w) : MR C π H' M ∧ Le π H π H' := by
  have l : Le π H π H' := Le.more h
  refine ⟨⟨R.len, R.nd, fun n o e => ?_⟩, l⟩
  obtain ⟨b, hb, k⟩ := R.ok n o e
  obtain ⟨w, hw⟩ := k.some
  exact ⟨b, hb, k.mono l (by rw [hw, h b w hw])⟩
theorem upd_fresh {v : HO} (hp : H p = none) : ∀ b w, H b = some w → upd H p v b = some w := fun b w e => by rw [upd_ne (ne_of_none e hp)]; exact e
theorem MR.tuple (R : MR C π H M) (hp : H p = none) {vs : List V} : MR C π (upd H p (.tup vs)) M ∧ Le π H π (upd H p (.tup vs)) := R.tuples (upd_fresh hp)
/-- a new cell -/
theorem MR.push (R : MR C π H M) (hp : H p = none) (h : ∀ π' H', Le π H π' H' → H' p = some u → MOk C π' H' p o) : MR C (π ++ [p]) (upd H p u) (M.push o) ∧ Le π H (π ++ [p]) (upd H p u) := by
  have old : ∀ (n : Nat) (a : Addr), π[n]? = some a → a ≠ p := fun n a e z => by
    obtain ⟨h1, _⟩ := List.getElem?_eq_some_iff.mp e
    obtain ⟨o, ho⟩ : ∃ o, M.get n = some o := ⟨_, List.getElem?_eq_getElem (by rw [R.len] at h1; exact h1)⟩
    obtain ⟨w, hw⟩ := (R.at ho e).some
    rw [z, hp] at hw; cases hw
  have spl : ∀ (n : Nat) (a : Addr), (π ++ [p])[n]? = some a → π[n]? = some a ∨ (n = π.length ∧ a = p) := fun n a e => by
    rw [List.getElem?_append] at e
    split at e
    · exact .inl e
    · rename_i h1
      obtain ⟨h2, h3⟩ := List.getElem?_eq_some_iff.mp e
      have h4 : n - π.length < 1 := h2
      have h5 : n - π.length = 0 := by omega
      refine .inr ⟨by omega, ?_⟩
      simp [h5] at h3
      exact h3.symm
  have l : Le π H (π ++ [p]) (upd H p u) := ⟨fun n a e => by rw [List.getElem?_append_left (List.getElem?_eq_some_iff.mp e).1]; exact e, fun b xs e => upd_fresh hp b _ e, fun b o u e => upd_fresh hp b _ e, fun b o _ e => upd_fresh hp b _ e,
    fun n a e => (spl n a e).elim .inl fun z => .inr (by rw [z.2]; exact hp), fun b o e => ⟨o, upd_fresh hp b o e⟩⟩
  refine ⟨⟨by rw [Mem.size_push, List.length_append, R.len]; rfl, fun n m a e1 e2 => ?_, fun n o' e => ?_⟩, l⟩
  · rcases spl n a e1 with h1 | ⟨h1, h1'⟩ <;> rcases spl m a e2 with h2 | ⟨h2, h2'⟩
    · exact R.nd n m a h1 h2
    · exact absurd h2' (old n a h1)
    · exact absurd h1' (old m a h2)
    · omega
  · by_cases hn : n = M.size
    · subst hn
      rw [Mem.get_push_self] at e
      cases e
      exact ⟨p, by rw [← R.len]; simp, h _ _ l upd_same⟩
    · rw [Mem.get_push_ne hn] at e
      obtain ⟨b, hb, k⟩ := R.ok n o' e
      exact ⟨b, l.pl _ _ hb, k.mono l (upd_ne (old n b hb))⟩
/-- a cell changes -/
theorem MR.set (R : MR C π H M) (hn : π[n]? = some a) (hl : n < M.size) (hz : ∀ o u, H a ≠ some (.frz o u)) (h : ∀ H', Le π H π H' → H' a = some u → MOk C π H' a o) : MR C π (upd H a u) (M.set n o) ∧ Le π H π (upd H a u) := by
  obtain ⟨o0, ho0⟩ : ∃ o, M.get n = some o := ⟨_, List.getElem?_eq_getElem hl⟩
  have l : Le π H π (upd H a u) := ⟨fun _ _ h => h, fun b xs e => by rw [upd_ne (fun z => by subst z; exact (R.at ho0 hn).not_tup xs e)]; exact e,
    fun b o v e => by rw [upd_ne (fun z => by subst z; exact hz _ _ e)]; exact e, fun b o hb e => by rw [upd_ne (fun z => by subst z; exact hb n hn)]; exact e, fun _ _ h => .inl h,
    fun b o e => by
      by_cases z : b = a
      · subst z; exact ⟨u, upd_same⟩
      · exact ⟨o, by rw [upd_ne z]; exact e⟩⟩
  refine ⟨⟨by rw [Mem.size_set]; exact R.len, R.nd, fun m o' e => ?_⟩, l⟩
  by_cases hm : m = n
  · subst hm
    rw [Mem.get_set_self hl] at e
    cases e
    exact ⟨a, hn, h _ l upd_same⟩
  · rw [Mem.get_set_ne hm] at e
    obtain ⟨b, hb, k⟩ := R.ok m o' e
    refine ⟨b, hb, k.mono l (upd_ne fun z => ?_)⟩
    subst z
    exact hm (R.nd _ _ _ hb hn)
/-- a thing that is no cell and no tuple changes -/
theorem MR.other (R : MR C π H M) (hn : ∀ n : Nat, π[n]? ≠ some p) (ht : ∀ xs, H p ≠ some (.tup xs)) {v : HO} : MR C π (upd H p v) M := by
  refine ⟨R.len, R.nd, fun m o' e => ?_⟩
  obtain ⟨b, hb, k⟩ := R.ok m o' e
  have nb : b ≠ p := fun z => hn m (by rw [← z]; exact hb)
  have e1 : upd H p v b = H b := upd_ne nb
  have tk : ∀ c xs, H c = some (.tup xs) → upd H p v c = some (.tup xs) := fun c xs q => by rw [upd_ne (fun z => by subst z; exact ht xs q)]; exact q
  refine ⟨b, hb, ?_⟩
  cases o' with
  | lst lk ds => obtain ⟨vs, r, h⟩ := k; exact ⟨vs, r.keep tk, by rw [e1]; exact h⟩
  | dct lk kvs =>
    obtain ⟨u, r, h⟩ := k
    refine ⟨u, ?_, by rw [e1]; exact h⟩
    have kv : ∀ {κ : Type} {f : κ → D} {r : List (κ × V)} {s : List (D × D)}, KVs π H f r s → KVs π (upd H p v) f r s := by
      intro κ f r s q
      induction q with
      | nil => exact .nil
      | cons h _ ih => exact .cons (h.keep tk) ih
    cases r with
    | k r => exact .k (kv r)
    | t r => exact .t (kv r)
  | ins c fs =>
    obtain ⟨dx, gs, r, h⟩ := k
    refine ⟨dx, gs, ?_, by rw [e1]; exact h⟩
    have fs' : ∀ {r : List (Str × V)} {s : List (Nat × D)}, FsR C π H r s → FsR C π (upd H p v) r s := by
      intro r s q
      induction q with
      | nil => exact .nil
      | cons n h _ ih => exact .cons n (h.keep tk) ih
    exact fs' r
end

/-! ### slots -/
abbrev Env := List (Option D)
inductive ROp (π : List Addr) (H : Hp) : Option V → Option D → Prop
  | non : ROp π H none none
  | som {v : V} {d : D} : Rp π H v d → ROp π H (some v) (some d)
inductive RS (π : List Addr) (H : Hp) : St → Env → Prop
  | nil : RS π H [] []
  | cons {v : Option V} {d : Option D} {s : St} {e : Env} : ROp π H v d → RS π H s e → RS π H (v :: s) (d :: e)
section
variable {π π' : List Addr} {H H' : Hp}
theorem ROp.mono (l : Le π H π' H') {v : Option V} {d : Option D} (h : ROp π H v d) : ROp π' H' v d := by
  cases h with
  | non => exact .non
  | som h => exact .som (h.mono l)
theorem RS.mono (l : Le π H π' H') : ∀ {s : St} {e : Env}, RS π H s e → RS π' H' s e
  | _, _, .nil => .nil
  | _, _, .cons h t => .cons (h.mono l) (RS.mono l t)
theorem RS.get : ∀ {s : St} {e : Env} {i : Nat} {d : D}, RS π H s e → e[i]? = some (some d) → ∃ v, s[i]? = some (some v) ∧ Rp π H v d
  | _, _, _, _, .nil, e => by simp at e
  | _, _, 0, _, .cons h t, e => by
    simp at e; subst e
    cases h with
    | som h => exact ⟨_, rfl, h⟩
  | _, _, i + 1, d, .cons _ t, e => by
    obtain ⟨u, h1, h2⟩ := RS.get (i := i) (d := d) t (by simpa using e)
    exact ⟨u, by simpa using h1, h2⟩
theorem RS.set {v : V} {d : D} (r : Rp π H v d) : ∀ {s : St} {e : Env} (i : Nat), RS π H s e → RS π H (s.set i (some v)) (e.set i (some d))
  | _, _, _, .nil => .nil
  | _, _, 0, .cons _ t => .cons (.som r) t
  | _, _, i + 1, .cons q t => .cons q (RS.set r i t)
theorem RS.unset : ∀ {s : St} {e : Env} (i : Nat), RS π H s e → RS π H (s.set i none) (e.set i none)
  | _, _, _, .nil => .nil
  | _, _, 0, .cons _ t => .cons .non t
  | _, _, i + 1, .cons q t => .cons q (RS.unset i t)
theorem RS.length : ∀ {s : St} {e : Env}, RS π H s e → s.length = e.length
  | _, _, .nil => rfl
  | _, _, .cons _ t => by simp [RS.length t]
end
end Mj

set_option Elab.async false
set_option linter.all false
set_option autoImplicit false
set_option maxRecDepth 100000
set_option maxHeartbeats 4000000
/-! A language of our own for the bodies, and what it computes. -/
namespace Mj
open PySem PySem.Spec L2

/-- an exception: its class, its attributes -/
structure Exn where
  c : Nat
  fs : List (Nat × D)
inductive R (α : Type) where
  | ok (a : α) (M : Mem)
  | exc (x : Exn) (M : Mem)
  | bad
namespace R
def bind {α β : Type} (r : R α) (f : α → Mem → R β) : R β :=
  match r with
  | .ok a M => f a M
  | .exc x M => .exc x M
  | .bad => .bad
theorem bind_ok {α β : Type} (a : α) (M : Mem) (f : α → Mem → R β) : (R.ok a M).bind f = f a M := rfl
theorem bind_exc {α β : Type} (x : Exn) (M : Mem) (f : α → Mem → R β) : (R.exc x M : R α).bind f = .exc x M := rfl
theorem bind_bad {α β : Type} (f : α → Mem → R β) : (R.bad : R α).bind f = .bad := rfl
theorem bind_ite {α β : Type} {p : Prop} [Decidable p] (a b : R α) (f : α → Mem → R β) : (if p then a else b).bind f = if p then a.bind f else b.bind f := by split <;> rfl
def opt {α : Type} (o : Option α) (M : Mem) : R α :=
  match o with
  | some a => .ok a M
  | none => .bad
def lift {α : Type} (o : Option (α × Mem)) : R α :=
  match o with
  | some p => .ok p.1 p.2
  | none => .bad
theorem lift_some {α : Type} (a : α) (M : Mem) : lift (some (a, M)) = .ok a M := rfl
theorem lift_none {α : Type} : lift (none : Option (α × Mem)) = .bad := rfl
theorem opt_some {α : Type} (a : α) (M : Mem) : opt (some a) M = .ok a M := rfl
end R

/-- built-in functions -/
inductive Bi where
  | len | abs | max2 | min2 | int | str | sorted | list | tuple | dict | sum | ord | set | any
  deriving DecidableEq
/-- classes for isinstance -/
inductive Ty where
  | list | tuple | str | int | bool | dict
  deriving DecidableEq
/-- methods of built-in types -/
inductive Bm where
  | append | extend | lpop | lpopAt | remove
  | get1 | get2 | dpop2
  | join | replace | isdigit
  deriving DecidableEq
/-- what is walked: a list or tuple; range(a); range(a, b); reversed; a dict's keys, items, values; a text -/
inductive Ik where
  | seqL | seqT | rng1 | rng2 | rev | keys | items | vals | str
  deriving DecidableEq
/-- targets -/
inductive Tg where
  | n (i : Nat) | t (is : List Nat)

mutual
inductive Ex where
  | v (i : Nat) | c (d : D) | no
  | tup (es : Exs) | lst (es : Exs) | dnew
  | bin (op : Operator) (a b : Ex) | neg (a : Ex) | not (a : Ex)
  | cmp (op : CmpOp) (a b : Ex) | cmp2 (op op' : CmpOp) (a b c : Ex)
  | and (a b : Ex) | or (a b : Ex) | ife (c a b : Ex)
  | ix (a i : Ex) | sl (a lo hi : Ex) | fld (a : Ex) (f : Nat) | glb (g : Nat)
  | call (f : Nat) (es : Exs) (ds : List D)
  | mk (c f : Nat) (es : Exs) (ds : List D)
  | mth (c f m : Nat) (o : Ex) (es : Exs) (ds : List D)
  | bi (b : Bi) (es : Exs) | isi (t : Ty) (a : Ex) | bm (m : Bm) (o : Ex) (es : Exs)
  | lc (own : List Nat) (tg : Tg) (k : Ik) (a b : Ex) (yes : Bool) (cond elt : Ex)
inductive Exs where
  | nil | cons (e : Ex) (r : Exs)
end
inductive Sm where
  | nil
  | asg (i : Nat) (e : Ex) (r : Sm)
  | asgT (is : List Nat) (e : Ex) (r : Sm)
  | setF (o : Ex) (f : Nat) (e : Ex) (r : Sm)
  | setX (o i e : Ex) (r : Sm)
  | augV (i : Nat) (op : Operator) (e : Ex) (r : Sm)
  | augF (o : Ex) (f : Nat) (op : Operator) (e : Ex) (r : Sm)
  | augX (o i : Ex) (op : Operator) (e : Ex) (r : Sm)
  | drop (e : Ex) (r : Sm)
  | iff (c : Ex) (a b r : Sm)
  | for (tg : Tg) (k : Ik) (a b : Ex) (body r : Sm)
  | whl (c : Ex) (body r : Sm)
  | ret (e : Ex) | retN | brk | cont
  | pass (r : Sm)
  | del (o i : Ex) (r : Sm)
  | raise (c f : Nat) (e : Ex)
  | stop

/-! ### operations on data -/
/-- a slice's part: left out, or an int -/
def partD (e : Ex) (d : D) : Option (Option Int) :=
  match e, d with
  | .no, _ => some none
  | _, .int i => some (some i)
  | _, _ => none

/-! no bools, no references: equality is equality of data -/
mutual
def D.plain : D → Bool
  | .non => true
  | .int _ => true
  | .str _ => true
  | .tup ds => D.plains ds
  | _ => false
def D.plains : List D → Bool
  | [] => true
  | d :: ds => D.plain d && D.plains ds
end
mutual
def D.depth : D → Nat
  | .tup ds => D.depths ds + 1
  | _ => 0
def D.depths : List D → Nat
  | [] => 0
  | d :: ds => max (D.depth d) (D.depths ds)
end
def D.flat : D → Bool
  | .non => true
  | .bl _ => true
  | .int _ => true
  | .str _ => true
  | _ => false
def cutD {α : Type} (xs : List α) (lo hi : Option Int) : List α :=
  (xs.drop (HT.sIx xs.length 0 lo)).take (HT.sIx xs.length xs.length hi - HT.sIx xs.length 0 lo)
def look (kvs : List (D × D)) (k : D) : Option D := (kvs.find? fun kv => decide (kv.1 = k)).map (·.2)
def putKV (kvs : List (D × D)) (k v : D) : List (D × D) :=
  if kvs.any (fun kv => decide (kv.1 = k)) then kvs.map fun kv => if kv.1 = k then (kv.1, v) else kv else kvs ++ [(k, v)]
def dropKV (kvs : List (D × D)) (k : D) : List (D × D) := kvs.filter fun kv => decide (kv.1 ≠ k)
/-- the keys of one dict are of one kind: tuples, or not -/
def isTup : D → Bool
  | .tup _ => true
  | _ => false
def keyFits (lk : Bool) (kvs : List (D × D)) (k : D) : Bool := isKey k && (kvs.all fun kv => isTup kv.1 == isTup k) && !(lk && kvs.isEmpty)

def truthD (d : D) (M : Mem) : Option Bool :=
  match d with
  | .non => some false
  | .bl b => some b
  | .int i => some (i != 0)
  | .str x => if x.length ≤ sizeLine then some (x.length != 0) else none
  | .tup ds => some (!ds.isEmpty)
  | .ref n => match M.get n with
    | some (.lst _ ds) => some (!ds.isEmpty)
    | _ => none
/-- == -/
def eqD (x y : D) (M : Mem) : Option Bool :=
  match x, y with
  | .bl a, .bl b => some (decide (a = b))
  | .bl _, .str _ => some false
  | .str _, .bl _ => some false
  | .bl _, .non => some false
  | .non, .bl _ => some false
  | .ref n, .ref m => match M.get n, M.get m with
    | some (.lst _ ds), some (.lst _ es) => if D.plains ds && D.plains es && decide (D.depths ds < 60) && decide (D.depths es < 60) then some (decide (ds = es)) else none
    | _, _ => none
  | .ref n, d => match M.get n with
    | some (.lst _ ds) => if d.plain && D.plains ds && decide (D.depths ds < 60) && decide (d.depth < 60) then some false else none
    | _ => none
  | d, .ref n => match M.get n with
    | some (.lst _ ds) => if d.plain && D.plains ds && decide (D.depths ds < 60) && decide (d.depth < 60) then some false else none
    | _ => none
  | x, y => if x.plain && y.plain && decide (x.depth < 60) && decide (y.depth < 60) then some (decide (x = y)) else none
def ltD (x y : D) : Option Bool :=
  match x, y with
  | .int i, .int j => some (decide (i < j))
  | .str a, .str b => some (decide (a.cps.toList < b.cps.toList))
  | _, _ => none
def leD (x y : D) : Option Bool :=
  match x, y with
  | .int i, .int j => some (decide (i ≤ j))
  | .str a, .str b => some (!decide (b.cps.toList < a.cps.toList))
  | _, _ => none
/-- x in y -/
def inD (x y : D) (M : Mem) : Option Bool :=
  match y with
  | .tup ds => if x.plain && D.plains ds && decide (D.depths ds < 60) && decide (x.depth < 60) then some (decide (x ∈ ds)) else none
  | .ref n => match M.get n with
    | some (.lst _ ds) => if x.plain && D.plains ds && decide (D.depths ds < 60) && decide (x.depth < 60) then some (decide (x ∈ ds)) else none
    | some (.dct lk kvs) => if keyFits lk kvs x then some (look kvs x).isSome else none
    | _ => none
  | .str z => match x with
    | .str a => match a.cps.toList with
      | [c] => some (decide (c ∈ z.cps.toList))
      | _ => none
    | _ => none
  | _ => none
def isD (x y : D) : Option Bool :=
  match y with
  | .non => some (decide (x = .non))
  | _ => none
def cmpD (op : CmpOp) (x y : D) (M : Mem) : Option Bool :=
  match op with
  | .Eq => eqD x y M
  | .NotEq => (eqD x y M).map (!·)
  | .Lt => ltD x y
  | .LtE => leD x y
  | .Gt => ltD y x
  | .GtE => leD y x
  | .In => inD x y M
  | .NotIn => (inD x y M).map (!·)
  | .Is => isD x y
  | .IsNot => (isD x y).map (!·)
def intOp (op : Operator) (i j : Int) : Option Int :=
  match op with
  | .Add => some (i + j)
  | .Sub => some (i - j)
  | .Mult => if (-(2 ^ 64) < i ∧ i < 2 ^ 64) ∨ (-(2 ^ 64) < j ∧ j < 2 ^ 64) then some (i * j) else none
  | .FloorDiv => if 0 < j ∧ j < 1073741824 then some (i / j) else none
  | .Mod => if 0 < j then some (i % j) else none
  | .Pow => if 0 ≤ j ∧ j ≤ 1000000 ∧ i.natAbs < 2 ^ 64 then some (i ^ j.toNat) else none
  | _ => none
def binD (op : Operator) (x y : D) (M : Mem) : Option (D × Mem) :=
  match x, y with
  | .int i, .int j => (intOp op i j).map fun k => (D.int k, M)
  | .str a, .str b => if op = .Add ∧ a.length + b.length ≤ sizeLine then some ((.str (a ++ b)), M) else none
  | .tup a, .tup b => if op = .Add ∧ a ≠ [] ∧ a.length + b.length ≤ sizeLine then some ((.tup (a ++ b)), M) else none
  | .ref n, .ref m => match M.get n, M.get m with
    | some (.lst false a), some (.lst false b) => if op = .Add ∧ a.length + b.length ≤ sizeLine then some ((.ref M.size), (M.push (.lst false (a ++ b)))) else none
    | _, _ => none
  | _, _ => none
def ixD (x i : D) (M : Mem) : Option D :=
  match x with
  | .tup ds => match i with
    | .int i => atI ds i
    | _ => none
  | .str z => match i with
    | .int i => if z.length ≤ sizeLine then (atI z.cps.toList i).map fun c => .str ⟨#[c]⟩ else none
    | _ => none
  | .ref n => match M.get n with
    | some (.lst _ ds) => match i with
      | .int i => atI ds i
      | _ => none
    | some (.dct lk kvs) => if keyFits lk kvs i then look kvs i else none
    | _ => none
  | _ => none
def slD (x : D) (lo hi : Option Int) (M : Mem) : Option (D × Mem) :=
  match x with
  | .tup ds => if HT.sIx ds.length 0 lo = 0 ∧ HT.sIx ds.length ds.length hi = ds.length then none else some ((.tup (cutD ds lo hi)), M)
  | .str z => if z.length ≤ sizeLine then some ((.str (cutS z lo hi)), M) else none
  | .ref n => match M.get n with
    | some (.lst _ ds) => some ((.ref M.size), (M.push (.lst false (cutD ds lo hi))))
    | _ => none
  | _ => none
def fldD (na : Nat → Nat → Bool) (x : D) (f : Nat) (M : Mem) : Option D :=
  match x with
  | .ref n => match M.get n with
    | some (.ins c fs) => if na c f then fs.lookup f else none
    | _ => none
  | _ => none
def isiD (t : Ty) (x : D) (M : Mem) : Option Bool :=
  match x with
  | .non => some false
  | .bl _ => some (decide (t = .bool ∨ t = .int))
  | .int _ => some (decide (t = .int))
  | .str _ => some (decide (t = .str))
  | .tup _ => some (decide (t = .tuple))
  | .ref n => match M.get n with
    | some (.lst _ _) => some (decide (t = .list))
    | some (.dct false _) => some (decide (t = .dict))
    | _ => none

/-! ### sorted: data of one kind, in the library's own order -/
mutual
def encD : D → PyData
  | .non => .none
  | .bl b => .bool b
  | .int i => .int i
  | .str x => .str x
  | .tup ds => .tuple (encDs ds)
  | .ref _ => .none
def encDs : List D → List PyData
  | [] => []
  | d :: ds => encD d :: encDs ds
end
/-! no references -/
mutual
def D.nr : D → Bool
  | .ref _ => false
  | .tup ds => D.nrs ds
  | _ => true
def D.nrs : List D → Bool
  | [] => true
  | d :: ds => D.nr d && D.nrs ds
end
def D.le : D → D → Bool := PySem.W.dataLe false encD
def isSeqKey : D → Bool
  | .tup (_ :: _) => true
  | _ => false
def isScaKey : D → Bool
  | .int _ => true
  | .str _ => true
  | .bl _ => true
  | _ => false
def sortable (ds : List D) : Bool := ds.all (fun d => ds.all fun e => PySem.W.alike (encD d) (encD e)) && D.nrs ds && decide (D.depths ds < 60) && (ds.all isSeqKey || ds.all isScaKey) && decide (ds.length ≤ sizeLine)
def sortD (ds : List D) : Option (List D) := if sortable ds then some (ds.mergeSort D.le) else none
/-- a row's items -/
def rowOf (x : D) (M : Mem) : Option (List D) :=
  match x with
  | .tup ds => some ds
  | .ref n => match M.get n with
    | some (.lst _ ds) => some ds
    | some (.dct _ kvs) => some (kvs.map (·.1))
    | _ => none
  | _ => none
def biD (b : Bi) (xs : List D) (M : Mem) : Option (D × Mem) :=
  match b, xs with
  | .len, [x] => match x with
    | .str z => if z.length ≤ sizeLine then some (.int z.length, M) else none
    | .tup ds => some (.int ds.length, M)
    | .ref n => match M.get n with
      | some (.lst _ ds) => some (.int ds.length, M)
      | some (.dct _ kvs) => some (.int kvs.length, M)
      | _ => none
    | _ => none
  | .abs, [.int i] => some (.int (if i < 0 then -i else i), M)
  | .max2, [.int i, .int j] => some (.int (if j > i then j else i), M)
  | .min2, [.int i, .int j] => some (.int (if j < i then j else i), M)
  | .int, [.int i] => some (.int i, M)
  | .int, [.bl k] => some (.int (if k then 1 else 0), M)
  | .int, [.str z] => match PySem.intText? z with
    | some n => if z.length ≤ 640 then some (.int n, M) else none
    | none => none
  | .str, [.int i] => if i.natAbs.log2 < 1920 then some (.str (toString i), M) else none
  | .ord, [.str x] => if x.length = 1 then some (.int (x.cps.getD 0 0 : Nat), M) else none
  | .sorted, [.ref n] => match M.get n with
    | some (.lst _ ds) => match sortD ds with
      | some es => some (.ref M.size, M.push (.lst false es))
      | none => none
    | _ => none
  | .list, [x] => match x with
    | .tup ds => some (.ref M.size, M.push (.lst false ds))
    | .ref n => match M.get n with
      | some (.lst _ ds) => some (.ref M.size, M.push (.lst false ds))
      | _ => none
    | _ => none
  | .tuple, [x] => match x with
    | .tup ds => some (.tup ds, M)
    | .ref n => match M.get n with
      | some (.lst _ ds) => some (.tup ds, M)
      | _ => none
    | _ => none
  | _, _ => none
/-- the type that a method is of -/
inductive Bt where
  | list | dict | str
  deriving DecidableEq
def bmT : Bm → Bt
  | .append | .extend | .lpop | .lpopAt | .remove => .list
  | .get1 | .get2 | .dpop2 => .dict
  | .join | .replace | .isdigit => .str
def isBt (t : Bt) (x : D) (M : Mem) : Bool :=
  match t, x with
  | .str, .str _ => true
  | .list, .ref n => match M.get n with
    | some (.lst _ _) => true
    | _ => false
  | .dict, .ref n => match M.get n with
    | some (.dct _ _) => true
    | _ => false
  | _, _ => false
def isStr : D → Bool
  | .str _ => true
  | _ => false
def strsOf : List D → Option (List Str)
  | [] => some []
  | .str x :: r => (strsOf r).map (x :: ·)
  | _ => none
def bmD (m : Bm) (x : D) (xs : List D) (M : Mem) : Option (D × Mem) :=
  match m, x, xs with
  | .append, .ref n, [d] => match M.get n with
    | some (.lst false ds) => if ds.length < sizeLine then some (.non, M.set n (.lst false (ds ++ [d]))) else none
    | _ => none
  | .extend, .ref n, [.ref k] => match M.get n, M.get k with
    | some (.lst false ds), some (.lst false es) => if ds.length + es.length ≤ sizeLine then some (.non, M.set n (.lst false (ds ++ es))) else none
    | _, _ => none
  | .lpop, .ref n, [] => match M.get n with
    | some (.lst false ds) => match ds[ds.length - 1]? with
      | some d => some (d, M.set n (.lst false ds.dropLast))
      | none => none
    | _ => none
  | .lpopAt, .ref n, [.int i] => match M.get n with
    | some (.lst false ds) => if 0 ≤ i ∧ i < 2 ^ 63 then match ds[i.toNat]? with
      | some d => some (d, M.set n (.lst false (ds.eraseIdx i.toNat)))
      | none => none
      else none
    | _ => none
  | .get1, .ref n, [k] => match M.get n with
    | some (.dct lk kvs) => if keyFits lk kvs k then some ((look kvs k).getD .non, M) else none
    | _ => none
  | .get2, .ref n, [k, z] => match M.get n with
    | some (.dct lk kvs) => if keyFits lk kvs k then some ((look kvs k).getD z, M) else none
    | _ => none
  | .dpop2, .ref n, [k, z] => match M.get n with
    | some (.dct false kvs) => if keyFits false kvs k then match look kvs k with
        | some v => some (v, M.set n (.dct false (dropKV kvs k)))
        | none => some (z, M)
      else none
    | _ => none
  | .remove, .ref n, [.str x] => match M.get n with
    | some (.lst false ds) => if ds.all isStr && decide (.str x ∈ ds) then some (.non, M.set n (.lst false (ds.erase (.str x)))) else none
    | _ => none
  | .join, .str a, [.ref n] => match M.get n with
    | some (.lst _ ds) => match strsOf ds with
      | some ys => if (ys.map (·.length)).sum + ys.length * a.length ≤ 16777216 then some (.str (Txt.join a ys), M) else none
      | none => none
    | _ => none
  | .replace, .str x, [.str y, .str z] => if (y == z) = false ∧ x.length + (x.length + 1) * z.length ≤ 16777216 then some (.str (Txt.replace x y z), M) else none
  | .isdigit, .str x, [] => some (.bl (Txt.isdigit x), M)
  | _, _, _ => none
def setIx (x i v : D) (M : Mem) : Option Mem :=
  match x with
  | .ref n => match M.get n with
    | some (.lst false ds) => match i with
      | .int i => if 0 ≤ i ∧ i.toNat < ds.length then some (M.set n (.lst false (ds.set i.toNat v))) else none
      | _ => none
    | some (.dct false kvs) => if keyFits false kvs i ∧ kvs.length < sizeLine then some (M.set n (.dct false (putKV kvs i v))) else none
    | _ => none
  | _ => none
def delIx (x i : D) (M : Mem) : Option Mem :=
  match x with
  | .ref n => match M.get n with
    | some (.dct false kvs) => if keyFits false kvs i ∧ (look kvs i).isSome then some (M.set n (.dct false (dropKV kvs i))) else none
    | _ => none
  | _ => none
/-- .. with the class -/
def fldC (na : Nat → Nat → Bool) (x : D) (f : Nat) (M : Mem) : Option (Nat × D) :=
  match x with
  | .ref n => match M.get n with
    | some (.ins c fs) => if na c f then (fs.lookup f).map fun d => (c, d) else none
    | _ => none
  | _ => none
def setFldC (na : Nat → Nat → Bool) (c : Nat) (x : D) (f : Nat) (v : D) (M : Mem) : Option Mem :=
  match x with
  | .ref n => match M.get n with
    | some (.ins c' fs) => if c' = c ∧ na c f ∧ fs.length < 1000 then some (M.set n (.ins c (putD f v fs))) else none
    | _ => none
  | _ => none
def setFld (na : Nat → Nat → Bool) (x : D) (f : Nat) (v : D) (M : Mem) : Option Mem :=
  match x with
  | .ref n => match M.get n with
    | some (.ins c fs) => if na c f ∧ fs.length < 1000 then some (M.set n (.ins c (putD f v fs))) else none
    | _ => none
  | _ => none

/-! ### what is walked -/
inductive Src where
  | free
  | list (n : Nat) (ds : List D)
  | dict (n : Nat) (lk : Bool) (kvs : List (D × D))
def Src.stands : Src → Mem → Bool
  | .list n ds, M => match M.get n with
    | some (.lst _ es) => decide (es = ds)
    | _ => false
  | _, _ => true
/-- the memory while the loop runs, and behind it -/
def Src.lock : Src → Mem → Mem
  | .dict n false kvs, M => M.set n (.dct true kvs)
  | _, M => M
def Src.unlock : Src → Mem → Mem
  | .dict n false kvs, M => M.set n (.dct false kvs)
  | _, M => M
def rangeD (lo : Int) (n : Nat) : List D := (List.range n).map fun i => D.int (lo + (i : Nat))
/-- the source and its items, by the evaluated parts -/
def walkD (k : Ik) (x y : D) (M : Mem) : Option (Src × List D) :=
  match k, x with
  | .seqT, .tup ds => some (.free, ds)
  | .seqL, .ref n => match M.get n with
    | some (.lst _ ds) => some (.list n ds, ds)
    | _ => none
  | .rev, .ref n => match M.get n with
    | some (.lst _ ds) => some (.list n ds, ds.reverse)
    | _ => none
  | .rng1, .int j => if -(2 ^ 62) ≤ j ∧ j < 2 ^ 62 then some (.free, rangeD 0 j.toNat) else none
  | .rng2, .int i => match y with
    | .int j => if -(2 ^ 62) ≤ i ∧ i < 2 ^ 62 ∧ -(2 ^ 62) ≤ j ∧ j < 2 ^ 62 then some (.free, rangeD i (j - i).toNat) else none
    | _ => none
  | .keys, .ref n => match M.get n with
    | some (.dct lk kvs) => some (.dict n lk kvs, kvs.map (·.1))
    | _ => none
  | .items, .ref n => match M.get n with
    | some (.dct lk kvs) => some (.dict n lk kvs, kvs.map fun kv => .tup [kv.1, kv.2])
    | _ => none
  | .vals, .ref n => match M.get n with
    | some (.dct lk kvs) => some (.dict n lk kvs, kvs.map (·.2))
    | _ => none
  | .str, .str z => some (.free, z.cps.toList.map fun c => .str ⟨#[c]⟩)
  | _, _ => none
/-- the source of a loop, evaluated -/
def walkR (k : Ik) (fa fb : Env → Mem → R D) (σ : Env) (M : Mem) : R (Src × List D) := (fa σ M).bind fun x M1 => (fb σ M1).bind fun y M2 => R.opt (walkD k x y M2) M2
def bindAll : List Nat → List D → Env → Env
  | i :: is, d :: ds, σ => bindAll is ds (σ.set i (some d))
  | _, _, σ => σ
def bindT (tg : Tg) (d : D) (σ : Env) : Option Env :=
  match tg with
  | .n i => some (σ.set i (some d))
  | .t is => match d with
    | .tup ds => if ds.length = is.length then some (bindAll is ds σ) else none
    | _ => none
def wipeD (σ : Env) : List Nat → Env
  | [] => σ
  | i :: is => (wipeD σ is).set i none

inductive Fl where
  | nx (σ : Env) | rt (d : D) | bk (σ : Env) | ct (σ : Env)

/-- what follows a flow -/
def thenF (r : R Fl) (fr : Env → Mem → R Fl) : R Fl := r.bind fun f M2 => match f with
  | .nx σ1 => fr σ1 M2
  | f => .ok f M2
/-- a comprehension's turns -/
def lcTurns (src : Src) (body : D → Mem → R (Option D)) : List D → Mem → List D → R (List D)
  | [], M, acc => if src.stands M then .ok acc M else .bad
  | x :: xs, M, acc => if src.stands M then (body x M).bind fun o M1 => match o with
      | some d => if acc.length < sizeLine then lcTurns src body xs M1 (acc ++ [d]) else .bad
      | none => lcTurns src body xs M1 acc
    else .bad
/-- a for's turns -/
def forTurns (src : Src) (body : D → Env → Mem → R Fl) : List D → Env → Mem → R Fl
  | [], σ, M => if src.stands M then .ok (.nx σ) M else .bad
  | x :: xs, σ, M => if src.stands M then (body x σ M).bind fun f M1 => match f with
      | .nx σ1 => forTurns src body xs σ1 M1
      | .ct σ1 => forTurns src body xs σ1 M1
      | .bk σ1 => .ok (.nx σ1) M1
      | .rt d => .ok (.rt d) M1
    else .bad
def whlTurns (test : Env → Mem → R Bool) (body : Env → Mem → R Fl) : Nat → Env → Mem → R Fl
  | 0, _, _ => .bad
  | n + 1, σ, M => (test σ M).bind fun t M1 => if t then (body σ M1).bind fun f M2 => match f with
      | .nx σ1 => whlTurns test body n σ1 M2
      | .ct σ1 => whlTurns test body n σ1 M2
      | .bk σ1 => .ok (.nx σ1) M2
      | .rt d => .ok (.rt d) M2
    else .ok (.nx σ) M1
def R.unlock {α : Type} (src : Src) (r : R α) : R α :=
  match r with
  | .ok a M => .ok a (src.unlock M)
  | .exc x M => .exc x (src.unlock M)
  | .bad => .bad
def R.noexc {α : Type} (r : R α) : R α :=
  match r with
  | .ok a M => .ok a M
  | .exc _ _ => .bad
  | .bad => .bad
/-- what a dict loop may walk: an expression that is a look alone -/
def Ex.look : Ex → Bool
  | .v _ => true
  | .fld (.v _) _ => true
  | _ => false
def Ik.isD : Ik → Bool
  | .keys | .items | .vals => true
  | _ => false
/-- the fuel of a while -/
def fuel : Nat := 1000000

/-- functions by number: what a call gives -/
abbrev Fns := Nat → List D → Mem → R D
structure Gls where
  gl : Nat → Option D
  na : Nat → Nat → Bool

section
variable (Γ : Fns) (G : Gls)
mutual
def ev : Ex → Env → Mem → R D
  | .v i, σ, M => match σ[i]? with
    | some (some d) => .ok d M
    | _ => .bad
  | .c d, _, M => .ok d M
  | .no, _, M => .ok .non M
  | .tup es, σ, M => (evs es σ M).bind fun ds M1 => if ds.length ≤ sizeLine then .ok (.tup ds) M1 else .bad
  | .lst es, σ, M => (evs es σ M).bind fun ds M1 => if ds.length ≤ sizeLine then .ok (.ref M1.size) (M1.push (.lst false ds)) else .bad
  | .dnew, _, M => .ok (.ref M.size) (M.push (.dct false []))
  | .bin op a b, σ, M => (ev a σ M).bind fun x M1 => (ev b σ M1).bind fun y M2 => R.lift (binD op x y M2)
  | .neg a, σ, M => (ev a σ M).bind fun x M1 => match x with
    | .int i => .ok (.int (-i)) M1
    | _ => .bad
  | .not a, σ, M => (ev a σ M).bind fun x M1 => (R.opt (truthD x M1) M1).bind fun t M2 => .ok (.bl (!t)) M2
  | .cmp op a b, σ, M => (ev a σ M).bind fun x M1 => (ev b σ M1).bind fun y M2 => (R.opt (cmpD op x y M2) M2).bind fun t M3 => .ok (.bl t) M3
  | .cmp2 op op' a b c, σ, M => (ev a σ M).bind fun x M1 => (ev b σ M1).bind fun y M2 => (R.opt (cmpD op x y M2) M2).bind fun t M3 =>
      if t then (ev c σ M3).bind fun z M4 => (R.opt (cmpD op' y z M4) M4).bind fun t M5 => .ok (.bl t) M5 else .ok (.bl false) M3
  | .and a b, σ, M => (ev a σ M).bind fun x M1 => (R.opt (truthD x M1) M1).bind fun t M2 => if t then ev b σ M2 else .ok x M2
  | .or a b, σ, M => (ev a σ M).bind fun x M1 => (R.opt (truthD x M1) M1).bind fun t M2 => if t then .ok x M2 else ev b σ M2
  | .ife c a b, σ, M => (ev c σ M).bind fun x M1 => (R.opt (truthD x M1) M1).bind fun t M2 => if t then ev a σ M2 else ev b σ M2
  | .ix a i, σ, M => (ev a σ M).bind fun x M1 => (ev i σ M1).bind fun y M2 => R.opt (ixD x y M2) M2
  | .sl a lo hi, σ, M => (ev a σ M).bind fun x M1 => (ev lo σ M1).bind fun l M2 => (R.opt (partD lo l) M2).bind fun l M3 => (ev hi σ M3).bind fun h M4 => (R.opt (partD hi h) M4).bind fun h M5 => R.lift (slD x l h M5)
  | .fld a f, σ, M => (ev a σ M).bind fun x M1 => R.opt (fldD G.na x f M1) M1
  | .glb g, _, M => R.opt (G.gl g) M
  | .call f es ds, σ, M => (evs es σ M).bind fun xs M1 => Γ f (xs ++ ds) M1
  | .mk c f es ds, σ, M => (evs es σ M).bind fun xs M1 => (Γ f (.ref M1.size :: (xs ++ ds)) (M1.push (.ins c []))).bind fun r M2 => match r with
    | .non => .ok (.ref M1.size) M2
    | _ => .bad
  | .mth c f m o es ds, σ, M => (ev o σ M).bind fun x M1 => match x with
    | .ref n => match M1.get n with
      | some (.ins c' fs) => if c' = c ∧ fs.lookup m = none then (evs es σ M1).bind fun xs M2 => Γ f (.ref n :: (xs ++ ds)) M2 else .bad
      | _ => .bad
    | _ => .bad
  | .bi b es, σ, M => (evs es σ M).bind fun xs M1 => R.lift (biD b xs M1)
  | .isi t a, σ, M => (ev a σ M).bind fun x M1 => (R.opt (isiD t x M1) M1).bind fun b M2 => .ok (.bl b) M2
  | .bm m o es, σ, M => (ev o σ M).bind fun x M1 => if isBt (bmT m) x M1 then (evs es σ M1).bind fun xs M2 => R.lift (bmD m x xs M2) else .bad
  | .lc own tg k a b yes cond elt, σ, M => (walkR k (ev a) (ev b) σ M).bind fun p M2 => (R.noexc (R.unlock p.1 (lcTurns p.1 (fun d M => match bindT tg d (wipeD σ own) with
        | none => .bad
        | some σ1 => if yes then (ev elt σ1 M).bind fun z M' => .ok (some z) M'
          else (ev cond σ1 M).bind fun x M1 => (R.opt (truthD x M1) M1).bind fun t M2 => if t then (ev elt σ1 M2).bind fun z M' => .ok (some z) M' else .ok none M2)
        p.2 (p.1.lock M2) []))).bind fun acc M3 => .ok (.ref M3.size) (M3.push (.lst false acc))
def evs : Exs → Env → Mem → R (List D)
  | .nil, _, M => .ok [] M
  | .cons e r, σ, M => (ev e σ M).bind fun d M1 => (evs r σ M1).bind fun ds M2 => .ok (d :: ds) M2
end
/-- a test -/
def evT (c : Ex) (σ : Env) (M : Mem) : R Bool := (ev Γ G c σ M).bind fun x M1 => R.opt (truthD x M1) M1
def exec : Sm → Env → Mem → R Fl
  | .nil, σ, M => .ok (.nx σ) M
  | .asg i e r, σ, M => (ev Γ G e σ M).bind fun d M1 => exec r (σ.set i (some d)) M1
  | .asgT is e r, σ, M => (ev Γ G e σ M).bind fun d M1 => match bindT (.t is) d σ with
    | none => .bad
    | some σ1 => exec r σ1 M1
  | .setF o f e r, σ, M => (ev Γ G e σ M).bind fun d M1 => (ev Γ G o σ M1).bind fun x M2 => match setFld G.na x f d M2 with
    | none => .bad
    | some M3 => exec r σ M3
  | .setX o i e r, σ, M => (ev Γ G e σ M).bind fun d M1 => (ev Γ G o σ M1).bind fun x M2 => (ev Γ G i σ M2).bind fun y M3 => match setIx x y d M3 with
    | none => .bad
    | some M4 => exec r σ M4
  | .augV i op e r, σ, M => match σ[i]? with
    | some (some (.int a)) => (ev Γ G e σ M).bind fun d M1 => match d with
      | .int b => match intOp op a b with
        | some z => exec r (σ.set i (some (.int z))) M1
        | none => .bad
      | _ => .bad
    | _ => .bad
  | .augF o f op e r, σ, M => (ev Γ G o σ M).bind fun x M1 => match fldC G.na x f M1 with
    | some (c, .int a) => (ev Γ G e σ M1).bind fun d M2 => match d with
      | .int b => match intOp op a b with
        | some z => match setFldC G.na c x f (.int z) M2 with
          | some M3 => exec r σ M3
          | none => .bad
        | none => .bad
      | _ => .bad
    | _ => .bad
  | .augX o i op e r, σ, M => (ev Γ G o σ M).bind fun x M1 => (ev Γ G i σ M1).bind fun y M2 => match ixD x y M2 with
    | some (.int a) => (ev Γ G e σ M2).bind fun d M3 => match d with
      | .int b => match intOp op a b with
        | some z => match setIx x y (.int z) M3 with
          | some M4 => exec r σ M4
          | none => .bad
        | none => .bad
      | _ => .bad
    | _ => .bad
  | .drop e r, σ, M => (ev Γ G e σ M).bind fun _ M1 => exec r σ M1
  | .iff c a b r, σ, M => (evT Γ G c σ M).bind fun t M1 => thenF (if t then exec a σ M1 else exec b σ M1) (exec r)
  | .for tg k a b body r, σ, M => (walkR k (ev Γ G a) (ev Γ G b) σ M).bind fun p M2 => thenF (R.unlock p.1 (forTurns p.1 (fun d σ M => match bindT tg d σ with
        | none => .bad
        | some σ1 => exec body σ1 M) p.2 σ (p.1.lock M2))) (exec r)
  | .whl c body r, σ, M => thenF (whlTurns (evT Γ G c) (exec body) fuel σ M) (exec r)
  | .ret e, σ, M => (ev Γ G e σ M).bind fun d M1 => .ok (.rt d) M1
  | .retN, _, M => .ok (.rt .non) M
  | .brk, σ, M => .ok (.bk σ) M
  | .cont, σ, M => .ok (.ct σ) M
  | .pass r, σ, M => exec r σ M
  | .del o i r, σ, M => (ev Γ G o σ M).bind fun x M1 => (ev Γ G i σ M1).bind fun y M2 => match delIx x y M2 with
    | some M3 => exec r σ M3
    | none => .bad
  | .raise c f e, σ, M => (ev Γ G e σ M).bind fun d M1 => .exc ⟨c, [(f, d)]⟩ M1
  | .stop, _, _ => .bad
end

/-- a def: the number of its parameters and of its slots, its body -/
structure Fd where
  np : Nat
  ns : Nat
  body : Sm
/-- a def's meaning, by what it may call -/
abbrev Fm := Fns → List D → Mem → R D
def Fd.fm (d : Fd) (G : Gls) : Fm := fun Γ xs M => if xs.length = d.np then (exec Γ G d.body (xs.map some ++ List.replicate (d.ns - d.np) none) M).bind fun fl M1 => match fl with
    | .nx _ => .ok .non M1
    | .rt v => .ok v M1
    | _ => .bad
  else .bad
/-- calls, k levels deep -/
def run (tab : Nat → Option Fm) : Nat → Fns
  | 0, _, _, _ => .bad
  | k + 1, f, xs, M => match tab f with
    | some h => h (run tab k) xs M
    | none => .bad
end Mj

set_option Elab.async false
set_option linter.all false
set_option autoImplicit false
set_option maxRecDepth 100000
set_option maxHeartbeats 4000000
/-! Rules of the hand layer, read over data. -/
namespace Mj
open PySem PySem.Spec L2

/-- what is wanted of an exception -/
abbrev WE := Exn → Mem → List Addr → Hp → Prop
abbrev WD := Exn → Mem → List Addr → Hp → L2.St → Prop
abbrev WD.at (W : WD) (σv : L2.St) : WE := fun x M π H => W x M π H σv
section
/-- what a result brings -/
def Out (C : Cw) (W : WE) {α : Type} (π : List Addr) (H : Hp) (r : R α) (Q : α → Mem → List Addr → Hp → Prop) : Prop :=
  match r with
  | .ok a M' => ∀ π' H', Le π H π' H' → MR C π' H' M' → Q a M' π' H'
  | .exc x M' => ∀ π' H', Le π H π' H' → MR C π' H' M' → W x M' π' H'
  | .bad => False
/-- .. of an operation that raises nothing -/
def OutO (C : Cw) {α : Type} (π : List Addr) (H : Hp) (r : Option (α × Mem)) (Q : α → Mem → List Addr → Hp → Prop) : Prop :=
  match r with
  | some p => ∀ π' H', Le π H π' H' → MR C π' H' p.2 → Q p.1 p.2 π' H'
  | none => False
variable {C : Cw} {W : WE}
theorem Out.ok {α : Type} {π : List Addr} {H : Hp} {a : α} {M' : Mem} {Q : α → Mem → List Addr → Hp → Prop} (h : Out C W π H (.ok a M') Q) {π' : List Addr} {H' : Hp} (l : Le π H π' H') (m : MR C π' H' M') : Q a M' π' H' := h π' H' l m
theorem OutO.ok {α : Type} {π : List Addr} {H : Hp} {a : α} {M' : Mem} {Q : α → Mem → List Addr → Hp → Prop} (h : OutO C π H (some (a, M')) Q) {π' : List Addr} {H' : Hp} (l : Le π H π' H') (m : MR C π' H' M') : Q a M' π' H' := h π' H' l m
theorem Out.mono {α : Type} {π π1 : List Addr} {H H1 : Hp} {r : R α} {Q : α → Mem → List Addr → Hp → Prop} (h : Out C W π H r Q) (l : Le π H π1 H1) : Out C W π1 H1 r Q := by
  cases r with
  | ok a M' => exact fun π' H' l' m => h π' H' (l.trans l') m
  | exc x M' => exact fun π' H' l' m => h π' H' (l.trans l') m
  | bad => exact h
theorem Out.imp {α : Type} {π : List Addr} {H : Hp} {r : R α} {Q Q' : α → Mem → List Addr → Hp → Prop} (h : Out C W π H r Q) (k : ∀ a M' π' H', Le π H π' H' → MR C π' H' M' → Q a M' π' H' → Q' a M' π' H') : Out C W π H r Q' := by
  cases r with
  | ok a M' => exact fun π' H' l m => k _ _ _ _ l m (h π' H' l m)
  | exc x M' => exact h
  | bad => exact h
theorem Out.bind {α β : Type} {π : List Addr} {H : Hp} {r : R α} {f : α → Mem → R β} {Q : β → Mem → List Addr → Hp → Prop} (h : Out C W π H (r.bind f) Q) :
    Out C W π H r (fun a M1 π1 H1 => Out C W π1 H1 (f a M1) Q) := by
  cases r with
  | ok a M' => exact fun π' H' l m => Out.mono h l
  | exc x M' => exact h
  | bad => exact h
theorem Out.opt {α : Type} {π : List Addr} {H : Hp} {o : Option α} {M : Mem} {Q : α → Mem → List Addr → Hp → Prop} (h : Out C W π H (R.opt o M) Q) : ∃ a, o = some a ∧ Out C W π H (.ok a M) Q := by
  cases o with
  | some a => exact ⟨a, rfl, h⟩
  | none => exact h.elim
theorem Out.lift {α : Type} {π : List Addr} {H : Hp} {o : Option (α × Mem)} {Q : α → Mem → List Addr → Hp → Prop} (h : Out C W π H (R.lift o) Q) : OutO C π H o Q := by
  cases o with
  | some a => exact h
  | none => exact h.elim
end

section
variable (C : Cw) (W : WD)
def TV (ec : Env → Mem → R D) : TE := fun σv H Q => ∃ π σ M, RS π H σv σ ∧ MR C π H M ∧ Out C (W.at σv) π H (ec σ M) (fun d _ π' H' => ∀ v, Rp π' H' v d → Q v H')
def TAs (ec : Env → Mem → R (List D)) : TA := fun σv H Q => ∃ π σ M, RS π H σv σ ∧ MR C π H M ∧ Out C (W.at σv) π H (ec σ M) (fun ds _ π' H' => ∀ vs, Rps π' H' vs ds → Q vs H')
def TB (ec : Env → Mem → R Bool) : TT := fun σv H Q => ∃ π σ M, RS π H σv σ ∧ MR C π H M ∧ Out C (W.at σv) π H (ec σ M) (fun b _ _ H' => Q b H')
/-- two-place operations by data -/
def RD (f : D → D → Mem → Option (D × Mem)) : R2 := fun x y H Q => ∃ π d e M, Rp π H x d ∧ Rp π H y e ∧ MR C π H M ∧ OutO C π H (f d e M) (fun z _ π' H' => ∀ v, Rp π' H' v z → Q v H')
variable {C} {W : WD}
theorem _root_.L2.PE.imp {X : Cx} {e : Expr} {t t' : TE} (h : PE X e t) (k : ∀ σ H Q, t' σ H Q → t σ H Q) : PE X e t' := ⟨fun pins s σ H Q I q => h.run pins s σ H Q I (k _ _ _ q)⟩
theorem _root_.L2.PT.imp {X : Cx} {e : Expr} {t t' : TT} (h : PT X e t) (k : ∀ σ H Q, t' σ H Q → t σ H Q) : PT X e t' := ⟨fun pins s σ H Q I q => h.run pins s σ H Q I (k _ _ _ q)⟩
theorem _root_.L2.PW.imp {X : Cx} {e : Expr} {t t' : TT} (h : PW X e t) (k : ∀ σ H Q, t' σ H Q → t σ H Q) : PW X e t' := ⟨fun wh pins s σ H Q I q => h.run wh pins s σ H Q I (k _ _ _ q)⟩
theorem _root_.L2.PA.imp {X : Cx} {e : List Expr} {t t' : TA} (h : PA X e t) (k : ∀ σ H Q, t' σ H Q → t σ H Q) : PA X e t' := ⟨fun pos pins s σ H Q I q => h.run pos pins s σ H Q I (k _ _ _ q)⟩
theorem _root_.L2.PS.imp {X : Cx} {e : Stmt} {t t' : TS} (h : PS X e t) (k : ∀ D σ H, t' D σ H → t D σ H) : PS X e t' := ⟨fun pins s σ H D I q => h.run pins s σ H D I (k _ _ _ q)⟩
theorem _root_.L2.PSs.imp {X : Cx} {e : List Stmt} {t t' : TS} (h : PSs X e t) (k : ∀ D σ H, t' D σ H → t D σ H) : PSs X e t' := ⟨fun pins s σ H D I q => h.run pins s σ H D I (k _ _ _ q)⟩

variable {X : Cx} {a b c e : Expr} {fa fb fc : Env → Mem → R D} {pos : Pos}
/-- what follows a value: the state goes on -/
theorem TV.at {σv : L2.St} {H : Hp} {π : List Addr} {σ : Env} {M : Mem} {ec : Env → Mem → R D} {Q : VK} (rs : RS π H σv σ) (mr : MR C π H M) (h : Out C (W.at σv) π H (ec σ M) (fun d _ π' H' => ∀ v, Rp π' H' v d → Q v H')) : TV C W ec σv H Q := ⟨π, σ, M, rs, mr, h⟩

theorem de_var {i : Nat} {x : Str} (hN : X.N[i]? = some x) (hv : Vis X.env.scope x) (hd : (x == ("__debug__" : Str)) = false) (hcd : (x == ("__classdict__" : Str)) = false) :
    PE X (.Name x pos) (TV C W fun σ M => match σ[i]? with | some (some d) => .ok d M | _ => .bad) := by
  refine (pe_var hN hv hd hcd).imp fun σv H Q ⟨π, σ, M, rs, mr, h⟩ => ?_
  dsimp only at h
  split at h
  · rename_i d e
    obtain ⟨v, e1, r⟩ := rs.get e
    exact ⟨v, e1, h.ok Le.refl mr v r⟩
  · exact h.elim
theorem de_const {v : V} {d : D} (h : PE X e (tC v)) (r : ∀ π H, Rp π H v d) : PE X e (TV C W fun _ M => .ok d M) :=
  h.imp fun σv H Q ⟨π, σ, M, rs, mr, h⟩ => h.ok Le.refl mr v (r π H)
theorem de_op {op : Operator} {f : D → D → Mem → Option (D × Mem)} (ho : OpR X (binaryOp op) (RD C f)) (ha : PE X a (TV C W fa)) (hb : PE X b (TV C W fb)) :
    PE X (.BinOp a op b pos) (TV C W fun σ M => (fa σ M).bind fun x M1 => (fb σ M1).bind fun y M2 => R.lift (f x y M2)) :=
  (pe_op ho ha hb).imp fun σv H Q ⟨π, σ, M, rs, mr, h⟩ => ⟨π, σ, M, rs, mr, h.bind.imp fun x M1 π1 H1 l1 m1 o1 v1 r1 =>
    ⟨π1, σ, M1, rs.mono l1, m1, o1.bind.imp fun y M2 π2 H2 l2 m2 o2 v2 r2 => ⟨π2, x, y, M2, r1.mono l2, r2, m2, o2.lift⟩⟩⟩
theorem de_cmp {op : CmpOp} {f : D → D → Mem → Option (D × Mem)} (ho : OpR X (compareOp op) (RD C f)) (ha : PE X a (TV C W fa)) (hb : PE X b (TV C W fb)) (hm : behindInMarks op b = false) :
    PE X (.Compare a [op] [b] pos) (TV C W fun σ M => (fa σ M).bind fun x M1 => (fb σ M1).bind fun y M2 => R.lift (f x y M2)) :=
  (pe_cmpR ho ha hb hm).imp fun σv H Q ⟨π, σ, M, rs, mr, h⟩ => ⟨π, σ, M, rs, mr, h.bind.imp fun x M1 π1 H1 l1 m1 o1 v1 r1 =>
    ⟨π1, σ, M1, rs.mono l1, m1, o1.bind.imp fun y M2 π2 H2 l2 m2 o2 v2 r2 => ⟨π2, x, y, M2, r1.mono l2, r2, m2, o2.lift⟩⟩⟩
theorem da_nil : PA X [] (TAs C W fun _ M => .ok [] M) := pa_nil.imp fun σv H Q ⟨π, σ, M, rs, mr, h⟩ => h.ok Le.refl mr [] .nil
theorem da_cons {es : List Expr} {fs : Env → Mem → R (List D)} (ha : PE X e (TV C W fa)) (hr : PA X es (TAs C W fs)) (hs : starEach (e :: es) X.env = (false, eval e X.env) :: starEach es X.env) :
    PA X (e :: es) (TAs C W fun σ M => (fa σ M).bind fun d M1 => (fs σ M1).bind fun ds M2 => .ok (d :: ds) M2) :=
  (pa_cons ha hr hs).imp fun σv H Q ⟨π, σ, M, rs, mr, h⟩ => ⟨π, σ, M, rs, mr, h.bind.imp fun x M1 π1 H1 l1 m1 o1 v1 r1 =>
    ⟨π1, σ, M1, rs.mono l1, m1, o1.bind.imp fun y M2 π2 H2 l2 m2 o2 vs r2 => o2.ok Le.refl m2 (v1 :: vs) (.cons (r1.mono l2) r2)⟩⟩
theorem de_tup {es : List Expr} {k : Nat} {fs : Env → Mem → R (List D)} (h : PA X es (TAs C W fs)) :
    PE X (.Tuple es k pos) (TV C W fun σ M => (fs σ M).bind fun ds M1 => if ds.length ≤ sizeLine then .ok (.tup ds) M1 else .bad) :=
  (pe_tup h).imp fun σv H Q ⟨π, σ, M, rs, mr, h⟩ => ⟨π, σ, M, rs, mr, h.bind.imp fun ds M1 π1 H1 l1 m1 o1 vs r1 => by
    revert o1
    split
    · rename_i hl
      intro o1
      refine ⟨by rw [r1.length]; exact hl, fun p hp => ?_⟩
      obtain ⟨m2, l2⟩ := m1.tuple (vs := vs) hp
      exact o1.ok l2 m2 _ (.tup upd_same (r1.mono l2))
    · exact fun o => o.elim⟩
theorem new_list {π : List Addr} {H : Hp} {M : Mem} {p : Addr} {vs : List V} {ds : List D} (m : MR C π H M) (hp : H p = none) (r : Rps π H vs ds) :
    MR C (π ++ [p]) (upd H p (.lst vs)) (M.push (.lst false ds)) ∧ Le π H (π ++ [p]) (upd H p (.lst vs)) ∧ Rp (π ++ [p]) (upd H p (.lst vs)) (.ref p) (.ref M.size) := by
  obtain ⟨m2, l2⟩ := m.push (u := .lst vs) (o := .lst false ds) hp fun π' H' l e => ⟨vs, r.mono l, e⟩
  exact ⟨m2, l2, .ref (by rw [← m.len]; simp)⟩
theorem new_dict {π : List Addr} {H : Hp} {M : Mem} {p : Addr} {u : HO} {kvs : List (D × D)} (m : MR C π H M) (hp : H p = none) (r : DR π H u kvs) :
    MR C (π ++ [p]) (upd H p u) (M.push (.dct false kvs)) ∧ Le π H (π ++ [p]) (upd H p u) ∧ Rp (π ++ [p]) (upd H p u) (.ref p) (.ref M.size) := by
  obtain ⟨m2, l2⟩ := m.push (u := u) (o := .dct false kvs) hp fun π' H' l e => ⟨u, r.mono l, e⟩
  exact ⟨m2, l2, .ref (by rw [← m.len]; simp)⟩
theorem de_lst {es : List Expr} {fs : Env → Mem → R (List D)} (h : PA X es (TAs C W fs)) :
    PE X (.List es pos) (TV C W fun σ M => (fs σ M).bind fun ds M1 => if ds.length ≤ sizeLine then .ok (.ref M1.size) (M1.push (.lst false ds)) else .bad) :=
  (pe_lst h).imp fun σv H Q ⟨π, σ, M, rs, mr, h⟩ => ⟨π, σ, M, rs, mr, h.bind.imp fun ds M1 π1 H1 l1 m1 o1 vs r1 => by
    revert o1
    split
    · rename_i hl
      intro o1
      refine ⟨by rw [r1.length]; exact hl, fun p hp => ?_⟩
      obtain ⟨m2, l2, r2⟩ := new_list m1 hp r1
      exact o1.ok l2 m2 _ r2
    · exact fun o => o.elim⟩
theorem de_dnew : PE X (.Dict [] [] pos) (TV C W fun _ M => .ok (.ref M.size) (M.push (.dct false []))) :=
  pe_dnewK.imp fun σv H Q ⟨π, σ, M, rs, mr, h⟩ p hp => by
    obtain ⟨m2, l2, r2⟩ := new_dict mr hp (.k .nil)
    exact h.ok l2 m2 _ r2
/-! ### attributes, constants of the module -/
theorem de_glob {x : Str} {v : V} {u : Value} {d : D} (hg : Gl X x) (hm : X.mg x = some u) (r : RelV v u) (hd : (x == ("__debug__" : Str)) = false) (rd : ∀ π H, Rp π H v d) : PE X (.Name x pos) (TV C W fun _ M => .ok d M) :=
  de_const (pe_glob hg hm r hd) rd
theorem de_fld {f : Nat} {x : Str} (he : PE X e (TV C W fa)) (hb : attributeBase e x X.env (eval e X.env) = eval e X.env) (hc : ∀ c, Cls X.K (C.cls c)) (hn : ∀ c, C.na c f = true → NoAttr X.K (C.cls c) x) (hx : C.fnm f = some x) :
    PE X (.Attribute e x pos) (TV C W fun σ M => (fa σ M).bind fun x M1 => R.opt (fldD C.na x f M1) M1) :=
  (pe_fld he hb).imp fun σv H Q ⟨π, σ, M, rs, mr, h⟩ => ⟨π, σ, M, rs, mr, h.bind.imp fun x M1 π1 H1 l1 m1 o1 v1 r1 => by
    obtain ⟨z, ez, o2⟩ := o1.opt
    cases r1 with
    | ref e1 =>
      simp only [fldD] at ez
      split at ez
      · rename_i c fs hg
        split at ez
        · rename_i hna
          obtain ⟨dx, gs, rf, ho⟩ := m1.at hg e1
          obtain ⟨v, hv, rv⟩ := rf.lookup hx ez
          exact ⟨_, _, dx, gs, v, rfl, ho, hc c, hn c hna, hv, o2.ok Le.refl m1 v rv⟩
        · cases ez
      · cases ez
    | _ => cases ez⟩
end
end Mj

set_option Elab.async false
set_option linter.all false
set_option autoImplicit false
set_option maxRecDepth 100000
set_option maxHeartbeats 4000000
/-! Equality of data. -/
namespace Mj
open PySem PySem.Spec L2

theorem all_range_cons (n : Nat) (f : Nat → Bool) : (List.range (n + 1)).all f = (f 0 && (List.range n).all fun j => f (j + 1)) := by
  rw [List.range_succ_eq_map, List.all_cons, List.all_map]; rfl
/-- the answers place by place -/
def eqAtD (xs ys : List D) (j : Nat) : Bool := decide (xs[j]? = ys[j]?)
theorem all_eqD : ∀ xs ys : List D, ((List.range (min xs.length ys.length)).all (eqAtD xs ys) && decide (xs.length = ys.length)) = decide (xs = ys)
  | [], [] => by simp
  | [], y :: ys => by simp
  | x :: xs, [] => by simp
  | x :: xs, y :: ys => by
    have e : min (x :: xs).length (y :: ys).length = min xs.length ys.length + 1 := by simp only [List.length_cons]; omega
    rw [e, all_range_cons]
    have e2 : (fun j => eqAtD (x :: xs) (y :: ys) (j + 1)) = eqAtD xs ys := by funext j; simp [eqAtD]
    rw [e2, Bool.and_assoc]
    have e3 : decide ((x :: xs).length = (y :: ys).length) = decide (xs.length = ys.length) := by simp
    rw [e3, all_eqD xs ys, Bool.eq_iff_iff]
    simp [eqAtD]

section
variable {C : Cw} {X : Cx} {pins : List (Addr × Obj)} {σ : L2.St} {H : Hp} {s : Shared} {π : List Addr}
theorem isTup_of (I : Inv X pins σ H s) {a : Addr} {vs : List V} (e : H a = some (.tup vs)) : ∃ its : List Value, Vals vs its ∧ s.heap.IsTuple a its.toArray := by
  obtain ⟨its, r, ⟨o, h1, h2, n, h3⟩, z⟩ := I.tuple (SqT.of e)
  exact ⟨its, r, ⟨o, h1, h2, n, h3⟩⟩
theorem D.plains_mem : ∀ {ds : List D} {d : D}, D.plains ds = true → d ∈ ds → d.plain = true
  | [], _, _, h => by cases h
  | x :: xs, d, h, hm => by
    simp only [D.plains, Bool.and_eq_true] at h
    rcases List.mem_cons.mp hm with e | e
    · rw [e]; exact h.1
    · exact D.plains_mem h.2 e
theorem D.depths_mem : ∀ {ds : List D} {d : D}, d ∈ ds → d.depth ≤ D.depths ds
  | x :: xs, d, hm => by
    simp only [D.depths]
    rcases List.mem_cons.mp hm with e | e
    · rw [e]; omega
    · have := D.depths_mem e; omega
mutual
theorem Rp.det : ∀ {x y : D} {v : V}, x.plain = true → y.plain = true → Rp π H v x → Rp π H v y → x = y
  | .non, y, _, _, hy, .non, r => by cases r; rfl
  | .int i, y, _, _, hy, .int _, r => by cases r; rfl
  | .str i, y, _, _, hy, .str _, r => by cases r; rfl
  | .tup xs, y, _, hx, hy, .tup e q, r => by
    cases r with
    | ref => simp [D.plain] at hy
    | tup e' q' =>
      rw [e] at e'; cases e'
      rw [Rps.det (by simpa [D.plain] using hx) (by simpa [D.plain] using hy) q q']
  | .bl _, _, _, hx, _, _, _ => by simp [D.plain] at hx
  | .ref _, _, _, hx, _, _, _ => by simp [D.plain] at hx
theorem Rps.det : ∀ {xs ys : List D} {vs : List V}, D.plains xs = true → D.plains ys = true → Rps π H vs xs → Rps π H vs ys → xs = ys
  | [], _, _, _, _, .nil, r => by cases r; rfl
  | x :: xs, _, _, hx, hy, .cons h t, r => by
    cases r with
    | cons h' t' =>
      simp only [D.plains, Bool.and_eq_true] at hx hy
      rw [Rp.det hx.1 hy.1 h h', Rps.det hx.2 hy.2 t t']
end
open PySem.SeqAt (EqAt RcAt RcNeAt)
mutual
theorem eq_plain (I : Inv X pins σ H s) : ∀ (x y : D) (A : Around) (v u : V) (a b : Value), x.plain = true → y.plain = true → Rp π H v x → Rp π H u y → RelV v a → RelV u b → A.units + x.depth < cLine → A.units + y.depth < cLine → EqAt A s a b (decide (x = y))
  | .non, y, A, v, u, a, b, _, hy, rx, ry, ra, rb, h1, h2 => by
    cases rx; cases ra
    cases ry with
    | non => cases rb; simpa using EqAt.same (A := A) (s := s) Value.none
    | int j => obtain ⟨t, rfl⟩ := rb; simpa using EqAt.none_int (A := A) (s := s) j t
    | str j => obtain ⟨t, rfl⟩ := rb; simpa using EqAt.none_str (A := A) (s := s) j t
    | tup e q =>
      cases rb
      obtain ⟨its, r, ht⟩ := isTup_of I e
      simpa using EqAt.none_tuple (A := A) (s := s) ht (by omega)
    | _ => simp [D.plain] at hy
  | .int i, y, A, v, u, a, b, _, hy, rx, ry, ra, rb, h1, h2 => by
    cases rx; obtain ⟨t, rfl⟩ := ra
    cases ry with
    | non => cases rb; simpa using EqAt.int_none (A := A) (s := s) i t
    | int j => obtain ⟨t', rfl⟩ := rb; simpa [Bool.beq_eq_decide_eq] using EqAt.int_int (A := A) (s := s) i t j t'
    | str j => obtain ⟨t', rfl⟩ := rb; simpa using EqAt.int_str (A := A) (s := s) i t j t'
    | tup e q =>
      cases rb
      obtain ⟨its, r, ht⟩ := isTup_of I e
      simpa using EqAt.int_tuple (A := A) (s := s) i t ht (by omega)
    | _ => simp [D.plain] at hy
  | .str i, y, A, v, u, a, b, _, hy, rx, ry, ra, rb, h1, h2 => by
    cases rx; obtain ⟨t, rfl⟩ := ra
    cases ry with
    | non => cases rb; simpa using EqAt.str_none (A := A) (s := s) i t
    | int j => obtain ⟨t', rfl⟩ := rb; simpa using EqAt.str_int (A := A) (s := s) i t j t'
    | str j =>
      obtain ⟨t', rfl⟩ := rb
      have q := EqAt.str_str (A := A) (s := s) i t j t'
      have e : (i == j) = decide (D.str i = D.str j) := by rw [Bool.eq_iff_iff]; simp
      rw [e] at q; exact q
    | tup e q =>
      cases rb
      obtain ⟨its, r, ht⟩ := isTup_of I e
      simpa using EqAt.str_tuple (A := A) (s := s) i t ht (by omega)
    | _ => simp [D.plain] at hy
  | .tup xs, y, A, v, u, a, b, hx, hy, rx, ry, ra, rb, h1, h2 => by
    cases rx with
    | @tup p vs ds e q =>
    cases ra
    obtain ⟨its, r, ht⟩ := isTup_of I e
    have hu : A.units < cLine := by omega
    cases ry with
    | non => cases rb; simpa using EqAt.tuple_none (A := A) (s := s) ht hu
    | int j => obtain ⟨t', rfl⟩ := rb; simpa using EqAt.tuple_int (A := A) (s := s) j t' ht hu
    | str j => obtain ⟨t', rfl⟩ := rb; simpa using EqAt.tuple_str (A := A) (s := s) j t' ht hu
    | @tup p' vs' ys e' q' =>
      cases rb
      by_cases hp : p = p'
      · subst hp
        rw [Rp.det hx hy (.tup e q) (.tup e' q')]
        simpa using EqAt.same (A := A) (s := s) (Value.ref p)
      · obtain ⟨its', r', ht'⟩ := isTup_of I e'
        refine EqAt.of_refs hp ?_
        have hx' : D.plains xs = true := by simpa [D.plain] using hx
        have hy' : D.plains ys = true := by simpa [D.plain] using hy
        have he := eqs_plain I xs ys A.in1 vs vs' its its' hx' hy' q q' r r' (by show A.units + 1 + D.depths xs < cLine; simp only [D.depth] at h1; omega) (by show A.units + 1 + D.depths ys < cLine; simp only [D.depth] at h2; omega)
        have n1 : its.toArray.size = xs.length := by simp only [List.size_toArray]; rw [← r.length, q.length]
        have n2 : its'.toArray.size = ys.length := by simp only [List.size_toArray]; rw [← r'.length, q'.length]
        have key := RcAt.tuples (A := A) (s := s) (e := eqAtD xs ys) ht ht' hu fun j j1 j2 => by
          have := he j (by rw [n1] at j1; exact j1) (by rw [n2] at j2; exact j2) (by simpa using j1) (by simpa using j2)
          simpa using this
        rw [n1, n2, Bool.beq_eq_decide_eq, all_eqD] at key
        have e2 : decide (D.tup xs = D.tup ys) = decide (xs = ys) := by rw [Bool.eq_iff_iff]; simp
        rw [e2]; exact key
    | _ => simp [D.plain] at hy
  | .bl _, _, _, _, _, _, _, hx, _, _, _, _, _, _, _ => by simp [D.plain] at hx
  | .ref _, _, _, _, _, _, _, hx, _, _, _, _, _, _, _ => by simp [D.plain] at hx
theorem eqs_plain (I : Inv X pins σ H s) : ∀ (xs ys : List D) (A : Around) (vs us : List V) (as bs : List Value), D.plains xs = true → D.plains ys = true → Rps π H vs xs → Rps π H us ys → Vals vs as → Vals us bs → A.units + D.depths xs < cLine → A.units + D.depths ys < cLine →
    ∀ j (h1 : j < xs.length) (h2 : j < ys.length) (h3 : j < as.length) (h4 : j < bs.length), EqAt A s as[j] bs[j] (eqAtD xs ys j)
  | [], _, _, _, _, _, _, _, _, _, _, _, _, _, _, j, h1, _, _, _ => by simp at h1
  | x :: xs, [], _, _, _, _, _, _, _, _, _, _, _, _, _, j, _, h2, _, _ => by simp at h2
  | x :: xs, y :: ys, A, _, _, _, _, hx, hy, .cons p1 p2, .cons q1 q2, .cons r1 r2, .cons s1 s2, d1, d2, j, h1, h2, h3, h4 => by
    simp only [D.plains, Bool.and_eq_true] at hx hy
    simp only [D.depths] at d1 d2
    cases j with
    | zero =>
      have := eq_plain I x y A _ _ _ _ hx.1 hy.1 p1 q1 r1 s1 (by omega) (by omega)
      simpa [eqAtD] using this
    | succ j =>
      have := eqs_plain I xs ys A _ _ _ _ hx.2 hy.2 p2 q2 r2 s2 (by omega) (by omega) j (by simpa using h1) (by simpa using h2) (by simpa using h3) (by simpa using h4)
      simpa [eqAtD] using this
end
/-- ==, != of plain data, at the top -/
theorem rc_plain (I : Inv X pins σ H s) (x y : D) (A : Around) (v u : V) (a b : Value) (hx : x.plain = true) (hy : y.plain = true) (rx : Rp π H v x) (ry : Rp π H u y) (ra : RelV v a) (rb : RelV u b) (h1 : A.units + x.depth + 1 < cLine) (h2 : A.units + y.depth + 1 < cLine) :
    RcAt A s a b (decide (x = y)) ∧ RcNeAt A s a b (!decide (x = y)) := by
  have hu : A.units < cLine := by omega
  cases rx with
  | non =>
    cases ra
    cases ry with
    | non => cases rb; exact ⟨by simpa using RcAt.none_none, by simpa using RcNeAt.none_none⟩
    | int j => obtain ⟨t, rfl⟩ := rb; exact ⟨by simpa using RcAt.none_int (A := A) (s := s) j t, by simpa using RcNeAt.none_int (A := A) (s := s) j t⟩
    | str j => obtain ⟨t, rfl⟩ := rb; exact ⟨by simpa using RcAt.none_str (A := A) (s := s) j t, by simpa using RcNeAt.none_str (A := A) (s := s) j t⟩
    | tup e q =>
      cases rb
      obtain ⟨its, r, ht⟩ := isTup_of I e
      exact ⟨by simpa using RcAt.none_tuple (A := A) (s := s) ht hu, by simpa using RcNeAt.none_tuple (A := A) (s := s) ht hu⟩
    | _ => simp [D.plain] at hy
  | int i =>
    obtain ⟨t, rfl⟩ := ra
    cases ry with
    | non => cases rb; exact ⟨by simpa using RcAt.int_none (A := A) (s := s) i t, by simpa using RcNeAt.int_none (A := A) (s := s) i t⟩
    | int j =>
      obtain ⟨t', rfl⟩ := rb
      have e : (i == j) = decide (D.int i = D.int j) := by rw [Bool.eq_iff_iff]; simp
      have q1 := RcAt.int_int (A := A) (s := s) i t j t'
      have q2 := RcNeAt.int_int (A := A) (s := s) i t j t'
      rw [e] at q1; simp only [bne, e] at q2; exact ⟨q1, q2⟩
    | str j => obtain ⟨t', rfl⟩ := rb; exact ⟨by simpa using RcAt.int_str (A := A) (s := s) i t j t', by simpa using RcNeAt.int_str (A := A) (s := s) i t j t'⟩
    | tup e q =>
      cases rb
      obtain ⟨its, r, ht⟩ := isTup_of I e
      exact ⟨by simpa using RcAt.int_tuple (A := A) (s := s) i t ht hu, by simpa using RcNeAt.int_tuple (A := A) (s := s) i t ht hu⟩
    | _ => simp [D.plain] at hy
  | str i =>
    obtain ⟨t, rfl⟩ := ra
    cases ry with
    | non => cases rb; exact ⟨by simpa using RcAt.str_none (A := A) (s := s) i t, by simpa using RcNeAt.str_none (A := A) (s := s) i t⟩
    | int j => obtain ⟨t', rfl⟩ := rb; exact ⟨by simpa using RcAt.str_int (A := A) (s := s) i t j t', by simpa using RcNeAt.str_int (A := A) (s := s) i t j t'⟩
    | str j =>
      obtain ⟨t', rfl⟩ := rb
      have e : (i == j) = decide (D.str i = D.str j) := by rw [Bool.eq_iff_iff]; simp
      have q1 := RcAt.str_str (A := A) (s := s) i t j t'
      have q2 := RcNeAt.str_str (A := A) (s := s) i t j t'
      rw [e] at q1; simp only [bne, e] at q2; exact ⟨q1, q2⟩
    | tup e q =>
      cases rb
      obtain ⟨its, r, ht⟩ := isTup_of I e
      exact ⟨by simpa using RcAt.str_tuple (A := A) (s := s) i t ht hu, by simpa using RcNeAt.str_tuple (A := A) (s := s) i t ht hu⟩
    | _ => simp [D.plain] at hy
  | @tup p vs xs e q =>
    cases ra
    obtain ⟨its, r, ht⟩ := isTup_of I e
    cases ry with
    | non => cases rb; exact ⟨by simpa using RcAt.tuple_none (A := A) (s := s) ht hu, by simpa using RcNeAt.tuple_none (A := A) (s := s) ht hu⟩
    | int j => obtain ⟨t', rfl⟩ := rb; exact ⟨by simpa using RcAt.tuple_int (A := A) (s := s) j t' ht hu, by simpa using RcNeAt.tuple_int (A := A) (s := s) j t' ht hu⟩
    | str j => obtain ⟨t', rfl⟩ := rb; exact ⟨by simpa using RcAt.tuple_str (A := A) (s := s) j t' ht hu, by simpa using RcNeAt.tuple_str (A := A) (s := s) j t' ht hu⟩
    | @tup p' vs' ys e' q' =>
      cases rb
      obtain ⟨its', r', ht'⟩ := isTup_of I e'
      have hx' : D.plains xs = true := by simpa [D.plain] using hx
      have hy' : D.plains ys = true := by simpa [D.plain] using hy
      have he := eqs_plain I xs ys A.in1 vs vs' its its' hx' hy' q q' r r' (by show A.units + 1 + D.depths xs < cLine; simp only [D.depth] at h1; omega) (by show A.units + 1 + D.depths ys < cLine; simp only [D.depth] at h2; omega)
      have n1 : its.toArray.size = xs.length := by simp only [List.size_toArray]; rw [← r.length, q.length]
      have n2 : its'.toArray.size = ys.length := by simp only [List.size_toArray]; rw [← r'.length, q'.length]
      have he' : ∀ j (h1 : j < its.toArray.size) (h2 : j < its'.toArray.size), EqAt A.in1 s its.toArray[j] its'.toArray[j] (eqAtD xs ys j) := fun j j1 j2 => by
        have := he j (by rw [n1] at j1; exact j1) (by rw [n2] at j2; exact j2) (by simpa using j1) (by simpa using j2)
        simpa using this
      have k1 := RcAt.tuples (A := A) (s := s) (e := eqAtD xs ys) ht ht' hu he'
      have k2 := RcNeAt.tuples (A := A) (s := s) (e := eqAtD xs ys) ht ht' hu he'
      rw [n1, n2, Bool.beq_eq_decide_eq, all_eqD] at k1 k2
      have e2 : decide (D.tup xs = D.tup ys) = decide (xs = ys) := by rw [Bool.eq_iff_iff]; simp
      rw [e2]; exact ⟨k1, k2⟩
    | _ => simp [D.plain] at hy
  | _ => simp [D.plain] at hx
theorem isList_of (I : Inv X pins σ H s) {a : Addr} {vs : List V} (e : Rd H a (.lst vs)) : ∃ its : List Value, Vals vs its ∧ s.heap.IsList a its.toArray := by
  obtain ⟨its, r, p, z⟩ := I.list (a := a) (xs := vs) (.inl e)
  exact ⟨its, r, p.isList⟩
theorem rc_lists (I : Inv X pins σ H s) (xs ys : List D) (A : Around) (vs us : List V) (a b : Addr) (hx : D.plains xs = true) (hy : D.plains ys = true) (rx : Rps π H vs xs) (ry : Rps π H us ys) (ra : Rd H a (.lst vs)) (rb : Rd H b (.lst us)) (h1 : A.units + D.depths xs + 1 < cLine) (h2 : A.units + D.depths ys + 1 < cLine) :
    RcAt A s (.ref a) (.ref b) (decide (xs = ys)) ∧ RcNeAt A s (.ref a) (.ref b) (!decide (xs = ys)) := by
  have hu : A.units < cLine := by omega
  obtain ⟨its, r, hl⟩ := isList_of I ra
  obtain ⟨its', r', hl'⟩ := isList_of I rb
  have he := eqs_plain I xs ys A.in1 vs us its its' hx hy rx ry r r' (by show A.units + 1 + D.depths xs < cLine; omega) (by show A.units + 1 + D.depths ys < cLine; omega)
  have n1 : its.toArray.size = xs.length := by simp only [List.size_toArray]; rw [← r.length, rx.length]
  have n2 : its'.toArray.size = ys.length := by simp only [List.size_toArray]; rw [← r'.length, ry.length]
  have he' : ∀ j (h1 : j < its.toArray.size) (h2 : j < its'.toArray.size), EqAt A.in1 s its.toArray[j] its'.toArray[j] (eqAtD xs ys j) := fun j j1 j2 => by
    have := he j (by rw [n1] at j1; exact j1) (by rw [n2] at j2; exact j2) (by simpa using j1) (by simpa using j2)
    simpa using this
  by_cases hsz : its.toArray.size = its'.toArray.size
  · have k1 := RcAt.lists (A := A) (s := s) (e := eqAtD xs ys) hl hl' hsz hu he'
    have k2 := RcNeAt.lists (A := A) (s := s) (e := eqAtD xs ys) hl hl' hsz hu he'
    have e0 : xs.length = ys.length := by omega
    have e1 : (List.range its.toArray.size).all (eqAtD xs ys) = decide (xs = ys) := by
      rw [← all_eqD xs ys, n1, e0, Nat.min_self]; simp
    rw [e1] at k1 k2
    exact ⟨k1, k2⟩
  · have k1 := RcAt.lists_lengths (A := A) (s := s) hl hl' (by simpa using hsz) hu
    have k2 := RcNeAt.lists_lengths (A := A) (s := s) hl hl' (by simpa using hsz) hu
    have e0 : ¬ xs = ys := fun e => hsz (by rw [n1, n2, e])
    rw [decide_eq_false e0]
    exact ⟨k1, k2⟩
/-- a list is no plain datum -/
theorem rc_list_plain (I : Inv X pins σ H s) (y : D) (A : Around) (vs : List V) (u : V) (a : Addr) (b : Value) (hy : y.plain = true) (ra : Rd H a (.lst vs)) (ry : Rp π H u y) (rb : RelV u b) (hu : A.units < cLine) :
    (RcAt A s (.ref a) b false ∧ RcNeAt A s (.ref a) b true) ∧ RcAt A s b (.ref a) false ∧ RcNeAt A s b (.ref a) true := by
  obtain ⟨its, r, hl⟩ := isList_of I ra
  cases ry with
  | non => cases rb; exact ⟨⟨RcAt.list_none hl hu, RcNeAt.list_none hl hu⟩, RcAt.none_list hl hu, RcNeAt.none_list hl hu⟩
  | int j => obtain ⟨t, rfl⟩ := rb; exact ⟨⟨RcAt.list_int j t hl hu, RcNeAt.list_int j t hl hu⟩, RcAt.int_list j t hl hu, RcNeAt.int_list j t hl hu⟩
  | str j => obtain ⟨t, rfl⟩ := rb; exact ⟨⟨RcAt.list_str j t hl hu, RcNeAt.list_str j t hl hu⟩, RcAt.str_list j t hl hu, RcNeAt.str_list j t hl hu⟩
  | tup e q =>
    cases rb
    obtain ⟨its', r', ht⟩ := isTup_of I e
    exact ⟨⟨RcAt.list_tuple hl ht hu, RcNeAt.list_tuple hl ht hu⟩, RcAt.tuple_list ht hl hu, RcNeAt.tuple_list ht hl hu⟩
  | _ => simp [D.plain] at hy
end
end Mj

set_option Elab.async false
set_option linter.all false
set_option autoImplicit false
set_option maxRecDepth 100000
set_option maxHeartbeats 4000000
/-! Operators over data. -/
namespace Mj
open PySem PySem.Spec L2
section
variable {C : Cw} {X : Cx}
theorem rd_lst {π : List Addr} {H : Hp} {M : Mem} {n : Nat} {a : Addr} {lk : Bool} {ds : List D} (m : MR C π H M) (e : π[n]? = some a) (hg : M.get n = some (.lst lk ds)) : ∃ vs, Rps π H vs ds ∧ Rd H a (.lst vs) := by
  obtain ⟨vs, r, ho⟩ := m.at hg e
  refine ⟨vs, r, ?_⟩
  cases lk with
  | true => exact .inr ho
  | false => exact .inl ho
theorem op_bin (op : Operator) : OpR X (binaryOp op) (RD C (binD op)) := by
  intro pins s σ H x y v u Q I rx ry h
  obtain ⟨π, d, e, M, r1, r2, m, o⟩ := h
  cases r1 with
  | int i =>
    cases r2 with
    | int j =>
      simp only [binD] at o
      have fin : ∀ k, intOp op i j = some k → Q (.int k) H := fun k hk => by
        rw [hk] at o
        exact OutO.ok o Le.refl m _ (.int k)
      obtain ⟨z, ez⟩ : ∃ z, intOp op i j = some z := by
        cases h : intOp op i j with
        | none => rw [h] at o; exact o.elim
        | some z => exact ⟨z, rfl⟩
      have fin0 := fin z ez
      clear o
      cases op <;> simp only [intOp, Option.some.injEq, reduceCtorEq] at ez
      · subst ez; exact op_add pins s σ H _ _ v u Q I rx ry ⟨i, j, rfl, rfl, fin _ rfl⟩
      · subst ez; exact op_sub pins s σ H _ _ v u Q I rx ry ⟨i, j, rfl, rfl, fin _ rfl⟩
      · split at ez
        · rename_i hc
          cases ez
          exact op_mul pins s σ H _ _ v u Q I rx ry ⟨i, j, rfl, rfl, hc, fin0⟩
        · cases ez
      · split at ez
        · rename_i hc
          cases ez
          exact op_mod pins s σ H _ _ v u Q I rx ry ⟨i, j, rfl, rfl, hc, fin0⟩
        · cases ez
      · split at ez
        · rename_i hc
          cases ez
          exact op_pow pins s σ H _ _ v u Q I rx ry ⟨i, j, rfl, rfl, hc, fin0⟩
        · cases ez
      · split at ez
        · rename_i hc
          cases ez
          exact op_fdiv pins s σ H _ _ v u Q I rx ry ⟨i, j, rfl, rfl, hc, fin0⟩
        · cases ez
    | _ => exact o.elim
  | str a =>
    cases r2 with
    | str b =>
      simp only [binD] at o
      split at o
      · rename_i hc
        obtain ⟨rfl, hl⟩ := hc
        exact op_add_str pins s σ H _ _ v u Q I rx ry ⟨a, b, rfl, rfl, hl, OutO.ok o Le.refl m _ (.str _)⟩
      · exact o.elim
    | _ => exact o.elim
  | tup e1 q1 =>
    cases r2 with
    | tup e2 q2 =>
      simp only [binD] at o
      split at o
      · rename_i hc
        obtain ⟨rfl, hne, hl⟩ := hc
        have l1 := q1.length
        have l2 := q2.length
        refine op_catT pins s σ H _ _ v u Q I rx ry ⟨_, _, _, _, rfl, rfl, SqT.of e1, SqT.of e2, ?_, by omega, fun hb => ?_, fun hb p hp => ?_⟩
        · rintro rfl
          cases q1
          exact hne rfl
        · subst hb
          cases q2
          exact OutO.ok o Le.refl m _ (by rw [List.append_nil]; exact .tup e1 q1)
        · obtain ⟨m2, l2⟩ := m.tuple hp
          exact OutO.ok o l2 m2 _ (.tup upd_same ((q1.append q2).mono l2))
      · exact o.elim
    | _ => exact o.elim
  | ref e1 =>
    cases r2 with
    | ref e2 =>
      simp only [binD] at o
      split at o
      · rename_i a b hg1 hg2
        split at o
        · rename_i hc
          obtain ⟨rfl, hl⟩ := hc
          obtain ⟨vs, q1, h1⟩ := m.at hg1 e1
          obtain ⟨us, q2, h2⟩ := m.at hg2 e2
          have l1 := q1.length
          have l2 := q2.length
          refine op_cat pins s σ H _ _ v u Q I rx ry ⟨_, _, vs, us, rfl, rfl, h1, h2, by omega, fun p hp => ?_⟩
          obtain ⟨m2, l2, r2⟩ := new_list m hp (q1.append q2)
          exact OutO.ok o l2 m2 _ r2
        · exact o.elim
      · exact o.elim
    | _ => exact o.elim
  | _ => exact o.elim
/-- the answer of a comparison -/
def boolR (f : D → D → Mem → Option Bool) (d e : D) (M : Mem) : Option (D × Mem) := (f d e M).map fun t => (.bl t, M)
theorem boolR_out2 {f : D → D → Mem → Option Bool} {d e : D} {M : Mem} {π : List Addr} {H : Hp} {Q : VK} (o : OutO C π H (boolR f d e M) (fun z _ π' H' => ∀ v, Rp π' H' v z → Q v H')) : ∃ t, f d e M = some t ∧ ∀ π' H', Le π H π' H' → MR C π' H' M → Q (.bl t) H' := by
  unfold boolR at o
  cases h : f d e M with
  | none => rw [h] at o; exact o.elim
  | some t => rw [h] at o; exact ⟨t, rfl, fun π' H' l m => OutO.ok o l m _ (.bl t)⟩
theorem boolR_out {f : D → D → Mem → Option Bool} {d e : D} {M : Mem} {π : List Addr} {H : Hp} {Q : VK} (m : MR C π H M) (o : OutO C π H (boolR f d e M) (fun z _ π' H' => ∀ v, Rp π' H' v z → Q v H')) : ∃ t, f d e M = some t ∧ Q (.bl t) H := by
  obtain ⟨t, et, q⟩ := boolR_out2 o
  exact ⟨t, et, q _ _ Le.refl m⟩
theorem op_eqD' (hu : X.A.units + 100 < cLine) : OpR X (compareOp .Eq) (RD C (boolR eqD)) := by
  intro pins s σ H x y v u Q I rx ry h
  obtain ⟨π, d, e, M, r1, r2, m, o⟩ := h
  obtain ⟨t, et, q⟩ := boolR_out m o
  have fin : EP X pins σ Q (.bool t) s := ⟨.bl t, H, I, rfl, q⟩
  have plain : ∀ {d e : D}, Rp π H x d → Rp π H y e → (if d.plain && e.plain && decide (d.depth < 60) && decide (e.depth < 60) then some (decide (d = e)) else none) = some t → wpAny (model X.prog X.w) X.A (compareOp .Eq v u) (EP X pins σ Q) X.xe s := by
    intro d e r1 r2 h
    split at h
    · rename_i hc
      simp only [Bool.and_eq_true, decide_eq_true_eq] at hc
      cases h
      exact (rc_plain I d e X.A x y v u hc.1.1.1 hc.1.1.2 r1 r2 rx ry (by omega) (by omega)).1 _ _ _ _ fin
    · cases h
  have scl : scal x y = true → decide (x = y) = t → wpAny (model X.prog X.w) X.A (compareOp .Eq v u) (EP X pins σ Q) X.xe s := fun hs ht => op_eq pins s σ H x y v u Q I rx ry ⟨hs, by rw [ht]; exact q⟩
  have lp : ∀ {n : Nat} {a : Addr} {ds : List D} {lk : Bool} {z : V} {w : Value} {e : D}, π[n]? = some a → M.get n = some (.lst lk ds) → Rp π H z e → RelV z w → (if e.plain && D.plains ds && decide (D.depths ds < 60) && decide (e.depth < 60) then some false else none) = some t → t = false ∧
      SeqAt.RcAt X.A s (.ref a) w false ∧ SeqAt.RcAt X.A s w (.ref a) false := by
    intro n a ds lk z w e h1 h2 h3 h4 h
    split at h
    · rename_i hc
      simp only [Bool.and_eq_true, decide_eq_true_eq] at hc
      cases h
      obtain ⟨vs, _, hr⟩ := rd_lst m h1 h2
      have k := rc_list_plain I e X.A vs z a w hc.1.1.1 hr h3 h4 (by omega)
      exact ⟨rfl, k.1.1, k.2.1⟩
    · cases h
  cases r1 with
  | bl a =>
    cases r2 with
    | bl b => exact scl rfl (by simp only [eqD, Option.some.injEq] at et; rw [← et]; simp)
    | str b => exact scl rfl (by simp only [eqD, Option.some.injEq] at et; rw [← et]; simp)
    | non => exact scl rfl (by simp only [eqD, Option.some.injEq] at et; rw [← et]; simp)
    | ref => simp only [eqD] at et; split at et <;> simp [D.plain] at et
    | _ => simp [eqD, D.plain] at et
  | non =>
    cases r2 with
    | bl b => exact scl rfl (by simp only [eqD, Option.some.injEq] at et; rw [← et]; simp)
    | ref e2 =>
      simp only [eqD] at et
      split at et
      · rename_i hg
        cases ry
        obtain ⟨rfl, _, k⟩ := lp e2 hg .non rx et
        exact k _ _ _ _ fin
      · cases et
    | non => exact plain .non .non et
    | int j => exact plain .non (.int j) et
    | str j => exact plain .non (.str j) et
    | tup e2 q2 => exact plain .non (.tup e2 q2) et
  | int i =>
    cases r2 with
    | ref e2 =>
      simp only [eqD] at et
      split at et
      · rename_i hg
        cases ry
        obtain ⟨rfl, _, k⟩ := lp e2 hg (.int i) rx et
        exact k _ _ _ _ fin
      · cases et
    | bl b => simp [eqD, D.plain] at et
    | non => exact plain (.int i) .non et
    | int j => exact plain (.int i) (.int j) et
    | str j => exact plain (.int i) (.str j) et
    | tup e2 q2 => exact plain (.int i) (.tup e2 q2) et
  | str i =>
    cases r2 with
    | bl b => exact scl rfl (by simp only [eqD, Option.some.injEq] at et; rw [← et]; simp)
    | ref e2 =>
      simp only [eqD] at et
      split at et
      · rename_i hg
        cases ry
        obtain ⟨rfl, _, k⟩ := lp e2 hg (.str i) rx et
        exact k _ _ _ _ fin
      · cases et
    | non => exact plain (.str i) .non et
    | int j => exact plain (.str i) (.int j) et
    | str j => exact plain (.str i) (.str j) et
    | tup e2 q2 => exact plain (.str i) (.tup e2 q2) et
  | tup e1 q1 =>
    cases r2 with
    | ref e2 =>
      simp only [eqD] at et
      split at et
      · rename_i hg
        cases ry
        obtain ⟨rfl, _, k⟩ := lp e2 hg (.tup e1 q1) rx et
        exact k _ _ _ _ fin
      · cases et
    | bl b => simp [eqD, D.plain] at et
    | non => exact plain (.tup e1 q1) .non et
    | int j => exact plain (.tup e1 q1) (.int j) et
    | str j => exact plain (.tup e1 q1) (.str j) et
    | tup e2 q2 => exact plain (.tup e1 q1) (.tup e2 q2) et
  | ref e1 =>
    cases rx
    cases r2 with
    | ref e2 =>
      cases ry
      simp only [eqD] at et
      split at et
      · rename_i hg1 hg2
        split at et
        · rename_i hc
          simp only [Bool.and_eq_true, decide_eq_true_eq] at hc
          cases et
          obtain ⟨vs, q1, h1⟩ := rd_lst m e1 hg1
          obtain ⟨us, q2, h2⟩ := rd_lst m e2 hg2
          exact (rc_lists I _ _ X.A vs us _ _ hc.1.1.1 hc.1.1.2 q1 q2 h1 h2 (by omega) (by omega)).1 _ _ _ _ fin
        · cases et
      · cases et
    | non =>
      simp only [eqD] at et
      split at et
      · rename_i hg
        obtain ⟨rfl, k, _⟩ := lp e1 hg .non ry et
        exact k _ _ _ _ fin
      · cases et
    | int j =>
      simp only [eqD] at et
      split at et
      · rename_i hg
        obtain ⟨rfl, k, _⟩ := lp e1 hg (.int j) ry et
        exact k _ _ _ _ fin
      · cases et
    | str j =>
      simp only [eqD] at et
      split at et
      · rename_i hg
        obtain ⟨rfl, k, _⟩ := lp e1 hg (.str j) ry et
        exact k _ _ _ _ fin
      · cases et
    | tup e2 q2 =>
      simp only [eqD] at et
      split at et
      · rename_i hg
        obtain ⟨rfl, k, _⟩ := lp e1 hg (.tup e2 q2) ry et
        exact k _ _ _ _ fin
      · cases et
    | bl b => simp only [eqD] at et; split at et <;> simp [D.plain] at et
theorem op_neD' (hu : X.A.units + 100 < cLine) : OpR X (compareOp .NotEq) (RD C (boolR fun x y M => (eqD x y M).map (!·))) := by
  intro pins s σ H x y v u Q I rx ry h
  obtain ⟨π, d, e, M, r1, r2, m, o⟩ := h
  obtain ⟨t', et', q⟩ := boolR_out m o
  obtain ⟨t, et, ht'⟩ : ∃ t, eqD d e M = some t ∧ (!t) = t' := by
    cases h : eqD d e M with
    | none => simp [h] at et'
    | some t => exact ⟨t, rfl, by simpa [h] using et'⟩
  subst ht'
  have fin : EP X pins σ Q (.bool (!t)) s := ⟨.bl (!t), H, I, rfl, q⟩
  have plain : ∀ {d e : D}, Rp π H x d → Rp π H y e → (if d.plain && e.plain && decide (d.depth < 60) && decide (e.depth < 60) then some (decide (d = e)) else none) = some t → wpAny (model X.prog X.w) X.A (compareOp .NotEq v u) (EP X pins σ Q) X.xe s := by
    intro d e r1 r2 h
    split at h
    · rename_i hc
      simp only [Bool.and_eq_true, decide_eq_true_eq] at hc
      cases h
      exact (rc_plain I d e X.A x y v u hc.1.1.1 hc.1.1.2 r1 r2 rx ry (by omega) (by omega)).2 _ _ _ _ fin
    · cases h
  have scl : scal x y = true → decide (x = y) = t → wpAny (model X.prog X.w) X.A (compareOp .NotEq v u) (EP X pins σ Q) X.xe s := fun hs ht => op_ne pins s σ H x y v u Q I rx ry ⟨hs, by rw [ht]; exact q⟩
  have lp : ∀ {n : Nat} {a : Addr} {ds : List D} {lk : Bool} {z : V} {w : Value} {e : D}, π[n]? = some a → M.get n = some (.lst lk ds) → Rp π H z e → RelV z w → (if e.plain && D.plains ds && decide (D.depths ds < 60) && decide (e.depth < 60) then some false else none) = some t → t = false ∧
      SeqAt.RcNeAt X.A s (.ref a) w true ∧ SeqAt.RcNeAt X.A s w (.ref a) true := by
    intro n a ds lk z w e h1 h2 h3 h4 h
    split at h
    · rename_i hc
      simp only [Bool.and_eq_true, decide_eq_true_eq] at hc
      cases h
      obtain ⟨vs, _, hr⟩ := rd_lst m h1 h2
      have k := rc_list_plain I e X.A vs z a w hc.1.1.1 hr h3 h4 (by omega)
      exact ⟨rfl, k.1.2, k.2.2⟩
    · cases h
  cases r1 with
  | bl a =>
    cases r2 with
    | bl b => exact scl rfl (by simp only [eqD, Option.some.injEq] at et; rw [← et]; simp)
    | str b => exact scl rfl (by simp only [eqD, Option.some.injEq] at et; rw [← et]; simp)
    | non => exact scl rfl (by simp only [eqD, Option.some.injEq] at et; rw [← et]; simp)
    | ref => simp only [eqD] at et; split at et <;> simp [D.plain] at et
    | _ => simp [eqD, D.plain] at et
  | non =>
    cases r2 with
    | bl b => exact scl rfl (by simp only [eqD, Option.some.injEq] at et; rw [← et]; simp)
    | ref e2 =>
      simp only [eqD] at et
      split at et
      · rename_i hg
        cases ry
        obtain ⟨rfl, _, k⟩ := lp e2 hg .non rx et
        exact k _ _ _ _ fin
      · cases et
    | non => exact plain .non .non et
    | int j => exact plain .non (.int j) et
    | str j => exact plain .non (.str j) et
    | tup e2 q2 => exact plain .non (.tup e2 q2) et
  | int i =>
    cases r2 with
    | ref e2 =>
      simp only [eqD] at et
      split at et
      · rename_i hg
        cases ry
        obtain ⟨rfl, _, k⟩ := lp e2 hg (.int i) rx et
        exact k _ _ _ _ fin
      · cases et
    | bl b => simp [eqD, D.plain] at et
    | non => exact plain (.int i) .non et
    | int j => exact plain (.int i) (.int j) et
    | str j => exact plain (.int i) (.str j) et
    | tup e2 q2 => exact plain (.int i) (.tup e2 q2) et
  | str i =>
    cases r2 with
    | bl b => exact scl rfl (by simp only [eqD, Option.some.injEq] at et; rw [← et]; simp)
    | ref e2 =>
      simp only [eqD] at et
      split at et
      · rename_i hg
        cases ry
        obtain ⟨rfl, _, k⟩ := lp e2 hg (.str i) rx et
        exact k _ _ _ _ fin
      · cases et
    | non => exact plain (.str i) .non et
    | int j => exact plain (.str i) (.int j) et
    | str j => exact plain (.str i) (.str j) et
    | tup e2 q2 => exact plain (.str i) (.tup e2 q2) et
  | tup e1 q1 =>
    cases r2 with
    | ref e2 =>
      simp only [eqD] at et
      split at et
      · rename_i hg
        cases ry
        obtain ⟨rfl, _, k⟩ := lp e2 hg (.tup e1 q1) rx et
        exact k _ _ _ _ fin
      · cases et
    | bl b => simp [eqD, D.plain] at et
    | non => exact plain (.tup e1 q1) .non et
    | int j => exact plain (.tup e1 q1) (.int j) et
    | str j => exact plain (.tup e1 q1) (.str j) et
    | tup e2 q2 => exact plain (.tup e1 q1) (.tup e2 q2) et
  | ref e1 =>
    cases rx
    cases r2 with
    | ref e2 =>
      cases ry
      simp only [eqD] at et
      split at et
      · rename_i hg1 hg2
        split at et
        · rename_i hc
          simp only [Bool.and_eq_true, decide_eq_true_eq] at hc
          cases et
          obtain ⟨vs, q1, h1⟩ := rd_lst m e1 hg1
          obtain ⟨us, q2, h2⟩ := rd_lst m e2 hg2
          exact (rc_lists I _ _ X.A vs us _ _ hc.1.1.1 hc.1.1.2 q1 q2 h1 h2 (by omega) (by omega)).2 _ _ _ _ fin
        · cases et
      · cases et
    | non =>
      simp only [eqD] at et
      split at et
      · rename_i hg
        obtain ⟨rfl, k, _⟩ := lp e1 hg .non ry et
        exact k _ _ _ _ fin
      · cases et
    | int j =>
      simp only [eqD] at et
      split at et
      · rename_i hg
        obtain ⟨rfl, k, _⟩ := lp e1 hg (.int j) ry et
        exact k _ _ _ _ fin
      · cases et
    | str j =>
      simp only [eqD] at et
      split at et
      · rename_i hg
        obtain ⟨rfl, k, _⟩ := lp e1 hg (.str j) ry et
        exact k _ _ _ _ fin
      · cases et
    | tup e2 q2 =>
      simp only [eqD] at et
      split at et
      · rename_i hg
        obtain ⟨rfl, k, _⟩ := lp e1 hg (.tup e2 q2) ry et
        exact k _ _ _ _ fin
      · cases et
    | bl b => simp only [eqD] at et; split at et <;> simp [D.plain] at et
end
end Mj

set_option Elab.async false
set_option linter.all false
set_option autoImplicit false
set_option maxRecDepth 100000
set_option maxHeartbeats 4000000
/-! Dicts, membership, subscripts over data. -/
namespace Mj
open PySem PySem.Spec L2
section
variable {C : Cw} {X : Cx} {pins : List (Addr × Obj)} {σ : L2.St} {H : Hp} {s : Shared} {π : List Addr} {M : Mem}
/-- an empty dict may turn to a dict of the other kind -/
theorem retagT {a : Addr} (I : Inv X pins σ H s) (h : H a = some (.dK [])) : Inv X pins σ (upd H a (.dT [])) s := by
  obtain ⟨z, hs, vs, rel, o, es, ep, e1, e2, e3, e4⟩ := (show ObjOk X.prog X.w H s.heap a (.dK []) from I.hok a _ h)
  cases rel
  have e5 : es.toList = [] := by
    have := e4.2.1.length
    exact List.length_eq_zero_iff.mp (by simpa using this)
  have new : ObjOk X.prog X.w (upd H a (.dT [])) s.heap a (.dT []) := ⟨Nat.zero_le _, hs, [], .nil, o, es, ep, e1, e2, e3, by rw [e5]; rfl, List.nodup_nil⟩
  exact I.write (x := a) (e := a) (t' := s.toks) (h' := s.heap) (by rw [h]; exact trivial) (.inl rfl) (fun b v _ q => q) ⟨o, e1⟩ new
theorem retagK {a : Addr} (I : Inv X pins σ H s) (h : H a = some (.dT [])) : Inv X pins σ (upd H a (.dK [])) s := by
  obtain ⟨z, hs, xs, rel, o, es, ep, e1, e2, e3, e4, e5⟩ := (show ObjOk X.prog X.w H s.heap a (.dT []) from I.hok a _ h)
  cases rel
  have e6 : es.toList = [] := by rw [e4]; rfl
  have e7 : es = #[] := by cases es; simpa using e6
  subst e7
  have new : ObjOk X.prog X.w (upd H a (.dK [])) s.heap a (.dK []) := by
    refine ⟨Nat.zero_le _, hs, [], .nil, o, #[], ep, e1, e2, e3, ?_⟩
    have k := Heap.DictOf.new (knd := mixKind X.prog X.w) s.heap
    obtain ⟨o', es', ep', f1, f2, f3, f4⟩ := k
    have f5 : es'.toList = [] := List.length_eq_zero_iff.mp (by simpa using f4.2.1.length)
    have f6 : es' = #[] := by cases es'; simpa using f5
    subst f6
    exact f4
  exact I.write (x := a) (e := a) (t' := s.toks) (h' := s.heap) (by rw [h]; exact trivial) (.inl rfl) (fun b v _ q => q) ⟨o, e1⟩ new
theorem look_kv {κ : Type} [DecidableEq κ] {f : κ → D} (inj : ∀ a b, f a = f b → a = b) {k : κ} : ∀ {r : List (κ × V)} {t : List (D × D)}, KVs π H f r t → (∀ d, look t (f k) = some d → ∃ v, valV r k = some v ∧ Rp π H v d) ∧ (look t (f k) = none → valV r k = none)
  | _, _, .nil => ⟨fun d h => by simp [look] at h, fun _ => rfl⟩
  | _, _, .cons (k := k') (v := v) (d := d) (r := r') (s := s') h t => by
    obtain ⟨i1, i2⟩ := look_kv inj (k := k) t
    by_cases e : k' = k
    · subst e
      refine ⟨fun d' hd => ⟨v, by simp [valV], ?_⟩, fun hn => by simp [look] at hn⟩
      simp [look] at hd; subst hd; exact h
    · have e2 : ¬ f k' = f k := fun z => e (inj _ _ z)
      have a1 : look ((f k', d) :: s') (f k) = look s' (f k) := by simp [look, List.find?_cons, e2]
      have a2 : valV ((k', v) :: r') k = valV r' k := by simp [valV, List.find?_cons, e]
      rw [a1, a2]
      exact ⟨i1, i2⟩
theorem kv_kinds {r : List (List Key × V)} {t : List (D × D)} (h : KVs π H keyT r t) {k : Key} (hk : t.all (fun kv => isTup kv.1 == isTup (keyD k)) = true) : t = [] := by
  cases h with
  | nil => rfl
  | cons h t =>
    simp only [List.all_cons, Bool.and_eq_true] at hk
    have := hk.1
    cases k <;> simp [keyT, isTup, keyD] at this
theorem kv_kinds' {r : List (Key × V)} {t : List (D × D)} (h : KVs π H keyD r t) {ks : List Key} (hk : t.all (fun kv => isTup kv.1 == isTup (keyT ks)) = true) : t = [] := by
  cases h with
  | nil => rfl
  | cons h t =>
    rename_i k _ _ _ _
    simp only [List.all_cons, Bool.and_eq_true] at hk
    have := hk.1
    cases k <;> simp [keyT, isTup, keyD] at this
/-- what a key is -/
theorem isKey_cases {d : D} (h : isKey d = true) : (∃ k : Key, d = keyD k) ∨ ∃ ks : List Key, d = keyT ks := by
  cases d with
  | int i => exact .inl ⟨.inl i, rfl⟩
  | str x => exact .inl ⟨.inr x, rfl⟩
  | tup ds =>
    simp only [isKey] at h
    obtain ⟨ks, hk⟩ := Option.isSome_iff_exists.mp h
    exact .inr ⟨ks, by rw [toKeys_eq hk]; rfl⟩
  | _ => simp [isKey] at h
/-- the dict at n, ready for the key -/
theorem dict_fit {n : Nat} {a : Addr} {lk : Bool} {kvs : List (D × D)} {k : D} {y : V} (I : Inv X pins σ H s) (m : MR C π H M) (e : π[n]? = some a) (hg : M.get n = some (.dct lk kvs)) (hk : keyFits lk kvs k = true) (ry : Rp π H y k) :
    ∃ H', Inv X pins σ H' s ∧ Le π H π H' ∧ MR C π H' M ∧ ((∃ (r : List (Key × V)) (q : Key), k = keyD q ∧ y = kV q ∧ KVs π H' keyD r kvs ∧ Rd H' a (.dK r) ∧ (lk = false → H' a = some (.dK r))) ∨
      ∃ (r : List (List Key × V)) (q : List Key) (b : Addr), k = keyT q ∧ y = .ref b ∧ H' b = some (.tup (q.map kV)) ∧ KVs π H' keyT r kvs ∧ Rd H' a (.dT r) ∧ (lk = false → H' a = some (.dT r))) := by
  obtain ⟨u, dr, ho⟩ := m.at hg e
  have hRd : Rd H a u := by
    cases lk with
    | true => exact .inr ho
    | false => exact .inl ho
  have hFr : lk = false → H a = some u := by
    intro z; subst z; exact ho
  unfold keyFits at hk
  simp only [Bool.and_eq_true] at hk
  obtain ⟨⟨hk1, hk2⟩, hk3⟩ := hk
  have hl : n < M.size := Mem.lt_of_get hg
  rcases isKey_cases hk1 with ⟨q, rfl⟩ | ⟨q, rfl⟩
  · have ey := rp_key ry
    cases dr with
    | k dr => exact ⟨H, I, Le.refl, m, .inl ⟨_, q, rfl, ey, dr, hRd, hFr⟩⟩
    | t dr =>
      have e0 := kv_kinds dr hk2
      subst e0
      cases dr
      have hlk : lk = false := by simpa using hk3
      subst hlk
      have h0 := hFr rfl
      obtain ⟨m2, l2⟩ := m.set (u := .dK []) (o := .dct false []) e hl (fun o u z => by rw [h0] at z; cases z) fun H' l z => ⟨_, .k .nil, z⟩
      have e3 : M.set n (.dct false []) = M := Mem.set_get hg
      rw [e3] at m2
      exact ⟨_, retagK I h0, l2, m2, .inl ⟨[], q, rfl, ey, .nil, .inl upd_same, fun _ => upd_same⟩⟩
  · cases ry with
    | @tup b vs ds eb rq =>
      have evs := rps_keys rq
      subst evs
      cases dr with
      | t dr => exact ⟨H, I, Le.refl, m, .inr ⟨_, q, b, rfl, rfl, eb, dr, hRd, hFr⟩⟩
      | k dr =>
        have e0 := kv_kinds' dr hk2
        subst e0
        cases dr
        have hlk : lk = false := by simpa using hk3
        subst hlk
        have h0 := hFr rfl
        obtain ⟨m2, l2⟩ := m.set (u := .dT []) (o := .dct false []) e hl (fun o u z => by rw [h0] at z; cases z) fun H' l z => ⟨_, .t .nil, z⟩
        have e3 : M.set n (.dct false []) = M := Mem.set_get hg
        rw [e3] at m2
        exact ⟨_, retagT I h0, l2, m2, .inr ⟨[], q, b, rfl, rfl, l2.tp _ _ eb, .nil, .inl upd_same, fun _ => upd_same⟩⟩
/-- .. read -/
theorem dict_get {n : Nat} {a : Addr} {lk : Bool} {kvs : List (D × D)} {k : D} {y : V} (I : Inv X pins σ H s) (m : MR C π H M) (e : π[n]? = some a) (hg : M.get n = some (.dct lk kvs)) (hk : keyFits lk kvs k = true) (ry : Rp π H y k) :
    ∃ H' o, Inv X pins σ H' s ∧ Le π H π H' ∧ MR C π H' M ∧ DGet H' a y o ∧ IsD H' a ∧ (∀ d, look kvs k = some d → ∃ v, o = some v ∧ Rp π H' v d) ∧ (look kvs k = none → o = none) := by
  obtain ⟨H', I', l, m', h | h⟩ := dict_fit I m e hg hk ry
  · obtain ⟨r, q, rfl, ey, kv, rd, _⟩ := h
    obtain ⟨k1, k2⟩ := look_kv (f := keyD) (fun a b h => keyD_inj h) (k := q) kv
    exact ⟨H', valV r q, I', l, m', .inl ⟨r, q, rd, ey, rfl⟩, .inl ⟨r, rd⟩, k1, k2⟩
  · obtain ⟨r, q, b, rfl, ey, eb, kv, rd, _⟩ := h
    obtain ⟨k1, k2⟩ := look_kv (f := keyT) (fun a b h => keyT_inj h) (k := q) kv
    exact ⟨H', valV r q, I', l, m', .inr ⟨r, q, b, rd, ey, eb, rfl⟩, .inr ⟨r, rd⟩, k1, k2⟩
theorem any_kv {κ : Type} [DecidableEq κ] {f : κ → D} (inj : ∀ a b, f a = f b → a = b) {k : κ} : ∀ {r : List (κ × V)} {t : List (D × D)}, KVs π H f r t → (t.any fun kv => decide (kv.1 = f k)) = r.any fun kv => decide (kv.1 = k)
  | _, _, .nil => rfl
  | _, _, .cons (k := k') h t => by
    rw [List.any_cons, List.any_cons, any_kv inj t]
    congr 1
    by_cases e : k' = k
    · subst e; simp
    · have e2 : ¬ f k' = f k := fun z => e (inj _ _ z)
      simp [e, e2]
theorem repl_kv {κ : Type} [DecidableEq κ] {f : κ → D} (inj : ∀ a b, f a = f b → a = b) {k : κ} {v : V} {d : D} (rv : Rp π H v d) : ∀ {r : List (κ × V)} {t : List (D × D)}, KVs π H f r t → KVs π H f (r.map fun kv => if kv.1 = k then (kv.1, v) else kv) (t.map fun kv => if kv.1 = f k then (kv.1, d) else kv)
  | _, _, .nil => .nil
  | _, _, .cons (k := k') h t => by
    rw [List.map_cons, List.map_cons]
    by_cases e : k' = k
    · subst e
      simp only [if_true]
      exact .cons rv (repl_kv inj rv t)
    · have e2 : ¬ f k' = f k := fun z => e (inj _ _ z)
      simp only [e, e2, if_false]
      exact .cons h (repl_kv inj rv t)
theorem app_kv {κ : Type} {f : κ → D} {k : κ} {v : V} {d : D} (rv : Rp π H v d) : ∀ {r : List (κ × V)} {t : List (D × D)}, KVs π H f r t → KVs π H f (r ++ [(k, v)]) (t ++ [(f k, d)])
  | _, _, .nil => .cons rv .nil
  | _, _, .cons h t => .cons h (app_kv rv t)
theorem put_kv {κ : Type} [DecidableEq κ] {f : κ → D} (inj : ∀ a b, f a = f b → a = b) {k : κ} {v : V} {d : D} (rv : Rp π H v d) {r : List (κ × V)} {t : List (D × D)} (h : KVs π H f r t) : KVs π H f (putK r k v) (putKV t (f k) d) := by
  unfold putK putKV
  rw [any_kv inj h]
  split
  · exact repl_kv inj rv h
  · exact app_kv rv h
theorem drop_kv {κ : Type} [DecidableEq κ] {f : κ → D} (inj : ∀ a b, f a = f b → a = b) {k : κ} : ∀ {r : List (κ × V)} {t : List (D × D)}, KVs π H f r t → KVs π H f (dropK r k) (dropKV t (f k))
  | _, _, .nil => .nil
  | _, _, .cons (k := k') h t => by
    unfold dropK dropKV
    by_cases e : k' = k
    · subst e
      rw [List.filter_cons_of_neg (by simp), List.filter_cons_of_neg (by simp)]
      exact drop_kv inj t
    · have e2 : ¬ f k' = f k := fun z => e (inj _ _ z)
      rw [List.filter_cons_of_pos (by simp [e]), List.filter_cons_of_pos (by simp [e2])]
      exact .cons h (drop_kv inj t)
/-- .. written -/
theorem dict_put {n : Nat} {a : Addr} {kvs : List (D × D)} {k d : D} {y v : V} (I : Inv X pins σ H s) (m : MR C π H M) (e : π[n]? = some a) (hg : M.get n = some (.dct false kvs)) (hk : keyFits false kvs k = true) (hl : kvs.length < sizeLine) (ry : Rp π H y k) (rv : Rp π H v d) :
    ∃ H1 H', Inv X pins σ H1 s ∧ DPut H1 a y v H' ∧ Le π H π H' ∧ MR C π H' (M.set n (.dct false (putKV kvs k d))) := by
  obtain ⟨H1, I1, l, m', h | h⟩ := dict_fit I m e hg hk ry
  · obtain ⟨r, q, rfl, ey, kv, rd, fr⟩ := h
    have h0 := fr rfl
    obtain ⟨m2, l2⟩ := m'.set (u := .dK (putK r q v)) (o := .dct false (putKV kvs (keyD q) d)) e (Mem.lt_of_get hg) (fun o u z => by rw [h0] at z; cases z)
      fun H' l3 z => ⟨_, .k (put_kv (fun a b h => keyD_inj h) ((rv.mono l).mono l3) (kv.mono l3)), z⟩
    exact ⟨H1, _, I1, .inl ⟨r, q, h0, ey, by rw [kv.length]; exact hl, rfl⟩, l.trans l2, m2⟩
  · obtain ⟨r, q, b, rfl, ey, eb, kv, rd, fr⟩ := h
    have h0 := fr rfl
    obtain ⟨m2, l2⟩ := m'.set (u := .dT (putK r q v)) (o := .dct false (putKV kvs (keyT q) d)) e (Mem.lt_of_get hg) (fun o u z => by rw [h0] at z; cases z)
      fun H' l3 z => ⟨_, .t (put_kv (fun a b h => keyT_inj h) ((rv.mono l).mono l3) (kv.mono l3)), z⟩
    exact ⟨H1, _, I1, .inr ⟨r, q, b, h0, ey, eb, by rw [kv.length]; exact hl, rfl⟩, l.trans l2, m2⟩

/-! ### in -/
open PySem.SeqAt (EqAt)
/-- the items' answers, read off the values -/
theorem any_at (I : Inv X pins σ H s) {A : Around} {xs : List D} {vs : List V} {us : List Value} {x : D} {v : V} {u : Value} (hx : D.plains xs = true) (hd : x.plain = true) (r : Rps π H vs xs) (rr : Vals vs us) (q : Rp π H v x) (qq : RelV v u) (h1 : A.units + D.depths xs < cLine) (h2 : A.units + x.depth < cLine) :
    ∃ e : Value → Bool, (∀ y, y ∈ us.toArray → EqAt A s y u (e y)) ∧ us.toArray.any e = decide (x ∈ xs) := by
  classical
  have l1 := rr.length
  have l2 := r.length
  have same : ∀ {i j : Nat} {y : Value} {a b : D}, us[i]? = some y → us[j]? = some y → xs[i]? = some a → xs[j]? = some b → a = b := by
    intro i j y a b e1 e2 e3 e4
    obtain ⟨v1, f1, g1⟩ := r.get e3
    obtain ⟨v2, f2, g2⟩ := r.get e4
    obtain ⟨w1, k1, m1⟩ := rr.get f1
    obtain ⟨w2, k2, m2⟩ := rr.get f2
    rw [e1] at k1; rw [e2] at k2; cases k1; cases k2
    have : v1 = v2 := m1.inj m2
    subst this
    exact Rp.det (D.plains_mem hx (List.mem_of_getElem? e3)) (D.plains_mem hx (List.mem_of_getElem? e4)) g1 g2
  refine ⟨fun y => decide (∃ j : Nat, us[j]? = some y ∧ xs[j]? = some x), fun y hy => ?_, ?_⟩
  · have hy' : y ∈ us := by simpa using hy
    obtain ⟨j, hj, e⟩ := List.getElem_of_mem hy'
    have hj2 : j < xs.length := by omega
    have e1 : us[j]? = some y := by rw [List.getElem?_eq_getElem hj, e]
    have e2 : xs[j]? = some xs[j] := List.getElem?_eq_getElem hj2
    obtain ⟨v1, f1, g1⟩ := r.get e2
    obtain ⟨w1, k1, m1⟩ := rr.get f1
    rw [e1] at k1; cases k1
    have hm : xs[j] ∈ xs := List.getElem_mem hj2
    have key := eq_plain I xs[j] x A v1 v y u (D.plains_mem hx hm) hd g1 q m1 qq (by have := D.depths_mem hm; omega) h2
    have e3 : decide (xs[j] = x) = decide (∃ j : Nat, us[j]? = some y ∧ xs[j]? = some x) := by
      rw [Bool.eq_iff_iff, decide_eq_true_eq, decide_eq_true_eq]
      refine ⟨fun z => ⟨j, e1, by rw [e2, z]⟩, fun ⟨i, i1, i2⟩ => same e1 i1 e2 i2⟩
    rw [e3] at key; exact key
  · rw [Bool.eq_iff_iff, decide_eq_true_eq]
    simp only [List.any_toArray, List.any_eq_true, decide_eq_true_eq]
    refine ⟨fun ⟨y, hy, j, j1, j2⟩ => List.mem_of_getElem? j2, fun hm => ?_⟩
    obtain ⟨j, hj, e⟩ := List.getElem_of_mem hm
    have hj2 : j < us.length := by omega
    exact ⟨us[j], List.getElem_mem hj2, j, List.getElem?_eq_getElem hj2, by rw [List.getElem?_eq_getElem hj, e]⟩
theorem op_in' (hu : X.A.units + 100 < cLine) : OpR X (compareOp .In) (RD C (boolR inD)) := by
  intro pins s σ H x y v u Q I rx ry h
  obtain ⟨π, d, e, M, r1, r2, m, o⟩ := h
  obtain ⟨t, et, qo⟩ := boolR_out2 o
  have q : Q (.bl t) H := qo _ _ Le.refl m
  cases r2 with
  | tup e2 q2 =>
    cases ry
    simp only [inD] at et
    split at et
    · rename_i hc
      simp only [Bool.and_eq_true, decide_eq_true_eq] at hc
      cases et
      obtain ⟨its, rr, ht⟩ := isTup_of I e2
      obtain ⟨ee, k1, k2⟩ := any_at (A := X.A.in1) I hc.1.1.2 hc.1.1.1 q2 rr r1 rx (by show X.A.units + 1 + _ < _; omega) (by show X.A.units + 1 + _ < _; omega)
      exact SeqAt.in_tupleAt ee ht k1 ⟨.bl _, H, I, rfl, by rw [k2]; exact q⟩
    · cases et
  | @ref n a e2 =>
    cases ry
    simp only [inD] at et
    split at et
    · rename_i lk ds hg
      split at et
      · rename_i hc
        simp only [Bool.and_eq_true, decide_eq_true_eq] at hc
        cases et
        obtain ⟨vs, q2, hr⟩ := rd_lst m e2 hg
        obtain ⟨its, rr, hl⟩ := isList_of I hr
        obtain ⟨ee, k1, k2⟩ := any_at (A := X.A.in1) I hc.1.1.2 hc.1.1.1 q2 rr r1 rx (by show X.A.units + 1 + _ < _; omega) (by show X.A.units + 1 + _ < _; omega)
        exact SeqAt.in_listAt ee hl k1 ⟨.bl _, H, I, rfl, by rw [k2]; exact q⟩
      · cases et
    · rename_i lk kvs hg
      split at et
      · rename_i hk
        cases et
        obtain ⟨H', oo, I', l, m', g, _, k1, k2⟩ := dict_get I m e2 hg hk r1
        have e3 : (look kvs d).isSome = oo.isSome := by
          cases hlk : look kvs d with
          | none => rw [k2 hlk]; rfl
          | some z => obtain ⟨w, e4, _⟩ := k1 z hlk; rw [e4]; rfl
        refine d_in (by omega) I' g rx fun s' I2 => ?_
        rw [← e3]
        exact ⟨.bl _, H', I2, rfl, qo _ _ l m'⟩
      · cases et
    · cases et
  | str z =>
    cases r1 with
    | str a =>
      simp only [inD] at et
      split at et
      · rename_i c hc
        cases et
        have ea : a = ⟨#[c]⟩ := by
          obtain ⟨⟨l⟩⟩ := a
          simp only at hc
          subst hc; rfl
        subst ea
        exact op_in_sign pins s σ H _ _ v u Q I rx ry ⟨c, z, rfl, rfl, q⟩
      · cases et
    | _ => simp [inD] at et
  | _ => simp [inD] at et
theorem op_notIn' (hu : X.A.units + 100 < cLine) : OpR X (compareOp .NotIn) (RD C (boolR fun x y M => (inD x y M).map (!·))) := by
  intro pins s σ H x y v u Q I rx ry h
  obtain ⟨π, d, e, M, r1, r2, m, o⟩ := h
  obtain ⟨t', et', qo⟩ := boolR_out2 o
  obtain ⟨t, et, ht'⟩ : ∃ t, inD d e M = some t ∧ (!t) = t' := by
    cases h : inD d e M with
    | none => simp [h] at et'
    | some t => exact ⟨t, rfl, by simpa [h] using et'⟩
  clear et' o
  subst ht'
  have q : Q (.bl (!t)) H := qo _ _ Le.refl m
  cases r2 with
  | tup e2 q2 =>
    cases ry
    simp only [inD] at et
    split at et
    · rename_i hc
      simp only [Bool.and_eq_true, decide_eq_true_eq] at hc
      cases et
      obtain ⟨its, rr, ht⟩ := isTup_of I e2
      obtain ⟨ee, k1, k2⟩ := any_at (A := X.A.in1) I hc.1.1.2 hc.1.1.1 q2 rr r1 rx (by show X.A.units + 1 + _ < _; omega) (by show X.A.units + 1 + _ < _; omega)
      exact SeqAt.notIn_tupleAt ee ht k1 ⟨.bl _, H, I, rfl, by rw [k2]; exact q⟩
    · cases et
  | @ref n a e2 =>
    cases ry
    simp only [inD] at et
    split at et
    · rename_i lk ds hg
      split at et
      · rename_i hc
        simp only [Bool.and_eq_true, decide_eq_true_eq] at hc
        cases et
        obtain ⟨vs, q2, hr⟩ := rd_lst m e2 hg
        obtain ⟨its, rr, hl⟩ := isList_of I hr
        obtain ⟨ee, k1, k2⟩ := any_at (A := X.A.in1) I hc.1.1.2 hc.1.1.1 q2 rr r1 rx (by show X.A.units + 1 + _ < _; omega) (by show X.A.units + 1 + _ < _; omega)
        exact SeqAt.notIn_listAt ee hl k1 ⟨.bl _, H, I, rfl, by rw [k2]; exact q⟩
      · cases et
    · rename_i lk kvs hg
      split at et
      · rename_i hk
        cases et
        obtain ⟨H', oo, I', l, m', g, _, k1, k2⟩ := dict_get I m e2 hg hk r1
        have e3 : (look kvs d).isSome = oo.isSome := by
          cases hlk : look kvs d with
          | none => rw [k2 hlk]; rfl
          | some z => obtain ⟨w, e4, _⟩ := k1 z hlk; rw [e4]; rfl
        refine d_notIn (by omega) I' g rx fun s' I2 => ?_
        rw [← e3]
        exact ⟨.bl _, H', I2, rfl, qo _ _ l m'⟩
      · cases et
    · cases et
  | str z =>
    cases r1 with
    | str a =>
      simp only [inD] at et
      split at et
      · rename_i c hc
        cases et
        have ea : a = ⟨#[c]⟩ := by
          obtain ⟨⟨l⟩⟩ := a
          simp only at hc
          subst hc; rfl
        subst ea
        exact op_notIn_sign pins s σ H _ _ v u Q I rx ry ⟨c, z, rfl, rfl, q⟩
      · cases et
    | _ => simp [inD] at et
  | _ => simp [inD] at et

/-! ### the other comparisons -/
theorem op_lt' : OpR X (compareOp .Lt) (RD C (boolR fun x y _ => ltD x y)) := by
  intro pins s σ H x y v u Q I rx ry h
  obtain ⟨π, d, e, M, r1, r2, m, o⟩ := h
  obtain ⟨t, et, q⟩ := boolR_out m o
  cases r1 <;> cases r2 <;> simp only [ltD, Option.some.injEq, reduceCtorEq] at et
  · subst et; exact op_lt pins s σ H _ _ v u Q I rx ry ⟨_, _, rfl, rfl, q⟩
  · subst et; exact op_lt_str pins s σ H _ _ v u Q I rx ry ⟨_, _, rfl, rfl, q⟩
theorem op_gt' : OpR X (compareOp .Gt) (RD C (boolR fun x y _ => ltD y x)) := by
  intro pins s σ H x y v u Q I rx ry h
  obtain ⟨π, d, e, M, r1, r2, m, o⟩ := h
  obtain ⟨t, et, q⟩ := boolR_out m o
  cases r1 <;> cases r2 <;> simp only [ltD, Option.some.injEq, reduceCtorEq] at et
  · subst et; exact op_gt pins s σ H _ _ v u Q I rx ry ⟨_, _, rfl, rfl, q⟩
  · subst et; exact op_gt_str pins s σ H _ _ v u Q I rx ry ⟨_, _, rfl, rfl, q⟩
theorem op_le' : OpR X (compareOp .LtE) (RD C (boolR fun x y _ => leD x y)) := by
  intro pins s σ H x y v u Q I rx ry h
  obtain ⟨π, d, e, M, r1, r2, m, o⟩ := h
  obtain ⟨t, et, q⟩ := boolR_out m o
  cases r1 <;> cases r2 <;> simp only [leD, Option.some.injEq, reduceCtorEq] at et
  · subst et; exact op_le pins s σ H _ _ v u Q I rx ry ⟨_, _, rfl, rfl, q⟩
  · subst et; exact op_le_str pins s σ H _ _ v u Q I rx ry ⟨_, _, rfl, rfl, q⟩
theorem op_ge' : OpR X (compareOp .GtE) (RD C (boolR fun x y _ => leD y x)) := by
  intro pins s σ H x y v u Q I rx ry h
  obtain ⟨π, d, e, M, r1, r2, m, o⟩ := h
  obtain ⟨t, et, q⟩ := boolR_out m o
  cases r1 <;> cases r2 <;> simp only [leD, Option.some.injEq, reduceCtorEq] at et
  · subst et; exact op_ge pins s σ H _ _ v u Q I rx ry ⟨_, _, rfl, rfl, q⟩
  · subst et; exact op_ge_str pins s σ H _ _ v u Q I rx ry ⟨_, _, rfl, rfl, q⟩
theorem non_iff {v : V} {d : D} (r : Rp π H v d) : decide (v = .non) = decide (d = .non) := by cases r <;> simp
theorem op_is' : OpR X (compareOp .Is) (RD C (boolR fun x y _ => isD x y)) := by
  intro pins s σ H x y v u Q I rx ry h
  obtain ⟨π, d, e, M, r1, r2, m, o⟩ := h
  obtain ⟨t, et, q⟩ := boolR_out m o
  cases r2 <;> simp only [isD, Option.some.injEq, reduceCtorEq] at et
  subst et
  exact op_isN pins s σ H _ _ v u Q I rx ry ⟨rfl, by rw [non_iff r1]; exact q⟩
theorem op_isNot' : OpR X (compareOp .IsNot) (RD C (boolR fun x y _ => (isD x y).map (!·))) := by
  intro pins s σ H x y v u Q I rx ry h
  obtain ⟨π, d, e, M, r1, r2, m, o⟩ := h
  obtain ⟨t, et, q⟩ := boolR_out m o
  cases r2 <;> simp only [isD, Option.map_some, Option.map_none, Option.some.injEq, reduceCtorEq] at et
  subst et
  exact op_notN pins s σ H _ _ v u Q I rx ry ⟨rfl, by rw [non_iff r1]; exact q⟩
theorem op_cmp' (hu : X.A.units + 100 < cLine) (op : CmpOp) : OpR X (compareOp op) (RD C (boolR (cmpD op))) := by
  cases op
  · exact op_eqD' hu
  · exact op_neD' hu
  · exact op_lt'
  · exact op_le'
  · exact op_gt'
  · exact op_ge'
  · exact op_is'
  · exact op_isNot'
  · exact op_in' hu
  · exact op_notIn' hu

/-! ### subscripts -/
theorem atI_rps {vs : List V} {ds : List D} (r : Rps π H vs ds) {i : Int} {d : D} (h : atI ds i = some d) : ∃ v, atI vs i = some v ∧ Rp π H v d := by
  unfold atI at h ⊢
  rw [r.length]
  cases e : ixN ds.length i with
  | none => rw [e] at h; cases h
  | some j =>
    rw [e] at h
    exact r.get h
def ixR (d e : D) (M : Mem) : Option (D × Mem) := (ixD d e M).map fun z => (z, M)
theorem ix_D (hu : X.A.units + 100 < cLine) : IxR X (RD C ixR) := by
  intro value slice pins s σ H x y v u Q I rx ry h hs
  obtain ⟨π, d, e, M, r1, r2, m, o⟩ := h
  obtain ⟨z, ez, o2⟩ : ∃ z, ixD d e M = some z ∧ OutO C π H (some (z, M)) (fun z _ π' H' => ∀ v, Rp π' H' v z → Q v H') := by
    unfold ixR at o
    cases h : ixD d e M with
    | none => rw [h] at o; exact o.elim
    | some z => rw [h] at o; exact ⟨z, rfl, o⟩
  cases r1 with
  | tup e1 q1 =>
    cases r2 with
    | int i =>
      obtain ⟨w, hw, rw'⟩ := atI_rps q1 (show atI _ i = some z from ez)
      exact ix_tup value slice pins s σ H _ _ v u Q I rx ry ⟨_, _, i, w, rfl, rfl, SqT.of e1, hw, OutO.ok o2 Le.refl m w rw'⟩ hs
    | _ => cases ez
  | str a =>
    cases r2 with
    | int i =>
      simp only [ixD] at ez
      split at ez
      · rename_i hl
        obtain ⟨c, hc, rfl⟩ := Option.map_eq_some_iff.mp ez
        exact ix_str value slice pins s σ H _ _ v u Q I rx ry ⟨a, i, c, rfl, rfl, hl, hc, OutO.ok o2 Le.refl m _ (.str _)⟩ hs
      · cases ez
    | _ => cases ez
  | @ref n a e1 =>
    simp only [ixD] at ez
    split at ez
    · rename_i lk ds hg
      cases r2 with
      | int i =>
        obtain ⟨vs, q1, hr⟩ := rd_lst m e1 hg
        obtain ⟨w, hw, rw'⟩ := atI_rps q1 (show atI _ i = some z from ez)
        exact ix_list value slice pins s σ H _ _ v u Q I rx ry ⟨_, _, i, w, rfl, rfl, .inl hr, hw, OutO.ok o2 Le.refl m w rw'⟩ hs
      | _ => cases ez
    · rename_i lk kvs hg
      split at ez
      · rename_i hk
        obtain ⟨H', oo, I', l, m', g, _, k1, k2⟩ := dict_get I m e1 hg hk r2
        obtain ⟨w, rfl, rw'⟩ := k1 z ez
        cases rx
        have fin : wpAny (model X.prog X.w) X.A (getItem (.ref a) u) (EP X pins σ Q) X.xe s := d_getItem (by omega) I' g ry fun w' s3 I3 rw2 => ⟨w, H', I3, rw2, OutO.ok o2 l m' w rw'⟩
        exact PyProof.Rows.tail_any (dict_typeIs I' g) PySem.F.slot_dict_getitem.lookup fin hs
      · cases ez
    · cases ez
  | _ => cases ez
end
end Mj

set_option Elab.async false
set_option linter.all false
set_option autoImplicit false
set_option maxRecDepth 100000
set_option maxHeartbeats 4000000
/-! Subscripts, slices, tests, and, or, not over data. -/
namespace Mj
open PySem PySem.Spec L2
section
variable {C : Cw} {W : WD} {X : Cx} {a b c e : Expr} {fa fb fc : Env → Mem → R D} {pos : Pos}
theorem top_of {f : D → D → Mem → Option (D × Mem)} {σv : L2.St} {H : Hp} {Q : VK} (h : TV C W (fun σ M => (fa σ M).bind fun x M1 => (fb σ M1).bind fun y M2 => R.lift (f x y M2)) σv H Q) : tOp (RD C f) (TV C W fa) (TV C W fb) σv H Q := by
  obtain ⟨π, σ, M, rs, mr, h⟩ := h
  exact ⟨π, σ, M, rs, mr, h.bind.imp fun x M1 π1 H1 l1 m1 o1 v1 r1 => ⟨π1, σ, M1, rs.mono l1, m1, o1.bind.imp fun y M2 π2 H2 l2 m2 o2 v2 r2 => ⟨π2, x, y, M2, r1.mono l2, r2, m2, o2.lift⟩⟩⟩
theorem de_ix (hu : X.A.units + 100 < cLine) (ha : PE X a (TV C W fa)) (hb : PE X b (TV C W fb)) (hs : PlainIx b) :
    PE X (.Subscript a b pos) (TV C W fun σ M => (fa σ M).bind fun x M1 => (fb σ M1).bind fun y M2 => R.opt (ixD x y M2) M2) :=
  (pe_ix (ix_D (C := C) hu) ha hb hs).imp fun _ _ _ h => top_of (by
    have e : ∀ x y M2, R.opt (ixD x y M2) M2 = R.lift (ixR x y M2) := fun x y M2 => by unfold ixR; cases ixD x y M2 <;> rfl
    simp only [e] at h; exact h)
/-! ### slices -/
def TPt (C : Cw) (W : WD) (fo : Env → Mem → R (Option Int)) : TO := fun σv H Q => ∃ π σ M, RS π H σv σ ∧ MR C π H M ∧ Out C (W.at σv) π H (fo σ M) (fun o _ _ H' => Q o H')
theorem _root_.L2.PO.imp {X : Cx} {e : Option Expr} {t t' : TO} (h : PO X e t) (k : ∀ σ H Q, t' σ H Q → t σ H Q) : PO X e t' := ⟨fun pins s σ H Q I q => h.run pins s σ H Q I (k _ _ _ q)⟩
theorem dpo_none : PO X none (TPt C W fun _ M => .ok none M) := po_none.imp fun _ _ _ ⟨π, σ, M, rs, mr, h⟩ => h.ok Le.refl mr
theorem dpo_some (ha : PE X a (TV C W fa)) : PO X (some a) (TPt C W fun σ M => (fa σ M).bind fun d M1 => match d with | .int i => .ok (some i) M1 | _ => .bad) :=
  (po_some ha).imp fun _ _ _ ⟨π, σ, M, rs, mr, h⟩ => ⟨π, σ, M, rs, mr, h.bind.imp fun d M1 π1 H1 l1 m1 o v r => by
    cases r with
    | int i => exact ⟨i, rfl, o.ok Le.refl m1⟩
    | _ => exact o.elim⟩
theorem cut_rps {π : List Addr} {H : Hp} {vs : List V} {ds : List D} (r : Rps π H vs ds) (lo hi : Option Int) : Rps π H (cutV vs lo hi) (cutD ds lo hi) := by
  unfold cutV cutD
  rw [r.length]
  exact Rps.take _ (Rps.drop _ r)
def rSlD (C : Cw) : V → Option Int → Option Int → Hp → VK → Prop := fun x lo hi H Q => ∃ π d M, Rp π H x d ∧ MR C π H M ∧ OutO C π H (slD d lo hi M) (fun z _ π' H' => ∀ v, Rp π' H' v z → Q v H')
theorem sl_D : SlR X (rSlD C) := by
  intro pins s σ H x v vl vu lo hi sl Q I rx hs pl pu h
  obtain ⟨π, d, M, r, m, o⟩ := h
  cases r with
  | tup e1 q1 =>
    simp only [slD] at o
    split at o
    · exact o.elim
    · rename_i hc
      refine sl_tup pins s σ H _ v vl vu lo hi sl Q I rx hs pl pu ⟨_, _, rfl, SqT.of e1, by rw [q1.length]; exact hc, fun p hp => ?_⟩
      obtain ⟨m2, l2⟩ := m.tuple hp
      exact OutO.ok o l2 m2 _ (.tup upd_same ((cut_rps q1 lo hi).mono l2))
  | str z =>
    simp only [slD] at o
    split at o
    · rename_i hl
      exact sl_str pins s σ H _ v vl vu lo hi sl Q I rx hs pl pu ⟨z, rfl, hl, OutO.ok o Le.refl m _ (.str _)⟩
    · exact o.elim
  | ref e1 =>
    simp only [slD] at o
    split at o
    · rename_i lk ds hg
      obtain ⟨vs, q1, hr⟩ := rd_lst m e1 hg
      refine sl_list pins s σ H _ v vl vu lo hi sl Q I rx hs pl pu ⟨_, vs, rfl, .inl hr, fun p hp => ?_⟩
      obtain ⟨m2, l2, r2⟩ := new_list m hp (cut_rps q1 lo hi)
      exact OutO.ok o l2 m2 _ r2
    · exact o.elim
  | _ => exact o.elim
theorem de_sl {lo hi : Option Expr} {fl fh : Env → Mem → R (Option Int)} {p2 : Pos} (ha : PE X a (TV C W fa)) (hl : PO X lo (TPt C W fl)) (hh : PO X hi (TPt C W fh)) :
    PE X (.Subscript a (.Slice lo hi none p2) pos) (TV C W fun σ M => (fa σ M).bind fun x M1 => (fl σ M1).bind fun l M2 => (fh σ M2).bind fun h M3 => R.lift (slD x l h M3)) :=
  (pe_slice (sl_D (C := C)) ha hl hh).imp fun _ _ _ ⟨π, σ, M, rs, mr, h⟩ => ⟨π, σ, M, rs, mr, h.bind.imp fun x M1 π1 H1 l1 m1 o1 v1 r1 =>
    ⟨π1, σ, M1, rs.mono l1, m1, o1.bind.imp fun l M2 π2 H2 l2 m2 o2 => ⟨π2, σ, M2, (rs.mono l1).mono l2, m2, o2.bind.imp fun h M3 π3 H3 l3 m3 o3 => ⟨π3, x, M3, (r1.mono l2).mono l3, m3, o3.lift⟩⟩⟩⟩
/-! ### truth -/
theorem truth_of {K : PySem.W.Frag} {π : List Addr} {H : Hp} {M : Mem} {v : V} {d : D} {t : Bool} (r : Rp π H v d) (m : MR C π H M) (h : truthD d M = some t) : TruV K v H t := by
  cases r with
  | non => simp only [truthD, Option.some.injEq] at h; exact h.symm
  | bl b => simp only [truthD, Option.some.injEq] at h; exact h.symm
  | int i => simp only [truthD, Option.some.injEq] at h; exact h.symm
  | str x =>
    simp only [truthD] at h
    split at h
    · rename_i hl
      cases h
      refine ⟨hl, ?_⟩
      rw [Bool.eq_iff_iff]; simp
    · cases h
  | tup e r =>
    simp only [truthD, Option.some.injEq] at h; subst h
    refine .inr (.inl ⟨_, SqT.of e, ?_⟩)
    cases r <;> rfl
  | ref e =>
    simp only [truthD] at h
    split at h
    · rename_i lk ds hg
      cases h
      obtain ⟨vs, rr, hr⟩ := rd_lst m e hg
      refine .inl ⟨vs, .inl hr, ?_⟩
      cases rr <;> rfl
    · cases h
/-- the value's truth as a result -/
def trR (x : D) (M : Mem) : R Bool := R.opt (truthD x M) M
theorem tru_out {π : List Addr} {H : Hp} {M : Mem} {v : V} {d : D} {Q : Bool → Mem → List Addr → Hp → Prop} (K : PySem.W.Frag) (r : Rp π H v d) (m : MR C π H M) {W' : WE} (o : Out C W' π H (trR d M) Q) : ∃ t, TruV K v H t ∧ Q t M π H := by
  obtain ⟨t, et, o2⟩ := Out.opt o
  exact ⟨t, truth_of r m et, o2.ok Le.refl m⟩
def plainTest : Expr → Bool
  | .UnaryOp .Not _ _ => false
  | .BoolOp _ _ _ => false
  | .IfExp _ _ _ _ => false
  | .Compare _ _ _ _ => false
  | _ => true
theorem isTrue_other {e : Expr} (h : plainTest e = true) (env : PySem.Env) : ∀ whole, isTrue e env whole = (do let v ← whole; standAt e.pos; holding [v] (truthy v)) := by
  intro whole
  cases e <;> first
    | (simp [plainTest] at h; done)
    | rfl
    | (rename_i op _ _; cases op <;> first | (simp [plainTest] at h; done) | rfl)
theorem dt_plain (ha : PE X e (TV C W fa)) (h : plainTest e = true) : PT X e (TB C W fun σ M => (fa σ M).bind trR) :=
  (pt_truth ha (isTrue_other h X.env)).imp fun _ _ _ ⟨π, σ, M, rs, mr, h⟩ => ⟨π, σ, M, rs, mr, h.bind.imp fun x M1 π1 H1 l1 m1 o1 v1 r1 => tru_out X.K r1 m1 o1⟩
/-- an operation that answers by a bool -/
def RB (C : Cw) (f : D → D → Mem → Option Bool) : R2 := fun x y H Q => ∃ π d e M t, Rp π H x d ∧ Rp π H y e ∧ MR C π H M ∧ f d e M = some t ∧ ∀ π' H', Le π H π' H' → MR C π' H' M → Q (.bl t) H'
theorem op_RB {op : CmpOp} {f : D → D → Mem → Option Bool} (ho : OpR X (compareOp op) (RD C (boolR f))) : OpR X (compareOp op) (RB C f) := by
  intro pins s σ H x y v u Q I rx ry ⟨π, d, e, M, t, r1, r2, m, et, o⟩
  refine ho pins s σ H x y v u Q I rx ry ⟨π, d, e, M, r1, r2, m, ?_⟩
  unfold boolR
  rw [et]
  intro π' H' l m' v r
  cases r
  exact o π' H' l m'
theorem dt_cmp {op : CmpOp} {f : D → D → Mem → Option Bool} (ho : OpR X (compareOp op) (RD C (boolR f))) (ha : PE X a (TV C W fa)) (hb : PE X b (TV C W fb)) (hm : behindInMarks op b = false) :
    PT X (.Compare a [op] [b] pos) (TB C W fun σ M => (fa σ M).bind fun x M1 => (fb σ M1).bind fun y M2 => R.opt (f x y M2) M2) :=
  (pt_cmpR (op_RB ho) ha hb hm).imp fun _ _ _ ⟨π, σ, M, rs, mr, h⟩ => ⟨π, σ, M, rs, mr, h.bind.imp fun x M1 π1 H1 l1 m1 o1 v1 r1 =>
    ⟨π1, σ, M1, rs.mono l1, m1, o1.bind.imp fun y M2 π2 H2 l2 m2 o2 v2 r2 => by
      obtain ⟨t, et, o3⟩ := o2.opt
      exact ⟨π2, x, y, M2, t, r1.mono l2, r2, m2, et, fun π' H' l m => ⟨t, rfl, o3.ok l m⟩⟩⟩⟩
/-- a < b < c -/
theorem dt_cmp2 {op op' : CmpOp} {f f' : D → D → Mem → Option Bool} (ho : OpR X (compareOp op) (RD C (boolR f))) (ho' : OpR X (compareOp op') (RD C (boolR f'))) (ha : PE X a (TV C W fa)) (hb : PE X b (TV C W fb)) (hc : PE X c (TV C W fc)) (hm : behindInMarks op b = false) (hm' : behindInMarks op' c = false)
    (hp : PT X (.Compare a [op, op'] [b, c] pos) (tTest (tChain (RB C f) (RB C f') (TV C W fa) (TV C W fb) (TV C W fc)))) :
    PT X (.Compare a [op, op'] [b, c] pos) (TB C W fun σ M => (fa σ M).bind fun x M1 => (fb σ M1).bind fun y M2 => (R.opt (f x y M2) M2).bind fun t M3 => if t then (fc σ M3).bind fun z M4 => R.opt (f' y z M4) M4 else .ok false M3) :=
  hp.imp fun _ _ _ ⟨π, σ, M, rs, mr, h⟩ => ⟨π, σ, M, rs, mr, h.bind.imp fun x M1 π1 H1 l1 m1 o1 v1 r1 =>
    ⟨π1, σ, M1, rs.mono l1, m1, o1.bind.imp fun y M2 π2 H2 l2 m2 o2 v2 r2 => by
      obtain ⟨t, et, o3⟩ := o2.bind.opt
      refine ⟨π2, x, y, M2, t, r1.mono l2, r2, m2, et, fun π3 H3 l3 m3 => ⟨t, rfl, ?_⟩⟩
      have o4 := o3.ok l3 m3
      cases t with
      | true =>
        simp only [if_true] at o4 ⊢
        exact ⟨π3, σ, M2, ((rs.mono l1).mono l2).mono l3, m3, o4.bind.imp fun z M4 π4 H4 l4 m4 o5 v4 r4 => by
          obtain ⟨t', et', o6⟩ := o5.opt
          exact ⟨π4, y, z, M4, t', (r2.mono l3).mono l4, r4, m4, et', fun π' H' l m => ⟨t', rfl, o6.ok l m⟩⟩⟩
      | false => exact ⟨false, rfl, o4.ok Le.refl m3⟩⟩⟩
variable {ga gb : Env → Mem → R Bool} {rest : List Expr}
theorem dt_not (ha : PT X a (TB C W ga)) : PT X (.UnaryOp .Not a pos) (TB C W fun σ M => (ga σ M).bind fun t M1 => .ok (!t) M1) :=
  (pt_not ha).imp fun _ _ _ ⟨π, σ, M, rs, mr, h⟩ => ⟨π, σ, M, rs, mr, h.bind.imp fun t M1 π1 H1 l1 m1 o1 => o1.ok Le.refl m1⟩
theorem dw_and (ha : PT X a (TB C W ga)) (hb : PW X (.BoolOp .And (b :: rest) pos) (TB C W gb)) : PW X (.BoolOp .And (a :: b :: rest) pos) (TB C W fun σ M => (ga σ M).bind fun t M1 => if t then gb σ M1 else .ok false M1) :=
  (pw_and ha hb).imp fun _ _ _ ⟨π, σ, M, rs, mr, h⟩ => ⟨π, σ, M, rs, mr, h.bind.imp fun t M1 π1 H1 l1 m1 o1 => by
    cases t with
    | true => exact ⟨π1, σ, M1, rs.mono l1, m1, o1⟩
    | false => exact o1.ok Le.refl m1⟩
theorem dw_or (ha : PT X a (TB C W ga)) (hb : PW X (.BoolOp .Or (b :: rest) pos) (TB C W gb)) : PW X (.BoolOp .Or (a :: b :: rest) pos) (TB C W fun σ M => (ga σ M).bind fun t M1 => if t then .ok true M1 else gb σ M1) :=
  (pw_or ha hb).imp fun _ _ _ ⟨π, σ, M, rs, mr, h⟩ => ⟨π, σ, M, rs, mr, h.bind.imp fun t M1 π1 H1 l1 m1 o1 => by
    cases t with
    | true => exact o1.ok Le.refl m1
    | false => exact ⟨π1, σ, M1, rs.mono l1, m1, o1⟩⟩
/-! ### and, or, not, a if c else b as values -/
theorem de_and (ha : PE X a (TV C W fa)) (hb : PE X (.BoolOp .And (b :: rest) pos) (TV C W fb)) : PE X (.BoolOp .And (a :: b :: rest) pos) (TV C W fun σ M => (fa σ M).bind fun x M1 => (trR x M1).bind fun t M2 => if t then fb σ M2 else .ok x M2) :=
  (pe_andT ha hb).imp fun _ _ _ ⟨π, σ, M, rs, mr, h⟩ => ⟨π, σ, M, rs, mr, h.bind.imp fun x M1 π1 H1 l1 m1 o1 v1 r1 => by
    obtain ⟨t, tv, o2⟩ := tru_out X.K r1 m1 o1.bind
    refine ⟨t, tv, ?_⟩
    cases t with
    | true => exact ⟨π1, σ, M1, rs.mono l1, m1, o2⟩
    | false => exact o2.ok Le.refl m1 v1 r1⟩
theorem de_or (ha : PE X a (TV C W fa)) (hb : PE X (.BoolOp .Or (b :: rest) pos) (TV C W fb)) : PE X (.BoolOp .Or (a :: b :: rest) pos) (TV C W fun σ M => (fa σ M).bind fun x M1 => (trR x M1).bind fun t M2 => if t then .ok x M2 else fb σ M2) :=
  (pe_orT ha hb).imp fun _ _ _ ⟨π, σ, M, rs, mr, h⟩ => ⟨π, σ, M, rs, mr, h.bind.imp fun x M1 π1 H1 l1 m1 o1 v1 r1 => by
    obtain ⟨t, tv, o2⟩ := tru_out X.K r1 m1 o1.bind
    refine ⟨t, tv, ?_⟩
    cases t with
    | true => exact o2.ok Le.refl m1 v1 r1
    | false => exact ⟨π1, σ, M1, rs.mono l1, m1, o2⟩⟩
theorem de_not (ha : PE X a (TV C W fa)) : PE X (.UnaryOp .Not a pos) (TV C W fun σ M => (fa σ M).bind fun x M1 => (trR x M1).bind fun t M2 => .ok (.bl (!t)) M2) :=
  (pe_notT ha).imp fun _ _ _ ⟨π, σ, M, rs, mr, h⟩ => ⟨π, σ, M, rs, mr, h.bind.imp fun x M1 π1 H1 l1 m1 o1 v1 r1 => by
    obtain ⟨t, tv, o2⟩ := tru_out X.K r1 m1 o1.bind
    exact ⟨t, tv, o2.ok Le.refl m1 _ (.bl _)⟩⟩
theorem de_ife (hc : PT X c (TB C W ga)) (ha : PE X a (TV C W fa)) (hb : PE X b (TV C W fb)) : PE X (.IfExp c a b pos) (TV C W fun σ M => (ga σ M).bind fun t M1 => if t then fa σ M1 else fb σ M1) :=
  (pe_ifExp hc ha hb).imp fun _ _ _ ⟨π, σ, M, rs, mr, h⟩ => ⟨π, σ, M, rs, mr, h.bind.imp fun t M1 π1 H1 l1 m1 o1 => by
    cases t with
    | true => exact ⟨π1, σ, M1, rs.mono l1, m1, o1⟩
    | false => exact ⟨π1, σ, M1, rs.mono l1, m1, o1⟩⟩
theorem de_neg (ha : PE X a (TV C W fa)) : PE X (.UnaryOp .USub a pos) (TV C W fun σ M => (fa σ M).bind fun x M1 => match x with | .int i => .ok (.int (-i)) M1 | _ => .bad) :=
  (pe_un un_neg ha).imp fun _ _ _ ⟨π, σ, M, rs, mr, h⟩ => ⟨π, σ, M, rs, mr, h.bind.imp fun x M1 π1 H1 l1 m1 o1 v1 r1 => by
    cases r1 with
    | int i => exact ⟨i, rfl, o1.ok Le.refl m1 _ (.int _)⟩
    | _ => exact o1.elim⟩
theorem de_boolR {op : CmpOp} {f : D → D → Mem → Option Bool} (ho : OpR X (compareOp op) (RD C (boolR f))) (ha : PE X a (TV C W fa)) (hb : PE X b (TV C W fb)) (hm : behindInMarks op b = false) :
    PE X (.Compare a [op] [b] pos) (TV C W fun σ M => (fa σ M).bind fun x M1 => (fb σ M1).bind fun y M2 => (R.opt (f x y M2) M2).bind fun t M3 => .ok (.bl t) M3) := by
  have k := de_cmp (pos := pos) (W := W) ho ha hb hm
  have e : ∀ x y M2, R.lift (boolR f x y M2) = (R.opt (f x y M2) M2).bind fun t M3 => .ok (.bl t) M3 := fun x y M2 => by unfold boolR; cases f x y M2 <;> rfl
  simp only [e] at k
  exact k
/-! ### calls of built-ins -/
def RCs (C : Cw) (f : List D → Mem → Option (D × Mem)) : List V → Hp → VK → Prop := fun vs H Q => ∃ π ds M, Rps π H vs ds ∧ MR C π H M ∧ OutO C π H (f ds M) (fun z _ π' H' => ∀ v, Rp π' H' v z → Q v H')
theorem de_call {id : String} {x : Str} {p : Pos} {es : List Expr} {fs : Env → Mem → R (List D)} {f : List D → Mem → Option (D × Mem)} (hc : CallR X (.builtin id) (RCs C f)) (hg : Gl X x) (hm : X.mg x = none) (hv : bootBuiltins x = some (.builtin id)) (ha : PA X (e :: es) (TAs C W fs)) (hn : x ≠ "__name__") (hdb : (x == ("__debug__" : Str)) = false)
    (he : starEach (e :: es) X.env = (false, eval e X.env) :: starEach es X.env) (hpl : (backTo pos (starEach es X.env)).any (·.1) = false) : PE X (.Call (.Name x p) (e :: es) [] pos) (TV C W fun σ M => (fs σ M).bind fun xs M1 => R.lift (f xs M1)) :=
  (pe_callB hc hg hm hv ha hn hdb he hpl).imp fun _ _ _ ⟨π, σ, M, rs, mr, h⟩ => ⟨π, σ, M, rs, mr, h.bind.imp fun ds M1 π1 H1 l1 m1 o1 vs r1 => ⟨π1, ds, M1, r1, m1, o1.lift⟩⟩
theorem de_callTy {T : String} {x : Str} {p : Pos} {es : List Expr} {fs : Env → Mem → R (List D)} {f : List D → Mem → Option (D × Mem)} (hc : CallR X (.type T) (RCs C f)) (hg : Gl X x) (hm : X.mg x = none) (hv : bootBuiltins x = some (.type T)) (ha : PA X (e :: es) (TAs C W fs)) (hn : x ≠ "__name__") (hdb : (x == ("__debug__" : Str)) = false)
    (he : starEach (e :: es) X.env = (false, eval e X.env) :: starEach es X.env) (hpl : (backTo pos (starEach es X.env)).any (·.1) = false) : PE X (.Call (.Name x p) (e :: es) [] pos) (TV C W fun σ M => (fs σ M).bind fun xs M1 => R.lift (f xs M1)) :=
  (pe_callTy hc hg hm hv ha hn hdb he hpl).imp fun _ _ _ ⟨π, σ, M, rs, mr, h⟩ => ⟨π, σ, M, rs, mr, h.bind.imp fun ds M1 π1 H1 l1 m1 o1 vs r1 => ⟨π1, ds, M1, r1, m1, o1.lift⟩⟩
end
end Mj

set_option Elab.async false
set_option linter.all false
set_option autoImplicit false
set_option maxRecDepth 100000
set_option maxHeartbeats 4000000
/-! Built-in functions over data. -/
namespace Mj
open PySem PySem.Spec L2
section
variable {C : Cw} {X : Cx}
theorem rps1 {π : List Addr} {H : Hp} {vs : List V} {d : D} (r : Rps π H vs [d]) : ∃ v, vs = [v] ∧ Rp π H v d := by
  cases r with
  | cons h t => cases t; exact ⟨_, rfl, h⟩
theorem rps2 {π : List Addr} {H : Hp} {vs : List V} {d e : D} (r : Rps π H vs [d, e]) : ∃ v w, vs = [v, w] ∧ Rp π H v d ∧ Rp π H w e := by
  cases r with
  | cons h t => obtain ⟨w, rfl, h2⟩ := rps1 t; exact ⟨_, w, rfl, h, h2⟩
theorem rd_dct {π : List Addr} {H : Hp} {M : Mem} {n : Nat} {a : Addr} {lk : Bool} {kvs : List (D × D)} (m : MR C π H M) (e : π[n]? = some a) (hg : M.get n = some (.dct lk kvs)) : ∃ u, DR π H u kvs ∧ Rd H a u := by
  obtain ⟨vs, r, ho⟩ := m.at hg e
  refine ⟨vs, r, ?_⟩
  cases lk with
  | true => exact .inr ho
  | false => exact .inl ho
theorem len_dR {pins : List (Addr × Obj)} {σ : L2.St} {H : Hp} {s : Shared} {π : List Addr} {a : Addr} {u : HO} {kvs : List (D × D)} {Q : VK} (I : Inv X pins σ H s) (r : DR π H u kvs) (rd : Rd H a u) (q : Q (.int kvs.length) H) :
    wpAny (model X.prog X.w) X.A (call (.builtin "len") [.ref a]) (EP X pins σ Q) X.xe s := by
  cases r with
  | k r =>
    refine d_len I rd fun t s' I' => ⟨.int kvs.length, H, I', ⟨t, by rw [r.length]⟩, q⟩
  | t r =>
    obtain ⟨z, hd, ys, rel, dd⟩ := dt_rd I.hok rd
    have hl := Paired.length rel
    refine call_len_dictH hd dd (by rw [← hl]; rw [sizeLine_eq] at z; omega) ?_
    exact ⟨.int kvs.length, H, I.tok _, ⟨_, by rw [← hl, r.length]⟩, q⟩
theorem bi_len : CallR X (.builtin "len") (RCs C (biD .len)) := by
  intro pins s σ H xs us Q I r h
  obtain ⟨π, ds, M, rd, m, o⟩ := h
  match ds, rd, o with
  | [], rd, o => exact o.elim
  | _ :: _ :: _, rd, o => exact o.elim
  | [d], rd, o =>
    obtain ⟨v, rfl, r1⟩ := rps1 rd
    cases r1 with
    | str z =>
      simp only [biD] at o
      split at o
      · rename_i hl
        exact call_len pins s σ H _ us Q I r ⟨_, z.length, rfl, ⟨hl, rfl⟩, OutO.ok o Le.refl m _ (.int _)⟩
      · exact o.elim
    | tup e q =>
      refine call_len pins s σ H _ us Q I r ⟨_, _, rfl, .inr ⟨_, SqT.of e, rfl⟩, ?_⟩
      rw [q.length]
      exact OutO.ok o Le.refl m _ (.int _)
    | ref e =>
      simp only [biD] at o
      split at o
      · rename_i lk es hg
        obtain ⟨vs, q, hr⟩ := rd_lst m e hg
        refine call_len pins s σ H _ us Q I r ⟨_, _, rfl, .inl ⟨_, .inl hr, rfl⟩, ?_⟩
        rw [q.length]
        exact OutO.ok o Le.refl m _ (.int _)
      · rename_i lk kvs hg
        obtain ⟨u, q, hr⟩ := rd_dct m e hg
        obtain ⟨w, rfl, rw'⟩ := vals1 r
        cases rw'
        exact len_dR I q hr (OutO.ok o Le.refl m _ (.int _))
      · exact o.elim
    | _ => exact o.elim
theorem bi_abs : CallR X (.builtin "abs") (RCs C (biD .abs)) := by
  intro pins s σ H xs us Q I r h
  obtain ⟨π, ds, M, rd, m, o⟩ := h
  match ds, rd, o with
  | [.int i], rd, o =>
    obtain ⟨v, rfl, r1⟩ := rps1 rd
    cases r1
    exact call_abs pins s σ H _ us Q I r ⟨i, rfl, OutO.ok o Le.refl m _ (.int _)⟩
theorem bi_max2 (hc : X.calm = true) : CallR X (.builtin "max") (RCs C (biD .max2)) := by
  intro pins s σ H xs us Q I r h
  obtain ⟨π, ds, M, rd, m, o⟩ := h
  match ds, rd, o with
  | [.int i, .int j], rd, o =>
    obtain ⟨v, w, rfl, r1, r2⟩ := rps2 rd
    cases r1; cases r2
    exact call_max2 hc pins s σ H _ us Q I r ⟨i, j, rfl, OutO.ok o Le.refl m _ (.int _)⟩
theorem bi_min2 (hc : X.calm = true) : CallR X (.builtin "min") (RCs C (biD .min2)) := by
  intro pins s σ H xs us Q I r h
  obtain ⟨π, ds, M, rd, m, o⟩ := h
  match ds, rd, o with
  | [.int i, .int j], rd, o =>
    obtain ⟨v, w, rfl, r1, r2⟩ := rps2 rd
    cases r1; cases r2
    exact call_min2 hc pins s σ H _ us Q I r ⟨i, j, rfl, OutO.ok o Le.refl m _ (.int _)⟩
theorem bi_int : CallR X (.type "int") (RCs C (biD .int)) := by
  intro pins s σ H xs us Q I r h
  obtain ⟨π, ds, M, rd, m, o⟩ := h
  match ds, rd, o with
  | [.int i], rd, o =>
    obtain ⟨v, rfl, r1⟩ := rps1 rd
    cases r1
    exact call_int1 pins s σ H _ us Q I r (.inl ⟨i, rfl, OutO.ok o Le.refl m _ (.int _)⟩)
  | [.bl k], rd, o =>
    obtain ⟨v, rfl, r1⟩ := rps1 rd
    cases r1
    exact call_int1 pins s σ H _ us Q I r (.inr ⟨k, rfl, OutO.ok o Le.refl m _ (.int _)⟩)
  | [.str z], rd, o =>
    obtain ⟨v, rfl, r1⟩ := rps1 rd
    cases r1
    simp only [biD] at o
    split at o
    · rename_i n hn
      split at o
      · rename_i hl
        exact call_int_str pins s σ H _ us Q I r ⟨z, n, rfl, hn, hl, OutO.ok o Le.refl m _ (.int _)⟩
      · exact o.elim
    · exact o.elim
theorem bi_str : CallR X (.type "str") (RCs C (biD .str)) := by
  intro pins s σ H xs us Q I r h
  obtain ⟨π, ds, M, rd, m, o⟩ := h
  match ds, rd, o with
  | [.int i], rd, o =>
    obtain ⟨v, rfl, r1⟩ := rps1 rd
    cases r1
    simp only [biD] at o
    split at o
    · rename_i hl
      exact call_str_int pins s σ H _ us Q I r ⟨i, rfl, hl, OutO.ok o Le.refl m _ (.str _)⟩
    · exact o.elim
theorem bi_ord : CallR X (.builtin "ord") (RCs C (biD .ord)) := by
  intro pins s σ H xs us Q I r h
  obtain ⟨π, ds, M, rd, m, o⟩ := h
  match ds, rd, o with
  | [.str z], rd, o =>
    obtain ⟨v, rfl, r1⟩ := rps1 rd
    cases r1
    simp only [biD] at o
    split at o
    · rename_i hl
      exact call_ord pins s σ H _ us Q I r ⟨z, rfl, hl, OutO.ok o Le.refl m _ (.int _)⟩
    · exact o.elim
theorem bi_list : CallR X (.type "list") (RCs C (biD .list)) := by
  intro pins s σ H xs us Q I r h
  obtain ⟨π, ds, M, rd, m, o⟩ := h
  match ds, rd, o with
  | [], rd, o => exact o.elim
  | _ :: _ :: _, rd, o => exact o.elim
  | [d], rd, o =>
    obtain ⟨v, rfl, r1⟩ := rps1 rd
    cases r1 with
    | tup e q =>
      refine call_list_of pins s σ H _ us Q I r ⟨_, _, rfl, .inr (SqT.of e), fun p hp => ?_⟩
      obtain ⟨m2, l2, r2⟩ := new_list m hp q
      exact OutO.ok o l2 m2 _ r2
    | ref e =>
      simp only [biD] at o
      split at o
      · rename_i lk es hg
        obtain ⟨vs, q, hr⟩ := rd_lst m e hg
        refine call_list_of pins s σ H _ us Q I r ⟨_, _, rfl, .inl (.inl hr), fun p hp => ?_⟩
        obtain ⟨m2, l2, r2⟩ := new_list m hp q
        exact OutO.ok o l2 m2 _ r2
      · exact o.elim
    | _ => exact o.elim
theorem bi_tuple : CallR X (.type "tuple") (RCs C (biD .tuple)) := by
  intro pins s σ H xs us Q I r h
  obtain ⟨π, ds, M, rd, m, o⟩ := h
  match ds, rd, o with
  | [], rd, o => exact o.elim
  | _ :: _ :: _, rd, o => exact o.elim
  | [d], rd, o =>
    obtain ⟨v, rfl, r1⟩ := rps1 rd
    cases r1 with
    | tup e q =>
      exact call_tuple_of pins s σ H _ us Q I r ⟨_, _, rfl, .inr ⟨SqT.of e, OutO.ok o Le.refl m _ (.tup e q)⟩⟩
    | ref e =>
      simp only [biD] at o
      split at o
      · rename_i lk es hg
        obtain ⟨vs, q, hr⟩ := rd_lst m e hg
        refine call_tuple_of pins s σ H _ us Q I r ⟨_, _, rfl, .inl ⟨.inl hr, fun p hp => ?_⟩⟩
        obtain ⟨m2, l2⟩ := m.tuple (vs := vs) hp
        exact OutO.ok o l2 m2 _ (.tup upd_same (q.mono l2))
      · exact o.elim
    | _ => exact o.elim

/-! ### sorted -/
mutual
theorem reads_of {pins : List (Addr × Obj)} {σ : L2.St} {H : Hp} {s : Shared} {π : List Addr} (I : Inv X pins σ H s) : ∀ {d : D} {v : V} {u : Value}, d.nr = true → Rp π H v d → RelV v u → ∃ as, Reads s.heap u (encD d) as
  | .non, _, _, _, .non, r => by cases r; exact ⟨_, .none⟩
  | .bl b, _, _, _, .bl _, r => by cases r; exact ⟨_, .bool b⟩
  | .int i, _, _, _, .int _, r => by obtain ⟨t, rfl⟩ := r; exact ⟨_, .int i t⟩
  | .str x, _, _, _, .str _, r => by obtain ⟨t, rfl⟩ := r; exact ⟨_, .str x t⟩
  | .tup ds, _, _, h, .tup e q, r => by
    cases r
    obtain ⟨its, rr, ⟨o, h1, h2, n, h3⟩⟩ := isTup_of I e
    obtain ⟨as, k⟩ := readss_of I (by simpa [D.nr] using h) q rr
    exact ⟨_, .tuple h1 h2 h3 (by simpa using k)⟩
  | .ref _, _, _, h, _, _ => by simp [D.nr] at h
theorem readss_of {pins : List (Addr × Obj)} {σ : L2.St} {H : Hp} {s : Shared} {π : List Addr} (I : Inv X pins σ H s) : ∀ {ds : List D} {vs : List V} {us : List Value}, D.nrs ds = true → Rps π H vs ds → Vals vs us → ∃ as, ReadsAll s.heap us (encDs ds) as
  | [], _, _, _, .nil, .nil => ⟨_, .nil⟩
  | d :: ds, _, _, h, .cons h1 t1, .cons h2 t2 => by
    simp only [D.nrs, Bool.and_eq_true] at h
    obtain ⟨as, k1⟩ := reads_of I h.1 h1 h2
    obtain ⟨bs, k2⟩ := readss_of I h.2 t1 t2
    exact ⟨_, .cons k1 k2⟩
end
mutual
theorem encD_depth : ∀ d : D, (encD d).depth = d.depth
  | .non => by simp [encD, PyData.depth, D.depth]
  | .bl _ => by simp [encD, PyData.depth, D.depth]
  | .int _ => by simp [encD, PyData.depth, D.depth]
  | .str _ => by simp [encD, PyData.depth, D.depth]
  | .tup ds => by simp only [encD, PyData.depth, D.depth, encDs_depth ds]
  | .ref _ => by simp [encD, PyData.depth, D.depth]
theorem encDs_depth : ∀ ds : List D, PyData.depthAll (encDs ds) = D.depths ds
  | [] => by simp [encDs, PyData.depthAll, D.depths]
  | d :: ds => by simp only [encDs, PyData.depthAll, D.depths, encD_depth d, encDs_depth ds]
end
theorem nrs_mem : ∀ {ds : List D} {d : D}, D.nrs ds = true → d ∈ ds → d.nr = true
  | x :: xs, d, h, hm => by
    simp only [D.nrs, Bool.and_eq_true] at h
    rcases List.mem_cons.mp hm with e | e
    · rw [e]; exact h.1
    · exact nrs_mem h.2 e
theorem each_zip {H : Hp} {π : List Addr} : ∀ {vs : List V} {us : List Value} {ds : List D}, Vals vs us → Rps π H vs ds → PySem.W.EachIs (fun (u : Value) (p : V × D) => RelV p.1 u ∧ Rp π H p.1 p.2) us (vs.zip ds)
  | _, _, _, .nil, .nil => .nil
  | _, _, _, .cons r t, .cons h k => .cons ⟨r, h⟩ (each_zip t k)
theorem each_un {H : Hp} {π : List Addr} : ∀ {us : List Value} {bs : List (V × D)}, PySem.W.EachIs (fun (u : Value) (p : V × D) => RelV p.1 u ∧ Rp π H p.1 p.2) us bs → Vals (bs.map (·.1)) us ∧ Rps π H (bs.map (·.1)) (bs.map (·.2))
  | _, _, .nil => ⟨.nil, .nil⟩
  | _, _, .cons h t => by
    obtain ⟨k1, k2⟩ := each_un t
    exact ⟨.cons h.1 k1, .cons h.2 k2⟩
theorem zip_snd {α β : Type} : ∀ {as : List α} {bs : List β}, as.length = bs.length → (as.zip bs).map (·.2) = bs
  | [], [], _ => rfl
  | a :: as, b :: bs, h => by simp only [List.zip_cons_cons, List.map_cons]; rw [zip_snd (by simpa using h)]
theorem bi_sorted (hu : X.A.units + 100 < cLine) : CallR X (.builtin "sorted") (RCs C (biD .sorted)) := by
  intro pins s σ H xs us Q I r h
  obtain ⟨π, ds, M, rd, m, o⟩ := h
  match ds, rd, o with
  | [], rd, o => exact o.elim
  | [.non], rd, o => exact o.elim
  | [.bl _], rd, o => exact o.elim
  | [.int _], rd, o => exact o.elim
  | [.str _], rd, o => exact o.elim
  | [.tup _], rd, o => exact o.elim
  | _ :: _ :: _, rd, o => simp [biD, OutO] at o
  | [.ref n], rd, o =>
    obtain ⟨v, rfl, r1⟩ := rps1 rd
    cases r1 with
    | @ref n a e =>
    obtain ⟨w, rfl, rw'⟩ := vals1 r
    cases rw'
    simp only [biD] at o
    split at o
    · rename_i lk es hg
      split at o
      · rename_i zs hz
        obtain ⟨vs, q, hr⟩ := rd_lst m e hg
        obtain ⟨its, rv, hl⟩ := isList_of I hr
        unfold sortD at hz
        split at hz
        · rename_i hsb
          cases hz
          unfold sortable at hsb
          simp only [Bool.and_eq_true, decide_eq_true_eq, Bool.or_eq_true, List.all_eq_true] at hsb
          obtain ⟨⟨⟨⟨h1, h2⟩, h3⟩, h4⟩, h5⟩ := hsb
          have lz : (vs.zip es).length = es.length := by simp [List.length_zip, q.length]
          have memE : ∀ p, p ∈ vs.zip es → p.2 ∈ es := fun p hp => (List.of_mem_zip (a := p.1) (b := p.2) (by simpa using hp)).2
          have ez := each_zip rv q
          have er : PySem.W.EachIs (fun (u : Value) (p : V × D) => ∃ as, Reads s.heap u (encD p.2) as) its (vs.zip es) :=
            (PySem.W.each_mem ez).mono fun u p ⟨⟨k1, k2⟩, hp⟩ => reads_of I (nrs_mem h2 (memE p hp)) k2 k1
          refine PySem.W.sorted_data (bs := vs.zip es) (enc := fun p => encD p.2) hl ez er ?_ ?_ (by rw [lz]; exact h5) (fun p hp => ?_) fun out hlo eo => ?_
          · intro d hd d' hd'
            obtain ⟨p, hp, rfl⟩ := List.mem_map.mp hd
            obtain ⟨p', hp', rfl⟩ := List.mem_map.mp hd'
            exact h1 _ (memE p hp) _ (memE p' hp')
          · rcases h4 with h4 | h4
            · refine .inl fun d hd => ?_
              obtain ⟨p, hp, rfl⟩ := List.mem_map.mp hd
              have := h4 _ (memE p hp)
              revert this
              cases p.2 <;> simp [isSeqKey]
              rename_i ds'
              cases ds' <;> simp [isSeqKey, encD, encDs]
            · refine .inr fun d hd => ?_
              obtain ⟨p, hp, rfl⟩ := List.mem_map.mp hd
              have := h4 _ (memE p hp)
              revert this
              cases p.2 <;> simp [isScaKey, encD]
          · have := D.depths_mem (memE p hp)
            rw [encD_depth]; omega
          · obtain ⟨k1, k2⟩ := each_un eo
            have e1 : ((vs.zip es).mergeSort (PySem.W.dataLe false fun p => encD p.2)).map (·.2) = es.mergeSort D.le := by
              refine (List.map_mergeSort (s := D.le) (f := fun (p : V × D) => p.2) (fun a _ b _ => rfl)).trans ?_
              rw [zip_snd q.length]
            rw [e1] at k2
            have hp : H (s.heap.objs.size + 1) = none := I.hok.fresh (Nat.le_succ _)
            obtain ⟨m2, l2, r2⟩ := new_list m hp k2
            obtain ⟨ep, he'⟩ := PyProof.Rows.sortedAll_at s.heap its out.toArray
            have len : (((vs.zip es).mergeSort (PySem.W.dataLe false fun p => encD p.2)).map (·.1)).length ≤ sizeLine := by
              rw [List.length_map, List.length_mergeSort, lz]; exact h5
            exact ⟨.ref (s.heap.objs.size + 1), upd H (s.heap.objs.size + 1) (.lst (((vs.zip es).mergeSort (PySem.W.dataLe false fun p => encD p.2)).map (·.1))), I.laid (t' := s.toks) (fun _ _ => PyProof.Rows.sortedAll_old) (Nat.le_succ _) ⟨len, out, ep, k1, he'⟩, rfl, OutO.ok o l2 m2 _ r2⟩
        · cases hz
      · exact o.elim
    · exact o.elim

/-! ### isinstance of built-in classes -/
def tyName : Ty → String
  | .list => "list"
  | .tuple => "tuple"
  | .str => "str"
  | .int => "int"
  | .bool => "bool"
  | .dict => "dict"
theorem isi_case {pins : List (Addr × Obj)} {s : Shared} {σ : L2.St} {H : Hp} {v : V} {us : List Value} {Q : VK} (T : String) (t : Ty) {b : Bool} (I : Inv X pins σ H s) (r : Vals [v, .ty (tyName t)] us) (ty : TyX X.K H v (.type T)) (e : kitB T (tyName t) = some b) (q : Q (.bl b) H) :
    wpAny (model X.prog X.w) X.A (call (.builtin "isinstance") us) (EP X pins σ Q) X.xe s :=
  call_isi pins s σ H _ us Q I r ⟨v, _, .type T, _, b, rfl, .ty _, ty, kit_ty e, q⟩
/-- the class is a constant: its value is carried by hand -/
def RIs (C : Cw) (t : Ty) : List V → Hp → VK → Prop := fun vs H Q => ∃ π v d M b, vs = [v, .ty (tyName t)] ∧ Rp π H v d ∧ MR C π H M ∧ isiD t d M = some b ∧ Q (.bl b) H
theorem bi_isi (t : Ty) : CallR X (.builtin "isinstance") (RIs C t) := by
  intro pins s σ H xs us Q I r h
  obtain ⟨π, v, d, M, b, rfl, rd, m, e, q⟩ := h
  cases rd with
  | non =>
    simp only [isiD, Option.some.injEq] at e; subst e
    exact isi_case "NoneType" t I r (.base .non) (by cases t <;> decide +kernel) q
  | bl k =>
    simp only [isiD, Option.some.injEq] at e; subst e
    exact isi_case "bool" t I r (.base (.bl k)) (by cases t <;> decide +kernel) q
  | int k =>
    simp only [isiD, Option.some.injEq] at e; subst e
    exact isi_case "int" t I r (.base (.int k)) (by cases t <;> decide +kernel) q
  | str k =>
    simp only [isiD, Option.some.injEq] at e; subst e
    exact isi_case "str" t I r (.base (.str k)) (by cases t <;> decide +kernel) q
  | tup e1 q1 =>
    simp only [isiD, Option.some.injEq] at e; subst e
    exact isi_case "tuple" t I r (.base (.tup e1)) (by cases t <;> decide +kernel) q
  | ref e1 =>
    simp only [isiD] at e
    split at e
    · rename_i lk ds hg
      cases e
      obtain ⟨vs, q1, hr⟩ := rd_lst m e1 hg
      rcases hr with hr | ⟨o, hr⟩
      · exact isi_case "list" t I r (.base (.lst hr)) (by cases t <;> decide +kernel) q
      · exact isi_case "list" t I r (.base (.frz hr)) (by cases t <;> decide +kernel) q
    · rename_i kvs hg
      cases e
      obtain ⟨u, q1, ho⟩ := m.at hg e1
      cases q1 with
      | k q1 => exact isi_case "dict" t I r (.base (.dK ho)) (by cases t <;> decide +kernel) q
      | t q1 => exact isi_case "dict" t I r (.base (.dT ho)) (by cases t <;> decide +kernel) q
    · cases e
end
end Mj

set_option Elab.async false
set_option linter.all false
set_option autoImplicit false
set_option maxRecDepth 100000
set_option maxHeartbeats 4000000
/-! Methods of built-in types over data. -/
namespace Mj
open PySem PySem.Spec L2
section
variable {C : Cw} {W : WD} {X : Cx}
def btName : Bt → String
  | .list => "list"
  | .dict => "dict"
  | .str => "str"
theorem isBt_is {pins : List (Addr × Obj)} {σ : L2.St} {H : Hp} {s : Shared} {π : List Addr} {M : Mem} {t : Bt} {v : V} {d : D} {u : Value} (I : Inv X pins σ H s) (r : Rp π H v d) (m : MR C π H M) (ru : RelV v u) (h : isBt t d M = true) :
    s.TypeIs u (btName t) ∧ ∀ a, u = .ref a → ∃ ob, s.heap.get? a = some ob ∧ ob.dict = none := by
  cases t with
  | str =>
    cases r with
    | str z => exact tyV_is I ru (show tyV X.K "str" (.str z) H from rfl)
    | _ => simp [isBt] at h
  | list =>
    cases r with
    | ref e =>
      simp only [isBt] at h
      split at h
      · rename_i lk ds hg
        obtain ⟨vs, q, hr⟩ := rd_lst m e hg
        exact tyV_is I ru (show tyV X.K "list" (.ref _) H from .inl ⟨rfl, _, .inl hr⟩)
      · cases h
    | _ => simp [isBt] at h
  | dict =>
    cases r with
    | ref e =>
      simp only [isBt] at h
      split at h
      · rename_i lk kvs hg
        obtain ⟨vs, q, hr⟩ := rd_dct m e hg
        cases ru
        have k := isD_at I (show IsD H _ from by cases q with | k q => exact .inl ⟨_, hr⟩ | t q => exact .inr ⟨_, hr⟩)
        exact ⟨k.1, k.2.1⟩
      · cases h
    | _ => simp [isBt] at h
/-- a method by data -/
def RMd (C : Cw) (m : Bm) : V → List V → Hp → VK → Prop := fun x xs H Q => ∃ π d ds M, Rp π H x d ∧ Rps π H xs ds ∧ MR C π H M ∧ OutO C π H (bmD m d ds M) (fun z _ π' H' => ∀ v, Rp π' H' v z → Q v H')
theorem de_bm {m : Bm} {name : Str} {id : String} {o e : Expr} {es : List Expr} {fo : Env → Mem → R D} {fs : Env → Mem → R (List D)} {apos cpos : Pos} (pa : PlainAttrs (btName (bmT m))) (slot : Slot (btName (bmT m)) name id) (hty : typeOf (.builtin id) = pure (.type "method_descriptor"))
    (hm : MtR X id (RMd C m)) (ho : PE X o (TV C W fo)) (ha : PA X (e :: es) (TAs C W fs)) (hbase : attributeBase o name X.env (eval o X.env) = eval o X.env)
    (hfew : ((backTo cpos (starEach (e :: es) X.env)).all (fun x => !x.1) && (backToKw cpos (keywordEach [] X.env)).all (fun x => x.1.isSome) && decide ((e :: es).length + ([] : List Keyword).length + (if ([] : List Keyword).isEmpty then 0 else 1) < 30)) = true)
    (hline : (apos.endLine == cpos.line) = true) (hs : starEach (e :: es) X.env = (false, eval e X.env) :: starEach es X.env) (hplain : (backTo cpos (starEach es X.env)).any (·.1) = false) :
    PE X (.Call (.Attribute o name apos) (e :: es) [] cpos) (TV C W fun σ M => (fo σ M).bind fun x M1 => if isBt (bmT m) x M1 then (fs σ M1).bind fun xs M2 => R.lift (bmD m x xs M2) else .bad) := by
  refine ⟨fun pins s σ H Q I ⟨π, σd, M, rs, mr, h⟩ => ?_⟩
  have hq : TV C W fo σ H (fun v H1 => ∃ π1 x M1, Rp π1 H1 v x ∧ MR C π1 H1 M1 ∧ isBt (bmT m) x M1 = true ∧ TAs C W fs σ H1 fun vs H2 => RMd C m v vs H2 Q) := ⟨π, σd, M, rs, mr, h.bind.imp fun x M1 π1 H1 l1 m1 o1 v r1 => by
    split at o1
    · rename_i hb
      exact ⟨π1, x, M1, r1, m1, hb, π1, σd, M1, rs.mono l1, m1, o1.bind.imp fun xs M2 π2 H2 l2 m2 o2 vs r2 => ⟨π2, x, xs, M2, r1.mono l2, r2, m2, o2.lift⟩⟩
    · exact o1.elim⟩
  refine wpAny_Call_method_late hbase hfew hline rfl (thn (ho.run pins s σ H _ I hq) fun u s1 ⟨v, H1, I1, ru, π1, x, M1, r1, m1, hb, q1⟩ => ?_)
  obtain ⟨h1, h2⟩ := isBt_is I1 r1 m1 ru hb
  refine ⟨_, id, pa, slot, hty, h1, h2, ?_⟩
  have hA := ha.run cpos pins s1 σ H1 _ I1 q1
  rw [hs] at hA ⊢
  refine Calls.callWith_builtin (by show (false || (backTo cpos (starEach es X.env)).any (·.1)) = false; rw [hplain] <;> rfl) (Calls.evalArgs_plain ?_)
  exact thn hA fun us s2 ⟨vs, H2, I2, r2, q2⟩ => hm pins s2 σ H2 v vs u us Q I2 ru r2 q2
theorem de_bm0 {m : Bm} {name : Str} {id : String} {o : Expr} {fo : Env → Mem → R D} {apos cpos : Pos} (pa : PlainAttrs (btName (bmT m))) (slot : Slot (btName (bmT m)) name id) (hty : typeOf (.builtin id) = pure (.type "method_descriptor"))
    (hm : MtR X id (RMd C m)) (ho : PE X o (TV C W fo)) (hbase : attributeBase o name X.env (eval o X.env) = eval o X.env) (hline : (apos.endLine == cpos.line) = true) :
    PE X (.Call (.Attribute o name apos) [] [] cpos) (TV C W fun σ M => (fo σ M).bind fun x M1 => if isBt (bmT m) x M1 then R.lift (bmD m x [] M1) else .bad) := by
  refine ⟨fun pins s σ H Q I ⟨π, σd, M, rs, mr, h⟩ => ?_⟩
  have hq : TV C W fo σ H (fun v H1 => ∃ π1 x M1, Rp π1 H1 v x ∧ MR C π1 H1 M1 ∧ isBt (bmT m) x M1 = true ∧ RMd C m v [] H1 Q) := ⟨π, σd, M, rs, mr, h.bind.imp fun x M1 π1 H1 l1 m1 o1 v r1 => by
    split at o1
    · rename_i hb
      exact ⟨π1, x, M1, r1, m1, hb, π1, x, [], M1, r1, .nil, m1, o1.lift⟩
    · exact o1.elim⟩
  refine wpAny_Call_method0_late hbase hline (thn (ho.run pins s σ H _ I hq) fun u s1 ⟨v, H1, I1, ru, π1, x, M1, r1, m1, hb, q1⟩ => ?_)
  obtain ⟨h1, h2⟩ := isBt_is I1 r1 m1 ru hb
  exact ⟨_, id, pa, slot, hty, h1, h2, Calls.callWith_builtin rfl (PySem.evalArgs_none (hm pins s1 σ H1 v [] u [] Q I1 ru .nil q1))⟩
/-! ### the methods -/
theorem set_lst {π : List Addr} {H : Hp} {M : Mem} {n : Nat} {a : Addr} {ds es : List D} {vs ws : List V} (m : MR C π H M) (e : π[n]? = some a) (hg : M.get n = some (.lst false ds)) (ha : H a = some (.lst vs)) (r : Rps π H ws es) :
    MR C π (upd H a (.lst ws)) (M.set n (.lst false es)) ∧ Le π H π (upd H a (.lst ws)) :=
  m.set e (Mem.lt_of_get hg) (fun o u z => by rw [ha] at z; cases z) fun H' l z => ⟨ws, r.mono l, z⟩
theorem bm_append : MtR X "list.append" (RMd C .append) := by
  intro pins s σ H x xs v us Q I rx rs ⟨π, d, ds, M, r1, r2, m, o⟩
  match d, ds, r1, r2, o with
  | .ref n, [y], r1, r2, o =>
    cases r1 with
    | @ref n a e =>
    obtain ⟨w, rfl, rw'⟩ := rps1 r2
    simp only [bmD] at o
    split at o
    · rename_i es hg
      split at o
      · rename_i hl
        obtain ⟨vs, q, ha⟩ := m.at hg e
        obtain ⟨m2, l2⟩ := set_lst m e hg ha (q.append (.cons rw' .nil))
        exact mt_append pins s σ H _ _ v us Q I rx rs ⟨a, vs, w, rfl, rfl, ha, by rw [q.length]; exact hl, OutO.ok o l2 m2 _ .non⟩
      · exact o.elim
    · exact o.elim
theorem bm_extend : MtR X "list.extend" (RMd C .extend) := by
  intro pins s σ H x xs v us Q I rx rs ⟨π, d, ds, M, r1, r2, m, o⟩
  match d, ds, r1, r2, o with
  | .ref n, [.ref k], r1, r2, o =>
    cases r1 with
    | @ref n a e =>
    obtain ⟨w, rfl, rw'⟩ := rps1 r2
    cases rw' with
    | @ref k b e2 =>
    simp only [bmD] at o
    split at o
    · rename_i es fs hg hg2
      split at o
      · rename_i hl
        obtain ⟨vs, q, ha⟩ := m.at hg e
        obtain ⟨ws, q2, hb⟩ := m.at hg2 e2
        obtain ⟨m2, l2⟩ := set_lst m e hg ha (q.append q2)
        exact mt_extend pins s σ H _ _ v us Q I rx rs ⟨a, b, vs, ws, rfl, rfl, ha, hb, by rw [q.length, q2.length]; exact hl, OutO.ok o l2 m2 _ .non⟩
      · exact o.elim
    · exact o.elim
theorem Rps.dropLast {π : List Addr} {H : Hp} {vs : List V} {ds : List D} (r : Rps π H vs ds) : Rps π H vs.dropLast ds.dropLast := by
  rw [List.dropLast_eq_take, List.dropLast_eq_take, r.length]
  exact r.take _
theorem Rps.erase {π : List Addr} {H : Hp} : ∀ {vs : List V} {ds : List D} (n : Nat), Rps π H vs ds → Rps π H (vs.eraseIdx n) (ds.eraseIdx n)
  | _, _, _, .nil => .nil
  | _, _, 0, .cons _ t => t
  | _, _, n + 1, .cons r t => .cons r (Rps.erase n t)
theorem bm_pop : MtR X "list.pop" (RMd C .lpop) := by
  intro pins s σ H x xs v us Q I rx rs ⟨π, d, ds, M, r1, r2, m, o⟩
  match d, ds, r1, r2, o with
  | .ref n, [], r1, r2, o =>
    cases r1 with
    | @ref n a e =>
    cases r2
    simp only [bmD] at o
    split at o
    · rename_i es hg
      split at o
      · rename_i y hy
        obtain ⟨vs, q, ha⟩ := m.at hg e
        obtain ⟨w, hw, rw'⟩ := q.get hy
        obtain ⟨m2, l2⟩ := set_lst m e hg ha q.dropLast
        exact mt_pop pins s σ H _ _ v us Q I rx rs ⟨a, vs, w, rfl, rfl, ha, by rw [q.length]; exact hw, OutO.ok o l2 m2 _ (rw'.mono l2)⟩
      · exact o.elim
    · exact o.elim
theorem bm_popAt : MtR X "list.pop" (RMd C .lpopAt) := by
  intro pins s σ H x xs v us Q I rx rs ⟨π, d, ds, M, r1, r2, m, o⟩
  match d, ds, r1, r2, o with
  | .ref n, [.int i], r1, r2, o =>
    cases r1 with
    | @ref n a e =>
    obtain ⟨w, rfl, rw'⟩ := rps1 r2
    cases rw'
    simp only [bmD] at o
    split at o
    · rename_i es hg
      split at o
      · rename_i hi
        split at o
        · rename_i y hy
          obtain ⟨vs, q, ha⟩ := m.at hg e
          obtain ⟨w, hw, rw'⟩ := q.get hy
          obtain ⟨m2, l2⟩ := set_lst m e hg ha (q.erase i.toNat)
          have hlt := (List.getElem?_eq_some_iff.mp hw).1
          exact mt_popAt pins s σ H _ _ v us Q I rx rs ⟨a, vs, i, i.toNat, w, rfl, rfl, ha, by omega, hi.2, PySem.seqIndex_of hi.1 (by omega), hw, OutO.ok o l2 m2 _ (rw'.mono l2)⟩
        · exact o.elim
      · exact o.elim
    · exact o.elim
theorem bm_get1 (hu : X.A.units + 100 < cLine) : MtR X "dict.get" (RMd C .get1) := by
  intro pins s σ H x xs v us Q I rx rs ⟨π, d, ds, M, r1, r2, m, o⟩
  match d, ds, r1, r2, o with
  | .ref n, [k], r1, r2, o =>
    cases r1 with
    | @ref n a e =>
    obtain ⟨w, rfl, rw'⟩ := rps1 r2
    cases rx
    obtain ⟨uy, rfl, ry⟩ := vals1 rs
    simp only [bmD] at o
    split at o
    · rename_i lk kvs hg
      split at o
      · rename_i hk
        obtain ⟨H', oo, I', l, m', g, _, k1, k2⟩ := dict_get I m e hg hk rw'
        refine d_get1 (by omega) I' g ry fun w' s' I2 rw2 => ?_
        cases hlk : look kvs k with
        | none =>
          rw [k2 hlk] at rw2
          rw [hlk] at o
          exact ⟨.non, H', I2, rw2, OutO.ok o l m' _ .non⟩
        | some z =>
          obtain ⟨wz, rfl, rz⟩ := k1 z hlk
          rw [hlk] at o
          exact ⟨wz, H', I2, rw2, OutO.ok o l m' _ rz⟩
      · exact o.elim
    · exact o.elim
theorem bm_get2 (hu : X.A.units + 100 < cLine) : MtR X "dict.get" (RMd C .get2) := by
  intro pins s σ H x xs v us Q I rx rs ⟨π, d, ds, M, r1, r2, m, o⟩
  match d, ds, r1, r2, o with
  | .ref n, [k, z], r1, r2, o =>
    cases r1 with
    | @ref n a e =>
    obtain ⟨w, wz, rfl, rw', rz⟩ := rps2 r2
    cases rx
    obtain ⟨uy, uz, rfl, ry, rzz⟩ := vals2 rs
    simp only [bmD] at o
    split at o
    · rename_i lk kvs hg
      split at o
      · rename_i hk
        obtain ⟨H', oo, I', l, m', g, _, k1, k2⟩ := dict_get I m e hg hk rw'
        refine d_get2 (by omega) I' g ry rzz fun w' s' I2 rw2 => ?_
        cases hlk : look kvs k with
        | none =>
          rw [k2 hlk] at rw2
          rw [hlk] at o
          exact ⟨wz, H', I2, rw2, OutO.ok o l m' _ (rz.mono l)⟩
        | some z' =>
          obtain ⟨wz', rfl, rz'⟩ := k1 z' hlk
          rw [hlk] at o
          exact ⟨wz', H', I2, rw2, OutO.ok o l m' _ rz'⟩
      · exact o.elim
    · exact o.elim
end
end Mj

set_option Elab.async false
set_option linter.all false
set_option autoImplicit false
set_option maxRecDepth 100000
set_option maxHeartbeats 4000000
/-! Statements over data. -/
namespace Mj
open PySem PySem.Spec L2
section
variable (C : Cw) (W : WD)
/-- what a run of statements brings -/
def OutS (na : Bool) (π : List Addr) (H : Hp) (σv : L2.St) (r : R Fl) (D : Ends) : Prop :=
  match r with
  | .ok (.nx σ') M' => ∀ π' H' σv', Le π H π' H' → MR C π' H' M' → RS π' H' σv' σ' → (na = true → σv' = σv) → D.nx σv' H'
  | .ok (.rt d) M' => ∀ π' H' v, Le π H π' H' → MR C π' H' M' → Rp π' H' v d → D.rt v H'
  | .ok (.bk σ') M' => ∀ π' H' σv', Le π H π' H' → MR C π' H' M' → RS π' H' σv' σ' → (na = true → σv' = σv) → D.bk σv' H'
  | .ok (.ct σ') M' => ∀ π' H' σv', Le π H π' H' → MR C π' H' M' → RS π' H' σv' σ' → (na = true → σv' = σv) → D.ct σv' H'
  | .exc x M' => ∀ π' H' σv', Le π H π' H' → MR C π' H' M' → (na = true → σv' = σv) → W x M' π' H' σv'
  | .bad => False
def TSd (na : Bool) (ec : Env → Mem → R Fl) : TS := fun D σv H => ∃ π σ M, RS π H σv σ ∧ MR C π H M ∧ OutS C W na π H σv (ec σ M) D
variable {C} {W}
theorem OutS.mono {na : Bool} {π π1 : List Addr} {H H1 : Hp} {σv : L2.St} {r : R Fl} {D : Ends} (h : OutS C W na π H σv r D) (l : Le π H π1 H1) : OutS C W na π1 H1 σv r D := by
  cases r with
  | ok f M' => cases f <;> exact fun π' H' s' l' m r => h π' H' s' (l.trans l') m r
  | exc x M' => exact fun π' H' s' l' m e => h π' H' s' (l.trans l') m e
  | bad => exact h
theorem OutS.move {na : Bool} {π : List Addr} {H : Hp} {σv σv' : L2.St} {r : R Fl} {D : Ends} (h : OutS C W na π H σv r D) (e : na = true → σv' = σv) : OutS C W na π H σv' r D := by
  cases r with
  | ok f M' =>
    cases f with
    | rt d => exact h
    | _ => exact fun π' H' s' l' m r q => h π' H' s' l' m r fun z => (q z).trans (e z)
  | exc x M' => exact fun π' H' s' l' m q => h π' H' s' l' m fun z => (q z).trans (e z)
  | bad => exact h
theorem OutS.any {na : Bool} {π : List Addr} {H : Hp} {σv σv' : L2.St} {r : R Fl} {D : Ends} (h : OutS C W false π H σv r D) : OutS C W na π H σv' r D := by
  cases r with
  | ok f M' =>
    cases f with
    | rt d => exact h
    | _ => exact fun π' H' s' l' m r _ => h π' H' s' l' m r (fun z => nomatch z)
  | exc x M' => exact fun π' H' s' l' m _ => h π' H' s' l' m (fun z => nomatch z)
  | bad => exact h
/-- an expression first -/
theorem OutS.bind {α : Type} {na : Bool} {π : List Addr} {H : Hp} {σv : L2.St} {r : R α} {f : α → Mem → R Fl} {D : Ends} (h : OutS C W na π H σv (r.bind f) D) :
    Out C (W.at σv) π H r (fun a M1 π1 H1 => OutS C W na π1 H1 σv (f a M1) D) := by
  cases r with
  | ok a M' => exact fun π' H' l m => OutS.mono h l
  | exc x M' => exact fun π' H' l m => h π' H' σv l m fun _ => rfl
  | bad => exact h
variable {X : Cx} {e : Expr} {fa fb fc : Env → Mem → R D} {pos : Pos}
/-! ### targets -/
def gsOf : List Nat → TGs
  | [] => gNil
  | i :: is => gCons (gName i) (gsOf is)
def gOf (K : PySem.W.Frag) : Tg → TG
  | .n i => gName i
  | .t is => gTup K is.length (gsOf is)
theorem gs_bind {π : List Addr} {H : Hp} {Q : L2.St → Hp → Prop} : ∀ {is : List Nat} {vs : List V} {ds : List D} {σv : L2.St} {σ : Env}, ds.length = is.length → Rps π H vs ds → RS π H σv σ → (∀ σv', RS π H σv' (bindAll is ds σ) → Q σv' H) → gsOf is vs σv H Q
  | [], vs, ds, σv, σ, hl, r, rs, k => by
    have : ds = [] := List.length_eq_zero_iff.mp hl
    subst this
    cases r
    exact ⟨rfl, k σv rs⟩
  | i :: is, vs, ds, σv, σ, hl, r, rs, k => by
    cases r with
    | nil => simp at hl
    | cons r1 r2 =>
      refine ⟨_, _, rfl, gs_bind (by simpa using hl) r2 (rs.set r1 i) fun σv' rs' => k σv' rs'⟩
theorem g_bind {K : PySem.W.Frag} {π : List Addr} {H : Hp} {Q : L2.St → Hp → Prop} {tg : Tg} {v : V} {d : D} {σv : L2.St} {σ σ1 : Env} (hb : bindT tg d σ = some σ1) (r : Rp π H v d) (rs : RS π H σv σ) (k : ∀ σv', RS π H σv' σ1 → Q σv' H) : gOf K tg v σv H Q := by
  cases tg with
  | n i =>
    simp only [bindT, Option.some.injEq] at hb
    subst hb
    exact k _ (rs.set r i)
  | t is =>
    cases d with
    | tup ds =>
      simp only [bindT] at hb
      split at hb
      · rename_i hl
        cases hb
        cases r with
        | tup e q => exact ⟨_, _, rfl, SqT.of e, by rw [q.length]; exact hl, gs_bind hl q rs k⟩
      · cases hb
    | _ => simp [bindT] at hb
/-! ### simple statements -/
theorem ds_asg {i : Nat} {tg : Expr} {fr : Env → Mem → R Fl} {na : Bool} {st : Stmt} {rest : List Stmt} (h : PS X st (tAsg (TV C W fa) (gName i))) (hr : PSs X rest (TSd C W false fr)) :
    PSs X (st :: rest) (TSd C W false fun σ M => (fa σ M).bind fun d M1 => fr (σ.set i (some d)) M1) :=
  (pss_cons h hr).imp fun D σv H ⟨π, σ, M, rs, mr, h⟩ => ⟨π, σ, M, rs, mr, h.bind.imp fun d M1 π1 H1 l1 m1 o1 v r => ⟨π1, σ.set i (some d), M1, (rs.mono l1).set r i, m1, o1.any⟩⟩
theorem ds_asgT {tg : Tg} {fr : Env → Mem → R Fl} {st : Stmt} {rest : List Stmt} (h : PS X st (tAsg (TV C W fa) (gOf X.K tg))) (hr : PSs X rest (TSd C W false fr)) :
    PSs X (st :: rest) (TSd C W false fun σ M => (fa σ M).bind fun d M1 => match bindT tg d σ with | none => .bad | some σ1 => fr σ1 M1) :=
  (pss_cons h hr).imp fun D σv H ⟨π, σ, M, rs, mr, h⟩ => ⟨π, σ, M, rs, mr, h.bind.imp fun d M1 π1 H1 l1 m1 o1 v r => by
    cases hb : bindT tg d σ with
    | none => simp only [hb] at o1; exact o1.elim
    | some σ1 =>
      simp only [hb] at o1
      exact g_bind hb r (rs.mono l1) fun σv' rs' => ⟨π1, σ1, M1, rs', m1, o1.any⟩⟩
theorem ds_nil {na : Bool} : PSs X [] (TSd C W na fun σ M => .ok (.nx σ) M) := pss_nil.imp fun D σv H ⟨π, σ, M, rs, mr, h⟩ => h π H σv Le.refl mr rs (fun _ => rfl)
theorem ds_drop {na : Bool} {fr : Env → Mem → R Fl} {rest : List Stmt} (h : PE X e (TV C W fa)) (hs : swapsWith e none pos.line X.env = pure false) (hr : PSs X rest (TSd C W na fr)) :
    PSs X (.Expr e pos :: rest) (TSd C W na fun σ M => (fa σ M).bind fun _ M1 => fr σ M1) :=
  (pss_cons (ps_expr h hs) hr).imp fun D σv H ⟨π, σ, M, rs, mr, h⟩ => ⟨π, σ, M, rs, mr, h.bind.imp fun d M1 π1 H1 l1 m1 o1 v r => ⟨π1, σ, M1, rs.mono l1, m1, o1⟩⟩
theorem ds_ret {na : Bool} {rest : List Stmt} (h : PE X e (TV C W fa)) : PSs X [.Return (some e) pos] (TSd C W na fun σ M => (fa σ M).bind fun d M1 => .ok (.rt d) M1) :=
  (pss_one (ps_ret h)).imp fun D σv H ⟨π, σ, M, rs, mr, h⟩ => ⟨π, σ, M, rs, mr, h.bind.imp fun d M1 π1 H1 l1 m1 o1 v r => o1 π1 H1 v Le.refl m1 r⟩
theorem ds_retN {na : Bool} : PSs X [.Return none pos] (TSd C W na fun _ M => .ok (.rt .non) M) :=
  (pss_one ps_retN).imp fun D σv H ⟨π, σ, M, rs, mr, h⟩ => h π H .non Le.refl mr .non
theorem ds_brk {na : Bool} : PSs X [.Break pos] (TSd C W na fun σ M => .ok (.bk σ) M) := (pss_one ps_break).imp fun D σv H ⟨π, σ, M, rs, mr, h⟩ => h π H σv Le.refl mr rs (fun _ => rfl)
theorem ds_cont {na : Bool} : PSs X [.Continue pos] (TSd C W na fun σ M => .ok (.ct σ) M) := (pss_one ps_continue).imp fun D σv H ⟨π, σ, M, rs, mr, h⟩ => h π H σv Le.refl mr rs (fun _ => rfl)
theorem ds_pass {na : Bool} {fr : Env → Mem → R Fl} {rest : List Stmt} (hr : PSs X rest (TSd C W na fr)) : PSs X (.Pass pos :: rest) (TSd C W na fr) := (pss_cons ps_pass hr).imp fun D σv H h => h
theorem OutS.thenF {na : Bool} {π : List Addr} {H : Hp} {σv : L2.St} {r : R Fl} {fr : Env → Mem → R Fl} {D : Ends} (h : OutS C W na π H σv (thenF r fr) D) : OutS C W na π H σv r { D with nx := TSd C W na fr D } := by
  cases r with
  | bad => exact h
  | exc x M' => exact h
  | ok f M' =>
    cases f with
    | nx σ1 => exact fun π' H' σv' l m rs e => ⟨π', σ1, M', rs, m, (OutS.mono (show OutS C W na π H σv (fr σ1 M') D from h) l).move e⟩
    | rt d => exact h
    | bk σ1 => exact h
    | ct σ1 => exact h
theorem OutS.then0 {na : Bool} {π : List Addr} {H : Hp} {σv : L2.St} {r : R Fl} {fr : Env → Mem → R Fl} {D : Ends} (h : OutS C W false π H σv (Mj.thenF r fr) D) : OutS C W na π H σv r { D with nx := TSd C W false fr D } := OutS.any (OutS.thenF h)
theorem ds_iff {na : Bool} {c : Expr} {a b rest : List Stmt} {ft : Env → Mem → R Bool} {ga gb fr : Env → Mem → R Fl} (hc : PT X c (TB C W ft)) (ha : PSs X a (TSd C W na ga)) (hb : PSs X b (TSd C W na gb)) (hr : PSs X rest (TSd C W na fr)) :
    PSs X (.If c a b pos :: rest) (TSd C W na fun σ M => (ft σ M).bind fun t M1 => thenF (if t then ga σ M1 else gb σ M1) fr) :=
  (pss_cons (ps_if hc ha hb) hr).imp fun D σv H ⟨π, σ, M, rs, mr, h⟩ => ⟨π, σ, M, rs, mr, h.bind.imp fun t M1 π1 H1 l1 m1 o1 => by
    cases t with
    | true => exact ⟨π1, σ, M1, rs.mono l1, m1, o1.thenF⟩
    | false => exact ⟨π1, σ, M1, rs.mono l1, m1, o1.thenF⟩⟩
/-! ### stores -/
theorem set_ins {π : List Addr} {H : Hp} {M : Mem} {n c : Nat} {a dx : Addr} {fs : List (Nat × D)} {gs : List (Str × V)} {fs' : List (Nat × D)} {gs' : List (Str × V)} (m : MR C π H M) (e : π[n]? = some a) (hg : M.get n = some (.ins c fs)) (ha : H a = some (.ins (C.cls c) dx gs)) (r : FsR C π H gs' fs') :
    MR C π (upd H a (.ins (C.cls c) dx gs')) (M.set n (.ins c fs')) ∧ Le π H π (upd H a (.ins (C.cls c) dx gs')) :=
  m.set e (Mem.lt_of_get hg) (fun o u z => by rw [ha] at z; cases z) fun H' l z => ⟨dx, gs', r.mono l, z⟩
theorem setF_out {π : List Addr} {H : Hp} {M M' : Mem} {x d : D} {v w : V} {f : Nat} {nm : Str} (hx : C.fnm f = some nm) (m : MR C π H M) (r : Rp π H v x) (q : Rp π H w d) (h : setFld C.na x f d M = some M') :
    ∃ a c dx gs, v = .ref a ∧ H a = some (.ins (C.cls c) dx gs) ∧ C.na c f = true ∧ gs.length < 1000 ∧ MR C π (upd H a (.ins (C.cls c) dx (putF nm w gs))) M' ∧ Le π H π (upd H a (.ins (C.cls c) dx (putF nm w gs))) := by
  cases r with
  | @ref n a e =>
    simp only [setFld] at h
    split at h
    · rename_i c fs hg
      split at h
      · rename_i hc
        cases h
        obtain ⟨dx, gs, rf, ha⟩ := m.at hg e
        obtain ⟨m2, l2⟩ := set_ins m e hg ha (rf.put hx q)
        exact ⟨a, c, dx, gs, rfl, ha, hc.1, by rw [rf.length]; exact hc.2, m2, l2⟩
      · cases h
    · cases h
  | _ => cases h
theorem ds_setF {na : Bool} {o value : Expr} {f : Nat} {nm : Str} {pos' : Pos} {fo fv : Env → Mem → R D} {fr : Env → Mem → R Fl} {rest : List Stmt} (hx : C.fnm f = some nm) (hc : ∀ c, Cls X.K (C.cls c)) (hn : ∀ c, C.na c f = true → NoAttr X.K (C.cls c) nm) (ho : PE X o (TV C W fo)) (hv : PE X value (TV C W fv))
    (hs : swapsWith value (some (.Attribute o nm pos')) pos.line X.env = pure false) (hr : PSs X rest (TSd C W na fr)) :
    PSs X (.Assign [.Attribute o nm pos'] value pos :: rest) (TSd C W na fun σ M => (fv σ M).bind fun d M1 => (fo σ M1).bind fun x M2 => match setFld C.na x f d M2 with | none => .bad | some M3 => fr σ M3) :=
  (pss_cons (ps_fld ho hv hs) hr).imp fun D σv H ⟨π, σ, M, rs, mr, h⟩ => ⟨π, σ, M, rs, mr, h.bind.imp fun d M1 π1 H1 l1 m1 o1 w r1 => ⟨π1, σ, M1, rs.mono l1, m1, o1.bind.imp fun x M2 π2 H2 l2 m2 o2 v r2 => by
    cases hb : setFld C.na x f d M2 with
    | none => simp only [hb] at o2; exact o2.elim
    | some M3 =>
      simp only [hb] at o2
      obtain ⟨a, c, dx, gs, rfl, ha, hna, hl, m3, l3⟩ := setF_out hx m2 r2 (r1.mono l2) hb
      exact ⟨a, _, dx, gs, rfl, ha, hc c, hn c hna, hl, π2, σ, M3, ((rs.mono l1).mono l2).mono l3, m3, o2.mono l3⟩⟩⟩
/-- o[i] = v, by data -/
theorem set_D (hu : X.A.units + 100 < cLine) : PSet X (fun vo vi vv H Q => ∃ π x i d M M', Rp π H vo x ∧ Rp π H vi i ∧ Rp π H vv d ∧ MR C π H M ∧ setIx x i d M = some M' ∧ ∀ H', MR C π H' M' → Le π H π H' → Q H') := by
  intro pins s σ H o i v ov iv u Q I ro ri rv ⟨π, x, k, d, M, M', r1, r2, r3, m, h, q⟩
  cases r1 with
  | @ref n a e =>
    cases ro
    simp only [setIx] at h
    split at h
    · rename_i ds hg
      split at h
      · rename_i j
        split at h
        · rename_i hj
          cases h
          cases r2
          obtain ⟨vs, q1, ha⟩ := m.at hg e
          obtain ⟨m2, l2⟩ := set_lst m e hg ha (Rps.set r3 j.toNat q1)
          refine set_list pins s σ H _ _ v _ iv u Q I (show RelV (.ref a) (.ref a) from rfl) ri rv ⟨a, vs, j, j.toNat, rfl, rfl, ha, ?_, q _ m2 l2⟩
          unfold ixN
          rw [if_pos hj.1, if_pos (by rw [q1.length]; omega)]
        · cases h
      · cases h
    · rename_i kvs hg
      split at h
      · rename_i hk
        cases h
        obtain ⟨H1, H', I1, g, l, m2⟩ := dict_put I m e hg hk.1 hk.2 r2 r3
        exact d_setItem (by omega) I1 g ri rv fun s' I' => ⟨H', I', q _ m2 l⟩
      · cases h
    · cases h
  | _ => cases h
theorem ds_setX {na : Bool} {o i value : Expr} {pos' : Pos} {fo fi fv : Env → Mem → R D} {fr : Env → Mem → R Fl} {rest : List Stmt} (hu : X.A.units + 100 < cLine) (ho : PE X o (TV C W fo)) (hi : PE X i (TV C W fi)) (hv : PE X value (TV C W fv))
    (hs : swapsWith value (some (.Subscript o i pos')) pos.line X.env = pure false)
    (ha : ∀ v, assign (.Subscript o i pos') X.env v = (do
      let ov ← holding [v] (eval o X.env)
      let iv ← holding [v, ov] (eval i X.env)
      standAt pos'
      holding [v, ov, iv] (setItem ov iv v)
      release [v, ov, iv] [])) (hw : swappedStores [.Subscript o i pos'] value X.env = pure none) (hr : PSs X rest (TSd C W na fr)) :
    PSs X (.Assign [.Subscript o i pos'] value pos :: rest) (TSd C W na fun σ M => (fv σ M).bind fun d M1 => (fo σ M1).bind fun x M2 => (fi σ M2).bind fun y M3 => match setIx x y d M3 with | none => .bad | some M4 => fr σ M4) :=
  (pss_cons (ps_asg hv (pg_sub ho hi (set_D (C := C) hu) ha) hs hw rfl) hr).imp fun D σv H ⟨π, σ, M, rs, mr, h⟩ => ⟨π, σ, M, rs, mr, h.bind.imp fun d M1 π1 H1 l1 m1 o1 w r1 => ⟨π1, σ, M1, rs.mono l1, m1, o1.bind.imp fun x M2 π2 H2 l2 m2 o2 v r2 =>
    ⟨π2, σ, M2, (rs.mono l1).mono l2, m2, o2.bind.imp fun y M3 π3 H3 l3 m3 o3 k r3 => by
      cases hb : setIx x y d M3 with
      | none => simp only [hb] at o3; exact o3.elim
      | some M4 =>
        simp only [hb] at o3
        exact ⟨π3, x, y, d, M3, M4, r2.mono l3, r3, (r1.mono l2).mono l3, m3, hb, fun H' m4 l4 => ⟨π3, σ, M4, (((rs.mono l1).mono l2).mono l3).mono l4, m4, o3.mono l4⟩⟩⟩⟩⟩
/-! ### x += e -/
def augOk : Operator → Bool
  | .Add => true
  | .Sub => true
  | _ => false
theorem ip_of {op : Operator} (h : augOk op = true) : PIp X op (ipI fun a b => (intOp op a b).getD 0) := by
  cases op <;> simp [augOk] at h
  · exact ip_add
  · exact ip_sub
theorem ds_augV {i : Nat} {op : Operator} {fr : Env → Mem → R Fl} {st : Stmt} {rest : List Stmt} (h : PS X st (tAug i (TV C W fa) (ipI fun a b => (intOp op a b).getD 0))) (hop : augOk op = true) (hr : PSs X rest (TSd C W false fr)) :
    PSs X (st :: rest) (TSd C W false fun σ M => match σ[i]? with
      | some (some (.int a)) => (fa σ M).bind fun d M1 => match d with
        | .int b => match intOp op a b with
          | some z => fr (σ.set i (some (.int z))) M1
          | none => .bad
        | _ => .bad
      | _ => .bad) :=
  (pss_cons h hr).imp fun D σv H ⟨π, σ, M, rs, mr, h⟩ => by
    dsimp only at h
    split at h
    · rename_i a hσ
      obtain ⟨v, hv, rv⟩ := rs.get hσ
      cases rv
      refine ⟨_, hv, π, σ, M, rs, mr, h.bind.imp fun d M1 π1 H1 l1 m1 o1 w r => ?_⟩
      cases r with
      | int b =>
        dsimp only at o1
        split at o1
        · rename_i z hz
          refine ⟨a, b, rfl, rfl, π1, σ.set i (some (.int z)), M1, ?_, m1, o1.any⟩
          have hz' : (intOp op a b).getD 0 = z := by rw [hz]; rfl
          show RS π1 H1 (σv.set i (some (.int ((intOp op a b).getD 0)))) _
          rw [hz']
          exact (rs.mono l1).set (.int z) i
        · exact o1.elim
      | _ => exact o1.elim
    · exact h.elim
theorem inop_of {op : Operator} (h : augOk op = true) : InOp X op (fun x y H Q => ∃ i j, x = .int i ∧ y = .int j ∧ Q (.int ((intOp op i j).getD 0)) H) := by
  cases op <;> simp [augOk] at h
  · exact in_add
  · exact in_sub
theorem ds_augF {na : Bool} {o value : Expr} {f : Nat} {nm : Str} {op : Operator} {tpos : Pos} {fo fv : Env → Mem → R D} {fr : Env → Mem → R Fl} {rest : List Stmt} (hx : C.fnm f = some nm) (hc : ∀ c, Cls X.K (C.cls c)) (hn : ∀ c, C.na c f = true → NoAttr X.K (C.cls c) nm) (ho : PE X o (TV C W fo)) (hv : PE X value (TV C W fv)) (hop : augOk op = true)
    (hr : PSs X rest (TSd C W na fr)) :
    PSs X (.AugAssign (.Attribute o nm tpos) op value pos :: rest) (TSd C W na fun σ M => (fo σ M).bind fun x M1 => match fldC C.na x f M1 with
      | some (c, .int a) => (fv σ M1).bind fun d M2 => match d with
        | .int b => match intOp op a b with
          | some z => match setFldC C.na c x f (.int z) M2 with
            | some M3 => fr σ M3
            | none => .bad
          | none => .bad
        | _ => .bad
      | _ => .bad) :=
  (pss_cons (ps_fldaug ho hv (inop_of hop)) hr).imp fun D σv H ⟨π, σ, M, rs, mr, h⟩ => ⟨π, σ, M, rs, mr, h.bind.imp fun x M1 π1 H1 l1 m1 o1 v r1 => by
    split at o1
    · rename_i c a hfl
      cases r1 with
      | @ref n ad e =>
        simp only [fldC] at hfl
        split at hfl
        · rename_i c' fs hg
          split at hfl
          · rename_i hna
            obtain ⟨d0, hd0, ed0⟩ := Option.map_eq_some_iff.mp hfl
            cases ed0
            obtain ⟨dx, gs, rf, ho⟩ := m1.at hg e
            obtain ⟨w, hw, rw'⟩ := rf.lookup hx hd0
            cases rw'
            refine ⟨ad, _, dx, gs, _, rfl, ho, hc c, hn c hna, hw, π1, σ, M1, rs.mono l1, m1, o1.bind.imp fun d M2 π2 H2 l2 m2 o2 y r2 => ?_⟩
            cases r2 with
            | int b =>
              dsimp only at o2
              split at o2
              · rename_i z hz
                cases hb : setFldC C.na c (.ref n) f (.int z) M2 with
                | none => simp only [hb] at o2; exact o2.elim
                | some M3 =>
                  simp only [hb] at o2
                  simp only [setFldC] at hb
                  split at hb
                  · rename_i c2 fs2 hg2
                    split at hb
                    · rename_i hc2
                      obtain ⟨rfl, hna2, hl2⟩ := hc2
                      cases hb
                      obtain ⟨dx2, gs2, rf2, ha2⟩ := m2.at hg2 (l2.pl _ _ e)
                      obtain ⟨m3, l3⟩ := set_ins m2 (l2.pl _ _ e) hg2 ha2 (rf2.put hx (.int z))
                      refine ⟨a, b, rfl, rfl, dx2, gs2, ha2, by rw [rf2.length]; exact hl2, π2, σ, _, ((rs.mono l1).mono l2).mono ?_, ?_, o2.mono ?_⟩
                      all_goals
                        have hz' : (intOp op a b).getD 0 = z := by rw [hz]; rfl
                        rw [hz']
                        first | exact l3 | exact m3
                    · cases hb
                  · cases hb
              · exact o2.elim
            | _ => exact o2.elim
          · cases hfl
        · cases hfl
      | _ => cases hfl
    · exact o1.elim⟩
end
end Mj

set_option Elab.async false
set_option linter.all false
set_option autoImplicit false
set_option maxRecDepth 100000
set_option maxHeartbeats 4000000
/-! Loops over data. -/
namespace Mj
open PySem PySem.Spec L2
section
/-- an iterator that feeds these items, while its source stands -/
def Feeds (C : Cw) (J : It) (π : List Addr) (H : Hp) (src : Src) (items : List D) : Prop :=
  ∀ π' H' M', Le π H π' H' → MR C π' H' M' → src.stands M' = true → (∀ i, items.length ≤ i → J.stop i H') ∧
    ∀ i d, items[i]? = some d → J.go i H' ∧ ∀ x H'', J.yld i H' x H'' → MR C π' H'' M' ∧ Le π' H' π' H'' ∧ Rp π' H'' x d
theorem Feeds.mono {C : Cw} {J : It} {π π1 : List Addr} {H H1 : Hp} {src : Src} {items : List D} (f : Feeds C J π H src items) (l : Le π H π1 H1) : Feeds C J π1 H1 src items := fun π' H' M' l' m s => f π' H' M' (l.trans l') m s
def TW (C : Cw) (W : WD) (k : Ik) (fa fb : Env → Mem → R D) : TI := fun σv H Rk => ∃ π σ M, RS π H σv σ ∧ MR C π H M ∧ Out C (W.at σv) π H (walkR k fa fb σ M) (fun p _ π' H' => ∀ J, Feeds C J π' H' p.1 p.2 → Rk J H')
variable {C : Cw} {W : WD} {X : Cx} {fa fb : Env → Mem → R D} {pos p : Pos}
theorem _root_.L2.PI.imp {X : Cx} {tg iter : Expr} {t t' : TI} (h : PI X tg iter t) (k : ∀ σ H Q, t' σ H Q → t σ H Q) : PI X tg iter t' := ⟨fun pins s σ H Q I q => h.run pins s σ H Q I (k _ _ _ q)⟩
/-! the sources -/
theorem feeds_list {K : PySem.W.Frag} {π : List Addr} {H : Hp} {n : Nat} {a : Addr} {ds : List D} (e : π[n]? = some a) : Feeds C (Itl K a) π H (.list n ds) ds := by
  intro π' H' M' l m hs
  simp only [Src.stands] at hs
  split at hs
  · rename_i lk es hg
    have he : es = ds := by simpa using hs
    subst he
    obtain ⟨vs, q, hr⟩ := rd_lst m (l.pl _ _ e) hg
    refine ⟨fun i hi => ⟨vs, .inl hr, by rw [q.length]; exact hi⟩, fun i d hd => ?_⟩
    obtain ⟨v, hv, rv⟩ := q.get hd
    exact ⟨⟨vs, v, .inl hr, hv⟩, fun x H'' y => by
      obtain ⟨rfl, y⟩ := y
      have := y vs (.inl hr)
      rw [hv] at this; cases this
      exact ⟨m, Le.refl, rv⟩⟩
  · cases hs
theorem feeds_tup {K : PySem.W.Frag} {π : List Addr} {H : Hp} {a : Addr} {vs : List V} {ds : List D} (e : H a = some (.tup vs)) (q : Rps π H vs ds) : Feeds C (Itt K a) π H .free ds := by
  intro π' H' M' l m hs
  have e' := l.tp _ _ e
  have q' := q.mono l
  refine ⟨fun i hi => ⟨vs, SqT.of e', by rw [q'.length]; exact hi⟩, fun i d hd => ?_⟩
  obtain ⟨v, hv, rv⟩ := q'.get hd
  exact ⟨⟨vs, v, SqT.of e', hv⟩, fun x H'' y => by
    obtain ⟨rfl, y⟩ := y
    have := y vs (SqT.of e')
    rw [hv] at this; cases this
    exact ⟨m, Le.refl, rv⟩⟩
theorem feeds_rng {π : List Addr} {H : Hp} {lo : Int} {n : Nat} : Feeds C (Itr lo n) π H .free (rangeD lo n) := by
  intro π' H' M' l m hs
  refine ⟨fun i hi => show n ≤ i by simpa [rangeD] using hi, fun i d hd => ?_⟩
  have hi : i < n := by
    have := (List.getElem?_eq_some_iff.mp hd).1
    simpa [rangeD] using this
  have hd' : d = .int (lo + (i : Nat)) := by
    unfold rangeD at hd
    rw [List.getElem?_map, List.getElem?_range hi] at hd
    simpa using hd.symm
  exact ⟨hi, fun x H'' y => by
    obtain ⟨rfl, rfl⟩ := y
    rw [hd']
    exact ⟨m, Le.refl, .int _⟩⟩
theorem feeds_rev {K : PySem.W.Frag} {π : List Addr} {H : Hp} {n : Nat} {a : Addr} {ds : List D} (e : π[n]? = some a) : Feeds C (Itv K a ds.length) π H (.list n ds) ds.reverse := by
  intro π' H' M' l m hs
  simp only [Src.stands] at hs
  split at hs
  · rename_i lk es hg
    have he : es = ds := by simpa using hs
    subst he
    obtain ⟨vs, q, hr⟩ := rd_lst m (l.pl _ _ e) hg
    have hl := q.length
    refine ⟨fun i hi => show es.length ≤ i by simpa using hi, fun i d hd => ?_⟩
    have hi : i < es.length := by
      have := (List.getElem?_eq_some_iff.mp hd).1
      simpa using this
    rw [List.getElem?_reverse hi] at hd
    obtain ⟨v, hv, rv⟩ := q.get hd
    exact ⟨⟨hi, vs, v, .inl hr, hv⟩, fun x H'' y => by
      obtain ⟨rfl, y⟩ := y
      have := y vs (.inl hr)
      rw [hv] at this; cases this
      exact ⟨m, Le.refl, rv⟩⟩
  · cases hs
theorem feeds_str {π : List Addr} {H : Hp} {z : Str} : Feeds C (Its z) π H .free (z.cps.toList.map fun c => .str ⟨#[c]⟩) := by
  intro π' H' M' l m hs
  refine ⟨fun i hi => by simpa [Its] using hi, fun i d hd => ?_⟩
  rw [List.getElem?_map] at hd
  obtain ⟨c, hc, rfl⟩ := Option.map_eq_some_iff.mp hd
  have hc' : z.cps[i]? = some c := by simpa using hc
  have hi : i < z.cps.size := (Array.getElem?_eq_some_iff.mp hc').1
  exact ⟨hi, fun x H'' y => by
    obtain ⟨rfl, c', h1, rfl⟩ := y
    rw [hc'] at h1; cases h1
    exact ⟨m, Le.refl, .str _⟩⟩
/-! the rules of the sources -/
/-- nothing is evaluated -/
def noB : Env → Mem → R D := fun _ M => .ok .non M
theorem di_seqL {l tg : Expr} (hl : PE X l (TV C W fa)) : PI X tg l (TW C W .seqL fa noB) :=
  (pi_list hl).imp fun σv H Rk ⟨π, σ, M, rs, mr, h⟩ => ⟨π, σ, M, rs, mr, h.bind.imp fun x M1 π1 H1 l1 m1 o1 v r => by
    obtain ⟨q, hq, o2⟩ := o1.bind.ok Le.refl m1 |> Out.opt
    cases r with
    | @ref n a e =>
      simp only [walkD] at hq
      split at hq
      · rename_i lk ds hg
        cases hq
        obtain ⟨vs, q, hr⟩ := rd_lst m1 e hg
        exact ⟨a, rfl, ⟨vs, .inl hr⟩, o2.ok Le.refl m1 _ (feeds_list e)⟩
      · cases hq
    | _ => simp [walkD] at hq⟩
theorem di_seqT {l tg : Expr} (hl : PE X l (TV C W fa)) : PI X tg l (TW C W .seqT fa noB) :=
  (pi_tup hl).imp fun σv H Rk ⟨π, σ, M, rs, mr, h⟩ => ⟨π, σ, M, rs, mr, h.bind.imp fun x M1 π1 H1 l1 m1 o1 v r => by
    obtain ⟨q, hq, o2⟩ := o1.bind.ok Le.refl m1 |> Out.opt
    cases r with
    | tup e q =>
      simp only [walkD, Option.some.injEq] at hq
      subst hq
      exact ⟨_, rfl, ⟨_, SqT.of e⟩, o2.ok Le.refl m1 _ (feeds_tup e q)⟩
    | _ => simp [walkD] at hq⟩
theorem di_str {l tg : Expr} (hl : PE X l (TV C W fa)) : PI X tg l (TW C W .str fa noB) :=
  (pi_str hl).imp fun σv H Rk ⟨π, σ, M, rs, mr, h⟩ => ⟨π, σ, M, rs, mr, h.bind.imp fun x M1 π1 H1 l1 m1 o1 v r => by
    obtain ⟨q, hq, o2⟩ := o1.bind.ok Le.refl m1 |> Out.opt
    cases r with
    | str z =>
      simp only [walkD, Option.some.injEq] at hq
      subst hq
      exact ⟨z, rfl, o2.ok Le.refl m1 _ feeds_str⟩
    | _ => simp [walkD] at hq⟩
theorem di_rng1 {a tg : Expr} (hg : Gl X "range") (hm : X.mg "range" = none) (ha : PE X a (TV C W fa)) (hs : starEach [a] X.env = [(false, eval a X.env)]) : PI X tg (.Call (.Name "range" p) [a] [] pos) (TW C W .rng1 fa noB) :=
  (pi_range1 hg hm (pa_cons ha pa_nil hs) hs).imp fun σv H Rk ⟨π, σ, M, rs, mr, h⟩ => ⟨π, σ, M, rs, mr, h.bind.imp fun x M1 π1 H1 l1 m1 o1 v r => by
      obtain ⟨q, hq, o2⟩ := o1.bind.ok Le.refl m1 |> Out.opt
      cases r with
      | int j =>
        simp only [walkD] at hq
        split at hq
        · rename_i hj
          cases hq
          exact ⟨j, rfl, hj.1, hj.2, o2.ok Le.refl m1 _ feeds_rng⟩
        · cases hq
      | _ => simp [walkD] at hq⟩
theorem di_rng2 {a b tg : Expr} (hg : Gl X "range") (hm : X.mg "range" = none) (ha : PE X a (TV C W fa)) (hb : PE X b (TV C W fb)) (hs : starEach [a, b] X.env = [(false, eval a X.env), (false, eval b X.env)]) (hs2 : starEach [b] X.env = [(false, eval b X.env)]) :
    PI X tg (.Call (.Name "range" p) [a, b] [] pos) (TW C W .rng2 fa fb) :=
  (pi_range2 hg hm (pa_cons ha (pa_cons hb pa_nil hs2) (by rw [hs, hs2])) hs hs2).imp fun σv H Rk ⟨π, σ, M, rs, mr, h⟩ => ⟨π, σ, M, rs, mr, h.bind.imp fun x M1 π1 H1 l1 m1 o1 v r =>
    ⟨π1, σ, M1, rs.mono l1, m1, o1.bind.imp fun y M2 π2 H2 l2 m2 o2 w q => by
      obtain ⟨z, hz, o3⟩ := o2.opt
      cases r with
      | int i =>
        cases q with
        | int j =>
          simp only [walkD] at hz
          split at hz
          · rename_i hj
            cases hz
            exact ⟨i, j, rfl, hj, o3.ok Le.refl m2 _ feeds_rng⟩
          · cases hz
        | _ => simp [walkD] at hz
      | _ => simp [walkD] at hz⟩⟩
theorem di_rev {a tg : Expr} (hg : Gl X "reversed") (hm : X.mg "reversed" = none) (ha : PE X a (TV C W fa)) (hs : starEach [a] X.env = [(false, eval a X.env)]) : PI X tg (.Call (.Name "reversed" p) [a] [] pos) (TW C W .rev fa noB) :=
  (pi_reversed hg hm (pa_cons ha pa_nil hs) hs).imp fun σv H Rk ⟨π, σ, M, rs, mr, h⟩ => ⟨π, σ, M, rs, mr, h.bind.imp fun x M1 π1 H1 l1 m1 o1 v r => by
      obtain ⟨q, hq, o2⟩ := o1.bind.ok Le.refl m1 |> Out.opt
      cases r with
      | @ref n a e =>
        simp only [walkD] at hq
        split at hq
        · rename_i lk ds hg
          cases hq
          obtain ⟨vs, q, hr⟩ := rd_lst m1 e hg
          refine ⟨a, vs, rfl, .inl hr, ?_⟩
          rw [q.length]
          exact o2.ok Le.refl m1 _ (feeds_rev e)
        · cases hq
      | _ => simp [walkD] at hq⟩
/-! ### for -/
/-- the loop's turns, met by an iterator that feeds the items -/
theorem for_core {J : It} {π1 : List Addr} {H1 : Hp} {src : Src} {items : List D} {tg : Tg} {bd : Env → Mem → R Fl} {tb : TS} {σv : L2.St} {σ : Env} {M : Mem} {K : PySem.W.Frag} {D : Ends}
    (hf : Feeds C J π1 H1 src items) (rs : RS π1 H1 σv σ) (mr : MR C π1 H1 M) (hb : ∀ D σv H, TSd C W false bd D σv H → tb D σv H)
    (h : OutS C W false π1 H1 σv (forTurns src (fun d σ M => match bindT tg d σ with | none => .bad | some σ1 => bd σ1 M) items σ M) D) (hrt : True) :
    ∃ Wt : Nat → Nat → L2.St → Hp → Prop, (∃ m, Wt 0 m σv H1) ∧ ∀ i m σv H, Wt i m σv H →
      (J.stop i H ∧ D.nx σv H) ∨ (J.go i H ∧ ∃ N : L2.St → Hp → Prop, (∀ σ' H', N σ' H' → ∃ m', m' < m ∧ Wt (i + 1) m' σ' H') ∧ ∀ x H', J.yld i H x H' → gOf K tg x σv H' fun σ2 H2 => tb { D with nx := N, ct := N, bk := D.nx } σ2 H2) := by
  refine ⟨fun i m σv H => ∃ π σ M, Le π1 H1 π H ∧ RS π H σv σ ∧ MR C π H M ∧ m = items.length - i ∧ i ≤ items.length ∧
    OutS C W false π H σv (forTurns src (fun d σ M => match bindT tg d σ with | none => .bad | some σ1 => bd σ1 M) (items.drop i) σ M) D, ⟨items.length, π1, σ, M, Le.refl, rs, mr, rfl, Nat.zero_le _, h⟩, ?_⟩
  rintro i m σv H ⟨π, σ, M, l, rs, mr, rfl, hi, h⟩
  by_cases hlt : i < items.length
  · rw [List.drop_eq_getElem_cons hlt] at h
    simp only [forTurns] at h
    split at h
    · rename_i hs
      obtain ⟨_, k2⟩ := hf π H M l mr hs
      obtain ⟨go, yl⟩ := k2 i items[i] (List.getElem?_eq_getElem hlt)
      refine .inr ⟨go, fun σ' H' => ∃ π' σ1 M', Le π1 H1 π' H' ∧ RS π' H' σ' σ1 ∧ MR C π' H' M' ∧ OutS C W false π' H' σ' (forTurns src (fun d σ M => match bindT tg d σ with | none => .bad | some σ1 => bd σ1 M) (items.drop (i + 1)) σ1 M') D, ?_, fun x H' y => ?_⟩
      · rintro σ' H' ⟨π', σ1, M', l', rs', m', o⟩
        exact ⟨items.length - (i + 1), by omega, π', σ1, M', l', rs', m', rfl, hlt, o⟩
      · obtain ⟨m2, l2, r2⟩ := yl x H' y
        have lx : Le π1 H1 π H' := l.trans l2
        cases hbt : bindT tg items[i] σ with
        | none => simp only [hbt] at h; exact h.elim
        | some σ1 =>
          simp only [hbt] at h
          refine g_bind hbt r2 (rs.mono l2) fun σv' rs' => hb _ _ _ ⟨π, σ1, M, rs', m2, ?_⟩
          -- the body's end
          have h2 := h
          revert h2
          cases bd σ1 M with
          | bad => exact fun z => z
          | exc x M' => exact fun z π' H'' s' l' m' _ => z π' H'' s' (l2.trans l') m' (fun z => nomatch z)
          | ok f M' =>
            cases f with
            | nx σ2 => exact fun z π' H'' s' l' m' r' _ => ⟨π', σ2, M', lx.trans l', r', m', OutS.any ((OutS.mono (show OutS C W false π H σv _ D from z) (l2.trans l')))⟩
            | ct σ2 => exact fun z π' H'' s' l' m' r' _ => ⟨π', σ2, M', lx.trans l', r', m', OutS.any ((OutS.mono (show OutS C W false π H σv _ D from z) (l2.trans l')))⟩
            | bk σ2 => exact fun z π' H'' s' l' m' r' _ => (show OutS C W false π H σv (.ok (.nx σ2) M') D from z) π' H'' s' (l2.trans l') m' r' (fun z => nomatch z)
            | rt d => exact fun z π' H'' v l' m' r' => (show OutS C W false π H σv (.ok (.rt d) M') D from z) π' H'' v (l2.trans l') m' r'
    · exact h.elim
  · have hi' : i = items.length := by omega
    subst hi'
    rw [List.drop_length] at h
    simp only [forTurns] at h
    split at h
    · rename_i hs
      obtain ⟨k1, _⟩ := hf π H M l mr hs
      exact .inl ⟨k1 _ (Nat.le_refl _), h π H σv Le.refl mr rs (fun z => nomatch z)⟩
    · exact h.elim
def isFree : Ik → Bool
  | .keys | .items | .vals => false
  | _ => true
def Src.isFree : Src → Bool
  | .dict _ _ _ => false
  | _ => true
theorem walk_free {k : Ik} (hk : isFree k = true) {x y : D} {M : Mem} {q : Src × List D} (h : walkD k x y M = some q) : q.1.isFree = true := by
  cases k <;> simp [Mj.isFree] at hk <;> cases x <;> simp only [walkD, Option.some.injEq, reduceCtorEq] at h
  all_goals first
    | (subst h; rfl)
    | (split at h <;> first | cases h; done | (simp only [Option.some.injEq] at h; subst h; rfl) | (split at h <;> first | cases h; done | (simp only [Option.some.injEq] at h; subst h; rfl)))
theorem Src.free_lock {src : Src} (h : src.isFree = true) (M : Mem) : src.lock M = M := by cases src <;> first | rfl | simp [Src.isFree] at h
theorem unlock_free {src : Src} (h : src.isFree = true) {α : Type} (r : R α) : R.unlock src r = r := by
  cases src <;> first | (simp [Src.isFree] at h; done) | (cases r <;> rfl)
theorem walkR_free {k : Ik} (hk : isFree k = true) {σ : Env} {M M2 : Mem} {q : Src × List D} (h : walkR k fa fb σ M = .ok q M2) : q.1.isFree = true := by
  unfold walkR at h
  cases h1 : fa σ M with
  | bad => rw [h1] at h; cases h
  | exc x M1 => rw [h1] at h; cases h
  | ok x M1 =>
    rw [h1] at h
    simp only [R.bind_ok] at h
    cases h2 : fb σ M1 with
    | bad => rw [h2] at h; cases h
    | exc x M1 => rw [h2] at h; cases h
    | ok y M3 =>
      rw [h2] at h
      simp only [R.bind_ok] at h
      cases h3 : walkD k x y M3 with
      | none => rw [h3] at h; cases h
      | some q' => rw [h3] at h; cases h; exact walk_free hk h3
/-- the turns of a for over a source that is not locked -/
def forR (tg : Tg) (bd : Env → Mem → R Fl) (src : Src) (items : List D) (σ : Env) (M : Mem) : R Fl :=
  R.unlock src (forTurns src (fun d σ M => match bindT tg d σ with | none => .bad | some σ1 => bd σ1 M) items σ (src.lock M))
theorem ds_for {k : Ik} {tg : Tg} {tge iter : Expr} {body rest : List Stmt} {bd fr : Env → Mem → R Fl} (hk : isFree k = true) (hp : PassesOwn (model X.prog X.w) X.A X.env X.xe) (hc : X.calm = true) (hi : PI X tge iter (TW C W k fa fb)) (hg : PG X tge (gOf X.K tg)) (hb : PSs X body (TSd C W false bd))
    (hs : ∀ x, foldedSetIterable iter X.env x = pure x) (hr : PSs X rest (TSd C W false fr)) :
    PSs X (.For tge iter body [] pos :: rest) (TSd C W false fun σ M => (walkR k fa fb σ M).bind fun p M2 => thenF (forR tg bd p.1 p.2 σ M2) fr) :=
  (pss_cons (ps_for hp hc hi hg hb hs) hr).imp fun D σv H ⟨π, σ, M, rs, mr, h⟩ => ⟨π, σ, M, rs, mr, by
    have h1 := h.bind
    cases hw : walkR k fa fb σ M with
    | bad => rw [hw] at h1; exact h1
    | exc x M1 => rw [hw] at h1; exact h1
    | ok q M2 =>
      rw [hw] at h1
      have fr' := walkR_free hk hw
      intro π' H' l m J hf
      have h2 := h1.ok l m
      unfold forR at h2
      rw [unlock_free fr', Src.free_lock fr'] at h2
      exact for_core (D := { D with nx := TSd C W false fr D }) hf (rs.mono l) m (fun D σv H z => z) h2.thenF trivial⟩
/-! ### while -/
theorem ds_whl {c : Expr} {ft : Env → Mem → R Bool} {body rest : List Stmt} {bd fr : Env → Mem → R Fl} (hp : PassesOwn (model X.prog X.w) X.A X.env X.xe) (hc : PT X c (TB C W ft)) (hb : PSs X body (TSd C W false bd)) (hr : PSs X rest (TSd C W false fr)) :
    PSs X (.While c body [] pos :: rest) (TSd C W false fun σ M => thenF (whlTurns ft bd fuel σ M) fr) :=
  (pss_cons (ps_while hp hc hb) hr).imp fun D σv H ⟨π, σ, M, rs, mr, h⟩ => by
    have h0 : OutS C W false π H σv (whlTurns ft bd fuel σ M) { D with nx := TSd C W false fr D } := h.thenF
    refine ⟨fun m σv H => ∃ π σ M, RS π H σv σ ∧ MR C π H M ∧ OutS C W false π H σv (whlTurns ft bd m σ M) { D with nx := TSd C W false fr D }, ⟨fuel, π, σ, M, rs, mr, h0⟩, ?_⟩
    rintro m σv H ⟨π, σ, M, rs, mr, h⟩
    cases m with
    | zero => exact h.elim
    | succ n =>
      simp only [whlTurns] at h
      refine ⟨π, σ, M, rs, mr, h.bind.imp fun t M1 π1 H1 l1 m1 o1 => ?_⟩
      cases t with
      | false =>
        simp only [Bool.false_eq_true, if_false] at o1 ⊢
        exact o1 π1 H1 σv Le.refl m1 (rs.mono l1) (fun z => nomatch z)
      | true =>
        simp only [if_true] at o1 ⊢
        refine ⟨fun σ' H' => ∃ π' σ1 M', RS π' H' σ' σ1 ∧ MR C π' H' M' ∧ OutS C W false π' H' σ' (whlTurns ft bd n σ1 M') { D with nx := TSd C W false fr D }, fun σ' H' q => ⟨n, Nat.lt_succ_self n, q⟩, π1, σ, M1, rs.mono l1, m1, ?_⟩
        revert o1
        cases bd σ M1 with
        | bad => exact fun z => z
        | exc x M' => exact fun z => z
        | ok f M' =>
          cases f with
          | nx σ2 => exact fun z π' H'' s' l' m' r' _ => ⟨π', σ2, M', r', m', OutS.any ((OutS.mono (show OutS C W false π1 H1 σv (whlTurns ft bd n σ2 M') _ from z) l'))⟩
          | ct σ2 => exact fun z π' H'' s' l' m' r' _ => ⟨π', σ2, M', r', m', OutS.any ((OutS.mono (show OutS C W false π1 H1 σv (whlTurns ft bd n σ2 M') _ from z) l'))⟩
          | bk σ2 => exact fun z => z
          | rt d => exact fun z => z
end
end Mj

set_option Elab.async false
set_option linter.all false
set_option autoImplicit false
set_option maxRecDepth 100000
set_option maxHeartbeats 4000000
/-! Comprehensions over data. -/
namespace Mj
open PySem PySem.Spec L2
section
variable {C : Cw} {W : WD} {X : Cx} {fa fb : Env → Mem → R D} {pos p : Pos}
/-- no exception is allowed -/
def WF : WD := fun _ _ _ _ _ => False
theorem RS.wipe {π : List Addr} {H : Hp} {σv : L2.St} {σ : Env} (rs : RS π H σv σ) : ∀ vs : List Nat, RS π H (wipe σv vs) (wipeD σ vs)
  | [] => rs
  | v :: vs => (RS.wipe rs vs).unset v
theorem wipe_get (σ : L2.St) : ∀ (vs : List Nat) (j : Nat), (wipe σ vs)[j]? = if j ∈ vs then (if j < σ.length then some none else none) else σ[j]?
  | [], j => by simp [wipe]
  | v :: vs, j => by
    unfold wipe
    rw [List.getElem?_set, wipe_length, wipe_get σ vs j]
    by_cases hv : v = j
    · subst hv
      by_cases hl : v < σ.length
      · simp [hl]
      · simp [hl]
    · have : ¬ j = v := fun e => hv e.symm
      simp [hv, this]
theorem wipe_set (σ : L2.St) {vs : List Nat} {i : Nat} (x : Option V) (h : i ∈ vs) : wipe (σ.set i x) vs = wipe σ vs := by
  apply List.ext_getElem?
  intro j
  rw [wipe_get, wipe_get, List.length_set]
  by_cases hj : j ∈ vs
  · simp [hj]
  · have : i ≠ j := fun e => hj (e ▸ h)
    simp [hj, List.getElem?_set_ne this]
theorem wipe_wipe (σ : L2.St) (vs : List Nat) : wipe (wipe σ vs) vs = wipe σ vs := by
  apply List.ext_getElem?
  intro j
  rw [wipe_get, wipe_get, wipe_length]
  by_cases hj : j ∈ vs <;> simp [hj]
def tgIn (vs : List Nat) : Tg → Bool
  | .n i => decide (i ∈ vs)
  | .t is => is.all fun i => decide (i ∈ vs)
theorem gs_bind2 {π : List Addr} {H : Hp} {Q : L2.St → Hp → Prop} {ws : List Nat} : ∀ {is : List Nat} {vs : List V} {ds : List D} {σv : L2.St} {σ : Env}, ds.length = is.length → (is.all fun i => decide (i ∈ ws)) = true → Rps π H vs ds → RS π H σv σ → (∀ σv', RS π H σv' (bindAll is ds σ) → wipe σv' ws = wipe σv ws → Q σv' H) → gsOf is vs σv H Q
  | [], vs, ds, σv, σ, hl, _, r, rs, k => by
    have : ds = [] := List.length_eq_zero_iff.mp hl
    subst this
    cases r
    exact ⟨rfl, k σv rs rfl⟩
  | i :: is, vs, ds, σv, σ, hl, hw, r, rs, k => by
    simp only [List.all_cons, Bool.and_eq_true, decide_eq_true_eq] at hw
    cases r with
    | nil => simp at hl
    | cons r1 r2 =>
      refine ⟨_, _, rfl, gs_bind2 (by simpa using hl) hw.2 r2 (rs.set r1 i) fun σv' rs' e => k σv' rs' (e.trans (wipe_set σv _ hw.1))⟩
theorem g_bind2 {K : PySem.W.Frag} {π : List Addr} {H : Hp} {Q : L2.St → Hp → Prop} {ws : List Nat} {tg : Tg} {v : V} {d : D} {σv : L2.St} {σ σ1 : Env} (hb : bindT tg d σ = some σ1) (hw : tgIn ws tg = true) (r : Rp π H v d) (rs : RS π H σv σ)
    (k : ∀ σv', RS π H σv' σ1 → wipe σv' ws = wipe σv ws → Q σv' H) : gOf K tg v σv H Q := by
  cases tg with
  | n i =>
    simp only [bindT, Option.some.injEq] at hb
    subst hb
    exact k _ (rs.set r i) (wipe_set σv _ (by simpa [tgIn] using hw))
  | t is =>
    cases d with
    | tup ds =>
      simp only [bindT] at hb
      split at hb
      · rename_i hl
        cases hb
        cases r with
        | tup e q => exact ⟨_, _, rfl, SqT.of e, by rw [q.length]; exact hl, gs_bind2 hl hw q rs k⟩
      · cases hb
    | _ => simp [bindT] at hb
mutual
theorem Rp.grow {π π' : List Addr} {H : Hp} (up : ∀ (n : Nat) (a : Addr), π[n]? = some a → π'[n]? = some a) : ∀ {v : V} {d : D}, Rp π H v d → Rp π' H v d
  | _, _, .non => .non
  | _, _, .bl b => .bl b
  | _, _, .int i => .int i
  | _, _, .str x => .str x
  | _, _, .ref h => .ref (up _ _ h)
  | _, _, .tup h r => .tup h (Rps.grow up r)
theorem Rps.grow {π π' : List Addr} {H : Hp} (up : ∀ (n : Nat) (a : Addr), π[n]? = some a → π'[n]? = some a) : ∀ {vs : List V} {ds : List D}, Rps π H vs ds → Rps π' H vs ds
  | _, _, .nil => .nil
  | _, _, .cons h t => .cons (Rp.grow up h) (Rps.grow up t)
end
theorem mok_grow {π π' : List Addr} {H : Hp} (up : ∀ (n : Nat) (a : Addr), π[n]? = some a → π'[n]? = some a) {a : Addr} {o : MO} (h : MOk C π H a o) : MOk C π' H a o := by
  have kv : ∀ {κ : Type} {f : κ → D} {r : List (κ × V)} {s : List (D × D)}, KVs π H f r s → KVs π' H f r s := by
    intro κ f r s q
    induction q with
    | nil => exact .nil
    | cons h _ ih => exact .cons (h.grow up) ih
  have fs' : ∀ {r : List (Str × V)} {s : List (Nat × D)}, FsR C π H r s → FsR C π' H r s := by
    intro r s q
    induction q with
    | nil => exact .nil
    | cons n h _ ih => exact .cons n (h.grow up) ih
  cases o with
  | lst lk ds => obtain ⟨vs, r, h⟩ := h; exact ⟨vs, r.grow up, h⟩
  | dct lk kvs =>
    obtain ⟨u, r, h⟩ := h
    refine ⟨u, ?_, h⟩
    cases r with
    | k r => exact .k (kv r)
    | t r => exact .t (kv r)
  | ins c fs => obtain ⟨dx, gs, r, h⟩ := h; exact ⟨dx, gs, fs' r, h⟩
/-- a thing beside the cells comes into the memory -/
theorem MR.adopt {π : List Addr} {H : Hp} {M : Mem} {p : Addr} {o : MO} (R : MR C π H M) (hn : ∀ n : Nat, π[n]? ≠ some p) (h : MOk C (π ++ [p]) H p o) : MR C (π ++ [p]) H (M.push o) := by
  have spl : ∀ (n : Nat) (a : Addr), (π ++ [p])[n]? = some a → π[n]? = some a ∨ (n = π.length ∧ a = p) := fun n a e => by
    rw [List.getElem?_append] at e
    split at e
    · exact .inl e
    · rename_i h1
      obtain ⟨h2, h3⟩ := List.getElem?_eq_some_iff.mp e
      have h4 : n - π.length < 1 := h2
      have h5 : n - π.length = 0 := by omega
      refine .inr ⟨by omega, ?_⟩
      simp [h5] at h3
      exact h3.symm
  have up : ∀ (n : Nat) (a : Addr), π[n]? = some a → (π ++ [p])[n]? = some a := fun n a e => by rw [List.getElem?_append_left (List.getElem?_eq_some_iff.mp e).1]; exact e
  refine ⟨by rw [Mem.size_push, List.length_append, R.len]; rfl, fun n m a e1 e2 => ?_, fun n o' e => ?_⟩
  · rcases spl n a e1 with h1 | ⟨h1, h1'⟩ <;> rcases spl m a e2 with h2 | ⟨h2, h2'⟩
    · exact R.nd n m a h1 h2
    · exact absurd (h2' ▸ h1) (hn n)
    · exact absurd (h1' ▸ h2) (hn m)
    · omega
  · by_cases hk : n = M.size
    · subst hk
      rw [Mem.get_push_self] at e
      cases e
      exact ⟨p, by rw [← R.len]; simp, h⟩
    · rw [Mem.get_push_ne hk] at e
      obtain ⟨b, hb, k⟩ := R.ok n o' e
      exact ⟨b, up _ _ hb, mok_grow up k⟩
/-- what a comprehension brings, told at its start -/
def OutL (C : Cw) (π1 : List Addr) (H1 : Hp) (r : R (List D)) (Q : VK) : Prop :=
  match r with
  | .ok acc M => ∀ π H, Le π1 H1 π H → MR C π H (M.push (.lst false acc)) → ∀ v, Rp π H v (.ref M.size) → Q v H
  | _ => False
def lcBody (tg : Tg) (own : List Nat) (yes : Bool) (fc : Env → Mem → R Bool) (fe : Env → Mem → R D) (σ : Env) (d : D) (M : Mem) : R (Option D) :=
  match bindT tg d (wipeD σ own) with
  | none => .bad
  | some σ1 => if yes then (fe σ1 M).bind fun z M' => .ok (some z) M' else (fc σ1 M).bind fun t M2 => if t then (fe σ1 M2).bind fun z M' => .ok (some z) M' else .ok none M2
/-- the tests of a comprehension -/
def tIfs (C : Cw) (yes : Bool) (fc : Env → Mem → R Bool) : TT := if yes then tYes else TB C WF fc
theorem lc_core' {J : It} {π1 : List Addr} {H1 : Hp} {src : Src} {items : List D} {tg : Tg} {own : List Nat} {yes : Bool} {fc : Env → Mem → R Bool} {fe : Env → Mem → R D} {σv : L2.St} {σ : Env} {M : Mem} {K : PySem.W.Frag} {Q : VK} {Dl : Addr}
    (hf : Feeds C J π1 H1 src items) (rs : RS π1 H1 σv σ) (mr : MR C π1 H1 M) (hw : tgIn own tg = true) (hD : H1 Dl = none) (h : OutL C π1 H1 (lcTurns src (lcBody tg own yes fc fe σ) items M []) Q) :
    ∃ Wt : Nat → Nat → Hp → Prop, (∃ m, Wt 0 m (upd H1 Dl (.lst []))) ∧ ∀ i m H, Wt i m H →
      (J.stop i H ∧ Q (.ref Dl) H) ∨ (J.go i H ∧ ∃ Nx : Hp → Prop, (∀ H', Nx H' → ∃ m', m' < m ∧ Wt (i + 1) m' H') ∧ ∀ x H', J.yld i H x H' → gOf K tg x (wipe σv own) H' fun σ2 H2 => wipe σ2 own = wipe σv own ∧ tIfs C yes fc σ2 H2 fun b H3 =>
        if b = true then TV C WF fe σ2 H3 fun y H4 => ∃ acc, H4 Dl = some (.lst acc) ∧ acc.length < sizeLine ∧ Nx (upd H4 Dl (.lst (acc ++ [y]))) else Nx H3) := by
  let St (i : Nat) (H : Hp) : Prop := ∃ π M acc av, Le π1 H1 π H ∧ (∀ n : Nat, π[n]? ≠ some Dl) ∧ H Dl = some (.lst av) ∧ Rps π H av acc ∧ MR C π H M ∧ i ≤ items.length ∧ OutL C π1 H1 (lcTurns src (lcBody tg own yes fc fe σ) (items.drop i) M acc) Q
  have hn1 : ∀ n : Nat, π1[n]? ≠ some Dl := fun n e => by
    obtain ⟨o, ho⟩ : ∃ o, M.get n = some o := ⟨_, List.getElem?_eq_getElem (by have := (List.getElem?_eq_some_iff.mp e).1; rw [mr.len] at this; exact this)⟩
    obtain ⟨w, hw⟩ := (mr.at ho e).some
    rw [hD] at hw; cases hw
  refine ⟨fun i m H => m = items.length - i ∧ St i H, ⟨items.length, rfl, π1, M, [], [], Le.more (upd_fresh hD), hn1, upd_same, .nil, (mr.tuples (upd_fresh hD)).1, Nat.zero_le _, h⟩, ?_⟩
  rintro i m H ⟨rfl, π, M, acc, av, l, hn, hDl, ra, m, hi, o⟩
  by_cases hlt : i < items.length
  · rw [List.drop_eq_getElem_cons hlt] at o
    simp only [lcTurns] at o
    split at o
    · rename_i hs
      obtain ⟨_, k2⟩ := hf π H M l m hs
      obtain ⟨go, yl⟩ := k2 i items[i] (List.getElem?_eq_getElem hlt)
      refine .inr ⟨go, fun H' => St (i + 1) H', fun H' q => ⟨items.length - (i + 1), by omega, rfl, q⟩, fun x H' y => ?_⟩
      obtain ⟨m2, l2, r2⟩ := yl x H' y
      have lx : Le π1 H1 π H' := l.trans l2
      have hDl2 := l2.fr Dl _ hn hDl
      have ra2 := ra.mono l2
      -- the turn's end
      have fin : ∀ (π4 : List Addr) (H4 : Hp) (M4 : Mem) (z : D) (w : V), Le π H' π4 H4 → MR C π4 H4 M4 → Rp π4 H4 w z → OutL C π1 H1 (if acc.length < sizeLine then lcTurns src (lcBody tg own yes fc fe σ) (items.drop (i + 1)) M4 (acc ++ [z]) else .bad) Q →
          ∃ acc, H4 Dl = some (.lst acc) ∧ acc.length < sizeLine ∧ St (i + 1) (upd H4 Dl (.lst (acc ++ [w]))) := by
        intro π4 H4 M4 z w l4 m4 rz o4
        split at o4
        · rename_i hz
          have hn4 : ∀ n : Nat, π4[n]? ≠ some Dl := fun n e => (l4.nw n Dl e).elim (hn n) fun q => by rw [hDl2] at q; cases q
          have hD4 := l4.fr Dl _ hn hDl2
          have ra4 := ra2.mono l4
          have nt : ∀ xs, H4 Dl ≠ some (.tup xs) := fun xs q => by rw [hD4] at q; cases q
          have kt : ∀ c xs, H4 c = some (.tup xs) → upd H4 Dl (.lst (av ++ [w])) c = some (.tup xs) := fun c xs q => by rw [upd_ne (fun e => by subst e; exact nt xs q)]; exact q
          have l5 := lx.trans l4
          refine ⟨av, hD4, by rw [ra.length]; exact hz, π4, M4, acc ++ [z], av ++ [w], ⟨l5.pl, fun c xs q => kt c xs (l5.tp c xs q), fun c o u q => ?_, fun c o hc q => ?_, l5.nw, fun c o q => ?_⟩, hn4, upd_same, (ra4.append (.cons rz .nil)).keep kt, m4.other hn4 nt, hlt, o4⟩
          · rw [upd_ne (fun e => by subst e; rw [hD] at q; cases q)]; exact l5.fz c o u q
          · rw [upd_ne (fun e => by subst e; rw [hD] at q; cases q)]; exact l5.fr c o hc q
          · rw [upd_ne (fun e => by subst e; rw [hD] at q; cases q)]; exact l5.st c o q
        · exact o4.elim
      have fin0 : ∀ (π4 : List Addr) (H4 : Hp) (M4 : Mem), Le π H' π4 H4 → MR C π4 H4 M4 → OutL C π1 H1 (lcTurns src (lcBody tg own yes fc fe σ) (items.drop (i + 1)) M4 acc) Q → St (i + 1) H4 := fun π4 H4 M4 l4 m4 o4 =>
        ⟨π4, M4, acc, av, lx.trans l4, (fun n e => (l4.nw n Dl e).elim (hn n) fun q => by rw [hDl2] at q; cases q), l4.fr Dl _ hn hDl2, ra2.mono l4, m4, hlt, o4⟩
      unfold lcBody at o
      cases hbt : bindT tg items[i] (wipeD σ own) with
      | none => simp only [hbt] at o; exact o.elim
      | some σ1 =>
        simp only [hbt] at o
        refine g_bind2 (ws := own) hbt hw r2 (((rs.mono lx).wipe own)) fun σv' rs' e => ⟨e.trans (wipe_wipe σv own), ?_⟩
        have elt : ∀ (π3 : List Addr) (H3 : Hp) (M3 : Mem), Le π H' π3 H3 → MR C π3 H3 M3 → OutL C π1 H1 (((fe σ1 M3).bind fun z M' => .ok (some z) M').bind fun o M1 => match o with
            | some d => if acc.length < sizeLine then lcTurns src (lcBody tg own yes fc fe σ) (items.drop (i + 1)) M1 (acc ++ [d]) else .bad
            | none => lcTurns src (lcBody tg own yes fc fe σ) (items.drop (i + 1)) M1 acc) Q →
            TV C WF fe σv' H3 fun y H4 => ∃ acc, H4 Dl = some (.lst acc) ∧ acc.length < sizeLine ∧ St (i + 1) (upd H4 Dl (.lst (acc ++ [y]))) := by
          intro π3 H3 M3 l3 m3 o3
          refine ⟨π3, σ1, M3, rs'.mono l3, m3, ?_⟩
          revert o3
          cases fe σ1 M3 with
          | bad => exact fun z => z
          | exc x M' => exact fun z => z.elim
          | ok z M4 => exact fun q π4 H4 l4 m4 w rw' => fin π4 H4 M4 z w (l3.trans l4) m4 rw' q
        unfold tIfs
        cases yes with
        | true =>
          simp only [if_true] at o ⊢
          exact elt π H' M Le.refl m2 o
        | false =>
          simp only [Bool.false_eq_true, if_false] at o ⊢
          refine ⟨π, σ1, M, rs', m2, ?_⟩
          revert o
          cases fc σ1 M with
          | bad => exact fun z => z
          | exc x M' => exact fun z => z.elim
          | ok t M3 =>
            intro o π3 H3 l3 m3
            cases t with
            | true =>
              simp only [if_true]
              exact elt π3 H3 M3 l3 m3 o
            | false =>
              simp only [Bool.false_eq_true, if_false]
              exact fin0 π3 H3 M3 l3 m3 o
    · exact o.elim
  · have hi' : i = items.length := by omega
    subst hi'
    rw [List.drop_length] at o
    simp only [lcTurns] at o
    split at o
    · rename_i hs
      obtain ⟨k1, _⟩ := hf π H M l m hs
      refine .inl ⟨k1 _ (Nat.le_refl _), ?_⟩
      have up : ∀ (n : Nat) (a : Addr), π[n]? = some a → (π ++ [Dl])[n]? = some a := fun n a e => by rw [List.getElem?_append_left (List.getElem?_eq_some_iff.mp e).1]; exact e
      have m2 := m.adopt (o := .lst false acc) hn ⟨av, ra.grow up, hDl⟩
      refine o (π ++ [Dl]) H ⟨fun n a e => up n a (l.pl n a e), l.tp, l.fz, l.fr, fun n a e => ?_, l.st⟩ m2 (.ref Dl) (.ref (by rw [← m.len]; simp))
      rw [List.getElem?_append] at e
      split at e
      · exact l.nw n a e
      · rename_i h1
        obtain ⟨h2, h3⟩ := List.getElem?_eq_some_iff.mp e
        have h4 : n - π.length < 1 := h2
        have h5 : n - π.length = 0 := by omega
        simp [h5] at h3
        exact .inr (by rw [← h3]; exact hD)
    · exact o.elim
/-- [elt for target in iter if ..] -/
theorem lc_read {k : Ik} {tg : Tg} {own : List Nat} {yes : Bool} {fc : Env → Mem → R Bool} {fe : Env → Mem → R D} (hk : isFree k = true) (hw : tgIn own tg = true) {σv : L2.St} {H : Hp} {Q : VK}
    (h : TV C W (fun σ M => (walkR k fa fb σ M).bind fun p M2 => (R.noexc (R.unlock p.1 (lcTurns p.1 (lcBody tg own yes fc fe σ) p.2 (p.1.lock M2) []))).bind fun acc M3 => .ok (.ref M3.size) (M3.push (.lst false acc))) σv H Q) :
    tLc (TW C W k fa fb) (gOf X.K tg) (tIfs C yes fc) (TV C WF fe) own σv H Q := by
  obtain ⟨π, σ, M, rs, mr, h⟩ := h
  refine ⟨π, σ, M, rs, mr, ?_⟩
  have h1 := h.bind
  cases hw' : walkR k fa fb σ M with
  | bad => rw [hw'] at h1; exact h1
  | exc x M1 => rw [hw'] at h1; exact h1
  | ok q M2 =>
    rw [hw'] at h1
    have fr' := walkR_free hk hw'
    intro π' H' l m J hf Dl hD
    have h2 := h1.ok l m
    rw [unlock_free fr', Src.free_lock fr'] at h2
    refine lc_core' hf (rs.mono l) m hw hD ?_
    revert h2
    cases lcTurns q.1 (lcBody tg own yes fc fe σ) q.2 M2 [] with
    | bad => exact fun z => z
    | exc x M' => exact fun z => z
    | ok acc M3 => exact fun z π3 H3 l3 m3 v r => z π3 H3 l3 m3 v r
end
end Mj

set_option Elab.async false
set_option linter.all false
set_option autoImplicit false
set_option maxRecDepth 100000
set_option maxHeartbeats 4000000
/-! join, replace, chained comparisons. -/
namespace Mj
open PySem PySem.Spec L2
section
variable {C : Cw} {W : WD} {X : Cx} {fa fb fc : Env → Mem → R D} {pos p : Pos}
theorem strsOf_rps {π : List Addr} {H : Hp} : ∀ {ds : List D} {ys : List Str} {vs : List V}, strsOf ds = some ys → Rps π H vs ds → vs = ys.map V.str
  | [], ys, vs, h, r => by
    simp only [strsOf, Option.some.injEq] at h
    subst h; cases r; rfl
  | d :: ds, ys, vs, h, r => by
    cases d with
    | str x =>
      simp only [strsOf] at h
      obtain ⟨zs, hz, rfl⟩ := Option.map_eq_some_iff.mp h
      cases r with
      | cons r1 r2 => cases r1; rw [strsOf_rps hz r2]; rfl
    | _ => simp [strsOf] at h
theorem bm_join : MtR X "str.join" (RMd C .join) := by
  intro pins s σ H x xs v us Q I rx rs ⟨π, d, ds, M, r1, r2, m, o⟩
  match d, ds, r1, r2, o with
  | .str a, [.ref n], r1, r2, o =>
    cases r1
    obtain ⟨w, rfl, rw'⟩ := rps1 r2
    cases rw' with
    | @ref k b e =>
    simp only [bmD] at o
    split at o
    · rename_i lk es hg
      split at o
      · rename_i ys hy
        split at o
        · rename_i hz
          obtain ⟨vs, q, hr⟩ := rd_lst m e hg
          have hv := strsOf_rps hy q
          subst hv
          exact mt_join pins s σ H _ _ v us Q I rx rs ⟨a, b, ys, rfl, rfl, .inl (.inl hr), hz, OutO.ok o Le.refl m _ (.str _)⟩
        · exact o.elim
      · exact o.elim
    · exact o.elim
theorem bm_isdigit : MtR X "str.isdigit" (RMd C .isdigit) := by
  intro pins s σ H x xs v us Q I rx rs ⟨π, d, ds, M, r1, r2, m, o⟩
  match d, ds, r1, r2, o with
  | .str a, [], r1, r2, o =>
    cases r1
    cases r2
    simp only [bmD] at o
    exact mt_isdigit pins s σ H _ _ v us Q I rx rs ⟨a, rfl, rfl, trivial, OutO.ok o Le.refl m _ (.bl _)⟩
/-! ### replace: its texts are written, a token has been given out -/
def PEt (X : Cx) (e : Expr) (t : TE) : Prop :=
  ∀ (pins : List (Addr × Obj)) (s : Shared) (σ : L2.St) (H : Hp) (Q : VK), 1 ≤ s.toks → Inv X pins σ H s → t σ H Q → wpAny (model X.prog X.w) X.A (eval e X.env) (fun v s' => 1 ≤ s'.toks ∧ EP X pins σ Q v s') X.xe s
theorem pet_of {e : Expr} {t : TE} (h : PE X e t) : PEt X e t := fun pins s σ H Q h1 I q => wpAny_mono (PySem.wpAny_toks_of h1 (h.run pins s σ H Q I q)) (fun _ _ z => z) fun _ _ z => z.2
def repR (f : Env → Mem → R D) (y z : Str) : Env → Mem → R D := fun σ M => (f σ M).bind fun x M1 => if isBt .str x M1 then R.lift (bmD .replace x [.str y, .str z] M1) else .bad
theorem pet_repl {o : Expr} {y z : Str} {j0 j1 : Nat} {c0 c1 apos : Pos} (ho : PEt X o (TV C W fa)) (hbase : attributeBase o "replace" X.env (eval o X.env) = eval o X.env)
    (hst : starEach [.Constant (.str y) j0 c0, .Constant (.str z) j1 c1] X.env = [(false, eval (.Constant (.str y) j0 c0) X.env), (false, eval (.Constant (.str z) j1 c1) X.env)]) (hline : (apos.endLine == pos.line) = true) :
    PEt X (.Call (.Attribute o "replace" apos) [.Constant (.str y) j0 c0, .Constant (.str z) j1 c1] [] pos) (TV C W (repR fa y z)) := by
  intro pins s σ H Q h1 I ⟨π, σd, M, rs, mr, h⟩
  refine wpAny_mono (PySem.wpAny_toks_of h1 ?_) (fun _ _ z => z) fun _ _ z => z.2
  have hq : TV C W fa σ H (fun v H1 => ∃ (x : Str) (M1 : Mem) (π1 : List Addr), v = .str x ∧ MR C π1 H1 M1 ∧ (y == z) = false ∧ x.length + (x.length + 1) * z.length ≤ 16777216 ∧ Q (.str (Txt.replace x y z)) H1) := ⟨π, σd, M, rs, mr, by
    unfold repR at h
    refine h.bind.imp fun d M1 π1 H1 l1 m1 o1 v r1 => ?_
    split at o1
    · cases r1 with
      | str x =>
        have o2 := o1.lift
        simp only [bmD] at o2
        split at o2
        · rename_i hb
          exact ⟨x, M1, π1, rfl, m1, hb.1, hb.2, OutO.ok o2 Le.refl m1 _ (.str _)⟩
        · exact o2.elim
      | _ => exact o1.elim
    · exact o1.elim⟩
  refine PySem.Call_method2 hbase hst hline (wpAny_mono (ho pins s σ H _ h1 I hq) (fun u s1 hh => ?_) fun _ _ z => z)
  obtain ⟨ht, v, H1, I1, r1, x, M1, π1, rfl, m1, hyz, hb, q⟩ := hh
  obtain ⟨tx, rfl⟩ := r1
  refine ⟨"str", _, F.plainAttrs_str, F.slot_str_replace, F.type_str_replace, typeIs_str _ _ _, (fun _ e => nomatch e), Calls.callWith_builtin rfl (Calls.evalArgs_plain (Calls.spliced_cons ?_))⟩
  refine Calls.Constant_str (Calls.spliced_cons (Calls.Constant_str (Calls.spliced_nil ?_)))
  exact PySem.SC.replace (show s1.toks ≠ 0 by omega) (show s1.toks + 1 ≠ 0 by omega) (show s1.toks ≠ s1.toks + 1 by omega) hyz hb fun t' k => ⟨.str (Txt.replace x y z), H1, I1.tok k, ⟨t', rfl⟩, q⟩
/-- 'text' + e: a token has been given out ahead of e -/
theorem de_addT {op : Operator} {q : Str} {j : Nat} {c : Pos} {b : Expr} (ho : OpR X (binaryOp op) (RD C (binD op))) (hb : PEt X b (TV C W fb)) :
    PE X (.BinOp (.Constant (.str q) j c) op b pos) (TV C W fun σ M => (fb σ M).bind fun y M2 => R.lift (binD op (.str q) y M2)) := by
  refine ⟨fun pins s σ H Q I ⟨π, σd, M, rs, mr, h⟩ => ?_⟩
  have hq : TV C W fb σ H (fun v H1 => RD C (binD op) (.str q) v H1 Q) := ⟨π, σd, M, rs, mr, h.bind.imp fun y M2 π2 H2 l2 m2 o2 v2 r2 => ⟨π2, .str q, y, M2, .str q, r2, m2, o2.lift⟩⟩
  refine wpAny_BinOp (Calls.Constant_str ?_)
  refine wpAny_mono (hb pins _ σ H _ (Nat.le_add_left 1 s.toks) (I.tok (s.toks + 1)) hq) (fun u s2 hh => ?_) fun _ _ z => z
  obtain ⟨_, v, H2, I2, r2, q2⟩ := hh
  exact ho pins s2 σ H2 (.str q) v _ u Q I2 ⟨_, rfl⟩ r2 q2
/-! ### a < b < c as a value -/
theorem de_chain {op op' : CmpOp} {f f' : D → D → Mem → Option Bool} {a b c : Expr} (ho : OpR X (compareOp op) (RD C (boolR f))) (ho' : OpR X (compareOp op') (RD C (boolR f'))) (ha : PE X a (TV C W fa)) (hb : PE X b (TV C W fb)) (hc : PE X c (TV C W fc))
    (hm : lastMarks [op, op'] [b, c] = false) :
    PE X (.Compare a [op, op'] [b, c] pos) (TV C W fun σ M => (fa σ M).bind fun x M1 => (fb σ M1).bind fun y M2 => (R.opt (f x y M2) M2).bind fun t M3 => if t then (fc σ M3).bind fun z M4 => (R.opt (f' y z M4) M4).bind fun t M5 => .ok (.bl t) M5 else .ok (.bl false) M3) :=
  (pe_chain (op_RB ho) (op_RB ho') ha hb hc hm).imp fun _ _ _ ⟨π, σ, M, rs, mr, h⟩ => ⟨π, σ, M, rs, mr, h.bind.imp fun x M1 π1 H1 l1 m1 o1 v1 r1 =>
    ⟨π1, σ, M1, rs.mono l1, m1, o1.bind.imp fun y M2 π2 H2 l2 m2 o2 v2 r2 => by
      obtain ⟨t, et, o3⟩ := o2.bind.opt
      refine ⟨π2, x, y, M2, t, r1.mono l2, r2, m2, et, fun π3 H3 l3 m3 => ⟨t, rfl, ?_⟩⟩
      have o4 := o3.ok l3 m3
      cases t with
      | true =>
        simp only [if_true] at o4 ⊢
        exact ⟨π3, σ, M2, ((rs.mono l1).mono l2).mono l3, m3, o4.bind.imp fun z M4 π4 H4 l4 m4 o5 v4 r4 => by
          obtain ⟨t', et', o6⟩ := o5.bind.opt
          exact ⟨π4, y, z, M4, t', (r2.mono l3).mono l4, r4, m4, et', fun π' H' l m => (o6.ok l m).ok Le.refl m _ (.bl _)⟩⟩
      | false => exact o4.ok Le.refl m3 _ (.bl _)⟩⟩
end
end Mj

set_option Elab.async false
set_option linter.all false
set_option autoImplicit false
set_option maxRecDepth 100000
set_option maxHeartbeats 4000000
/-! The rules by the codes. -/
namespace Mj
open PySem PySem.Spec L2
theorem R.bind_assoc {α β γ : Type} (r : R α) (f : α → Mem → R β) (g : β → Mem → R γ) : (r.bind f).bind g = r.bind fun a M => (f a M).bind g := by cases r <;> rfl
/-- the context's facts -/
structure Sd (X : Cx) (C : Cw) (G : Gls) : Prop where
  nd : X.N.Nodup
  calm : X.calm = true
  hu : X.A.units + 100 < cLine
  gna : G.na = C.na
section
variable {X : Cx} {C : Cw} {W : WD} {Γ : Fns} {G : Gls} {S : Sd X C G} {a b c e o : Expr} {es : List Expr} {a' b' c' e' o' : Ex} {es' : Exs} {pos p apos : Pos}
variable (X C W Γ G) in
abbrev Kx (e : Expr) (e' : Ex) : Prop := PE X e (TV C W (ev Γ G e'))
variable (X C W Γ G) in
abbrev Ka (e : List Expr) (e' : Exs) : Prop := PA X e (TAs C W (evs Γ G e'))
variable (X C W Γ G) in
abbrev Kt (e : Expr) (e' : Ex) : Prop := PT X e (TB C W (evT Γ G e'))
variable (X C W Γ G) in
abbrev Kw (e : Expr) (e' : Ex) : Prop := PW X e (TB C W (evT Γ G e'))
theorem kv (i : Nat) {x : Str} (hN : X.N[i]? = some x := by rfl) (hv : Vis X.env.scope x := by first | exact Or.inl rfl | exact Or.inr (Or.inl rfl) | exact Or.inr (Or.inr rfl)) (hd : (x == ("__debug__" : Str)) = false := by decide) (hcd : (x == ("__classdict__" : Str)) = false := by decide) : Kx X C W Γ G (.Name x pos) (.v i) := de_var hN hv hd hcd
theorem ki {i : Int} {j : Nat} : Kx X C W Γ G (.Constant (.int i) j pos) (.c (.int i)) := de_const pe_int fun _ _ => .int _
theorem ks {i : Str} {j : Nat} : Kx X C W Γ G (.Constant (.str i) j pos) (.c (.str i)) := de_const pe_str fun _ _ => .str _
theorem kb {i : Bool} {j : Nat} : Kx X C W Γ G (.Constant (.bool i) j pos) (.c (.bl i)) := de_const pe_bl fun _ _ => .bl _
theorem kn {j : Nat} : Kx X C W Γ G (.Constant .none j pos) (.c .non) := de_const pe_non fun _ _ => .non
theorem ka0 : Ka X C W Γ G [] .nil := da_nil
theorem ka (ha : Kx X C W Γ G e e') (hr : Ka X C W Γ G es es') (hs : starEach (e :: es) X.env = (false, eval e X.env) :: starEach es X.env := by rfl) : Ka X C W Γ G (e :: es) (.cons e' es') := da_cons ha hr hs
theorem ktup {k : Nat} (h : Ka X C W Γ G es es') : Kx X C W Γ G (.Tuple es k pos) (.tup es') := de_tup h
theorem klst (h : Ka X C W Γ G es es') : Kx X C W Γ G (.List es pos) (.lst es') := de_lst h
theorem kdn : Kx X C W Γ G (.Dict [] [] pos) .dnew := de_dnew
theorem kop {op : Operator} (ho : OpR X (binaryOp op) (RD C (binD op))) (ha : Kx X C W Γ G a a') (hb : Kx X C W Γ G b b') : Kx X C W Γ G (.BinOp a op b pos) (.bin op a' b') := de_op ho ha hb
theorem kaddT {op : Operator} {q : Str} {j : Nat} {cp : Pos} (ho : OpR X (binaryOp op) (RD C (binD op))) (hb : PEt X b (TV C W (ev Γ G b'))) : Kx X C W Γ G (.BinOp (.Constant (.str q) j cp) op b pos) (.bin op (.c (.str q)) b') := de_addT ho hb
theorem krep {y z : Str} {j0 j1 : Nat} {c0 c1 : Pos} (ho : PEt X o (TV C W (ev Γ G o'))) (hbase : attributeBase o "replace" X.env (eval o X.env) = eval o X.env := by rfl)
    (hst : starEach [.Constant (.str y) j0 c0, .Constant (.str z) j1 c1] X.env = [(false, eval (.Constant (.str y) j0 c0) X.env), (false, eval (.Constant (.str z) j1 c1) X.env)] := by rfl) (hline : (apos.endLine == pos.line) = true := by rfl) :
    PEt X (.Call (.Attribute o "replace" apos) [.Constant (.str y) j0 c0, .Constant (.str z) j1 c1] [] pos) (TV C W (ev Γ G (.bm .replace o' (.cons (.c (.str y)) (.cons (.c (.str z)) .nil))))) := pet_repl ho hbase hst hline
theorem kneg (ha : Kx X C W Γ G a a') : Kx X C W Γ G (.UnaryOp .USub a pos) (.neg a') := de_neg ha
theorem knot (ha : Kx X C W Γ G a a') : Kx X C W Γ G (.UnaryOp .Not a pos) (.not a') := de_not ha
theorem kcmp {op : CmpOp} (S : Sd X C G) (ha : Kx X C W Γ G a a') (hb : Kx X C W Γ G b b') (hm : behindInMarks op b = false := by rfl) : Kx X C W Γ G (.Compare a [op] [b] pos) (.cmp op a' b') := de_boolR (op_cmp' S.hu op) ha hb hm
theorem kcmp2 {op op2 : CmpOp} (S : Sd X C G) (ha : Kx X C W Γ G a a') (hb : Kx X C W Γ G b b') (hc : Kx X C W Γ G c c') (hm : lastMarks [op, op2] [b, c] = false := by with_unfolding_all rfl) : Kx X C W Γ G (.Compare a [op, op2] [b, c] pos) (.cmp2 op op2 a' b' c') := de_chain (op_cmp' S.hu op) (op_cmp' S.hu op2) ha hb hc hm
theorem kix (S : Sd X C G) (ha : Kx X C W Γ G a a') (hb : Kx X C W Γ G b b') (hs : PlainIx b := by intro _ _; rfl) : Kx X C W Γ G (.Subscript a b pos) (.ix a' b') := de_ix S.hu ha hb hs
def asI (d : D) (M : Mem) : R (Option Int) := match d with | .int i => .ok (some i) M | _ => .bad
theorem dpo_some' {f : Env → Mem → R D} (ha : PE X a (TV C W f)) : PO X (some a) (TPt C W fun σ M => (f σ M).bind asI) := dpo_some ha
theorem opt_partD {lo' : Ex} (h : lo' ≠ .no) (d : D) (M : Mem) : R.opt (partD lo' d) M = asI d M := by
  unfold partD asI
  cases lo' <;> cases d <;> first | rfl | exact absurd rfl h
theorem ksl {lo hi : Expr} {lo' hi' : Ex} {p2 : Pos} (ha : Kx X C W Γ G a a') (hl : Kx X C W Γ G lo lo') (hh : Kx X C W Γ G hi hi') (n1 : lo' ≠ .no := by intro z; cases z) (n2 : hi' ≠ .no := by intro z; cases z) :
    Kx X C W Γ G (.Subscript a (.Slice (some lo) (some hi) none p2) pos) (.sl a' lo' hi') := by
  have k := de_sl (pos := pos) (p2 := p2) ha (dpo_some' hl) (dpo_some' hh)
  refine k.imp fun σ H Q h => ?_
  obtain ⟨π, σd, M, rs, mr, h⟩ := h
  refine ⟨π, σd, M, rs, mr, ?_⟩
  simp only [ev, opt_partD n1, opt_partD n2] at h
  simpa only [R.bind_assoc] using h
theorem ksl0 {lo : Expr} {lo' : Ex} {p2 : Pos} (ha : Kx X C W Γ G a a') (hl : Kx X C W Γ G lo lo') (n1 : lo' ≠ .no := by intro z; cases z) :
    Kx X C W Γ G (.Subscript a (.Slice (some lo) none none p2) pos) (.sl a' lo' .no) := by
  have k := de_sl (pos := pos) (p2 := p2) ha (dpo_some' hl) (dpo_none (C := C) (W := W))
  refine k.imp fun σ H Q h => ?_
  obtain ⟨π, σd, M, rs, mr, h⟩ := h
  refine ⟨π, σd, M, rs, mr, ?_⟩
  simp only [ev, opt_partD n1] at h
  have e : ∀ d M, R.opt (partD .no d) M = .ok none M := fun d M => by cases d <;> rfl
  simp only [e, R.bind_ok] at h
  simpa only [R.bind_assoc, R.bind_ok] using h
theorem kslh {hi : Expr} {hi' : Ex} {p2 : Pos} (ha : Kx X C W Γ G a a') (hh : Kx X C W Γ G hi hi') (n2 : hi' ≠ .no := by intro z; cases z) :
    Kx X C W Γ G (.Subscript a (.Slice none (some hi) none p2) pos) (.sl a' .no hi') := by
  have k := de_sl (pos := pos) (p2 := p2) ha (dpo_none (C := C) (W := W)) (dpo_some' hh)
  refine k.imp fun σ H Q h => ?_
  obtain ⟨π, σd, M, rs, mr, h⟩ := h
  refine ⟨π, σd, M, rs, mr, ?_⟩
  simp only [ev, opt_partD n2] at h
  have e : ∀ d M, R.opt (partD .no d) M = .ok none M := fun d M => by cases d <;> rfl
  simp only [e, R.bind_ok] at h
  simpa only [R.bind_assoc, R.bind_ok] using h
theorem kand (ha : Kx X C W Γ G a a') (hb : Kx X C W Γ G (.BoolOp .And (b :: es) pos) b') : Kx X C W Γ G (.BoolOp .And (a :: b :: es) pos) (.and a' b') := de_and ha hb
theorem kor (ha : Kx X C W Γ G a a') (hb : Kx X C W Γ G (.BoolOp .Or (b :: es) pos) b') : Kx X C W Γ G (.BoolOp .Or (a :: b :: es) pos) (.or a' b') := de_or ha hb
theorem kand1 (ha : Kx X C W Γ G a a') : Kx X C W Γ G (.BoolOp .And [a] pos) a' := pe_one ha
theorem kor1 (ha : Kx X C W Γ G a a') : Kx X C W Γ G (.BoolOp .Or [a] pos) a' := pe_one ha
/-! tests -/
theorem tpl (ha : Kx X C W Γ G a a') (h : plainTest a = true := by rfl) : Kt X C W Γ G a a' := dt_plain ha h
theorem evT_cmp (op : CmpOp) : evT Γ G (.cmp op a' b') = fun σ M => (ev Γ G a' σ M).bind fun x M1 => (ev Γ G b' σ M1).bind fun y M2 => R.opt (cmpD op x y M2) M2 := by
  funext σ M
  simp only [evT, ev, R.bind_assoc]
  congr 1; funext x M1
  congr 1; funext y M2
  cases cmpD op x y M2 <;> rfl
theorem tcmp {op : CmpOp} (S : Sd X C G) (ha : Kx X C W Γ G a a') (hb : Kx X C W Γ G b b') (hm : behindInMarks op b = false := by rfl) : Kt X C W Γ G (.Compare a [op] [b] pos) (.cmp op a' b') := by
  show PT X _ (TB C W (evT Γ G _)); rw [evT_cmp]
  exact dt_cmp (op_cmp' S.hu op) ha hb hm
theorem evT_cmp2 (op op2 : CmpOp) : evT Γ G (.cmp2 op op2 a' b' c') = fun σ M => (ev Γ G a' σ M).bind fun x M1 => (ev Γ G b' σ M1).bind fun y M2 => (R.opt (cmpD op x y M2) M2).bind fun t M3 => if t then (ev Γ G c' σ M3).bind fun z M4 => R.opt (cmpD op2 y z M4) M4 else .ok false M3 := by
  funext σ M
  simp only [evT, ev, R.bind_assoc]
  congr 1; funext x M1
  congr 1; funext y M2
  congr 1; funext t M3
  cases t with
  | false => rfl
  | true =>
    simp only [if_true, R.bind_assoc]
    congr 1; funext z M4
    cases cmpD op2 y z M4 <;> rfl
theorem tcmp2 {op op2 : CmpOp} (S : Sd X C G) (ha : Kx X C W Γ G a a') (hb : Kx X C W Γ G b b') (hc : Kx X C W Γ G c c') (hm : behindInMarks op b = false := by rfl) (hm' : behindInMarks op2 c = false := by rfl) (hl : lastMarks [op, op2] [b, c] = false := by with_unfolding_all rfl) :
    Kt X C W Γ G (.Compare a [op, op2] [b, c] pos) (.cmp2 op op2 a' b' c') := by
  show PT X _ (TB C W (evT Γ G _)); rw [evT_cmp2]
  exact dt_cmp2 (op_cmp' S.hu op) (op_cmp' S.hu op2) ha hb hc hm hm' (pt_chain (op_RB (op_cmp' S.hu op)) (op_RB (op_cmp' S.hu op2)) ha hb hc hl)
theorem evT_not : evT Γ G (.not a') = fun σ M => (evT Γ G a' σ M).bind fun t M1 => .ok (!t) M1 := by
  funext σ M
  simp only [evT, ev, R.bind_assoc]
  congr 1
theorem tnot (ha : Kt X C W Γ G a a') : Kt X C W Γ G (.UnaryOp .Not a pos) (.not a') := by
  show PT X _ (TB C W (evT Γ G _)); rw [evT_not]
  exact dt_not ha
theorem evT_and : evT Γ G (.and a' b') = fun σ M => (evT Γ G a' σ M).bind fun t M1 => if t then evT Γ G b' σ M1 else .ok false M1 := by
  funext σ M
  simp only [evT, ev, R.bind_assoc]
  congr 1; funext x M1
  cases h : truthD x M1 with
  | none => rfl
  | some t =>
    cases t with
    | true => rfl
    | false => simp only [R.opt_some, R.bind_ok, Bool.false_eq_true, if_false, h]
theorem evT_or : evT Γ G (.or a' b') = fun σ M => (evT Γ G a' σ M).bind fun t M1 => if t then .ok true M1 else evT Γ G b' σ M1 := by
  funext σ M
  simp only [evT, ev, R.bind_assoc]
  congr 1; funext x M1
  cases h : truthD x M1 with
  | none => rfl
  | some t =>
    cases t with
    | true => simp only [R.opt_some, R.bind_ok, if_true, h]
    | false => rfl
theorem wand (ha : Kt X C W Γ G a a') (hb : Kw X C W Γ G (.BoolOp .And (b :: es) pos) b') : Kw X C W Γ G (.BoolOp .And (a :: b :: es) pos) (.and a' b') := by
  show PW X _ (TB C W (evT Γ G _)); rw [evT_and]
  exact dw_and ha hb
theorem wor (ha : Kt X C W Γ G a a') (hb : Kw X C W Γ G (.BoolOp .Or (b :: es) pos) b') : Kw X C W Γ G (.BoolOp .Or (a :: b :: es) pos) (.or a' b') := by
  show PW X _ (TB C W (evT Γ G _)); rw [evT_or]
  exact dw_or ha hb
theorem wand1 (ha : Kt X C W Γ G a a') : Kw X C W Γ G (.BoolOp .And [a] pos) a' := pw_and1 ha
theorem wor1 (ha : Kt X C W Γ G a a') : Kw X C W Γ G (.BoolOp .Or [a] pos) a' := pw_or1 ha
theorem kife (hc : Kt X C W Γ G c c') (ha : Kx X C W Γ G a a') (hb : Kx X C W Γ G b b') : Kx X C W Γ G (.IfExp c a b pos) (.ife c' a' b') := by
  have k := de_ife (pos := pos) hc ha hb
  refine k.imp fun σ H Q h => ?_
  obtain ⟨π, σd, M, rs, mr, h⟩ := h
  refine ⟨π, σd, M, rs, mr, ?_⟩
  simp only [ev] at h
  simpa only [evT, R.bind_assoc] using h
end
end Mj

set_option Elab.async false
set_option linter.all false
set_option autoImplicit false
set_option maxRecDepth 100000
set_option maxHeartbeats 4000000
/-! The rules by the codes: built-ins, statements, calls, defs. -/
namespace Mj
open PySem PySem.Spec L2
/-! ### exceptions -/
/-- an exception of ours as the layer below tells it -/
def XR (C : Cw) (xc : Nat → Addr) (π : List Addr) (H : Hp) (x : Exn) (cls : Value) (od : Option Addr) : Prop := cls = .ref (xc x.c) ∧ ∃ d gs, od = some d ∧ H d = some (.xd gs) ∧ FsR C π H gs x.fs
/-- our wish as the layer's -/
def wxOf (C : Cw) (xc : Nat → Addr) (W : WD) : WX := fun cls od σv H => ∃ x M π, MR C π H M ∧ XR C xc π H x cls od ∧ W x M π H σv
/-- the layer's wish as ours -/
def weOf (C : Cw) (xc : Nat → Addr) (E : XK) : WE := fun x M π H => ∀ cls od, XR C xc π H x cls od → E cls od H
/-- a def's promise: what the data function says -/
def spOf (C : Cw) (xc : Nat → Addr) (g : List D → Mem → R D) : Sp := fun vs H Q E => ∃ π ds M, Rps π H vs ds ∧ MR C π H M ∧ Out C (weOf C xc E) π H (g ds M) (fun d _ π' H' => ∀ v, Rp π' H' v d → Q v H')
theorem Out.impE {C : Cw} {W W' : WE} {α : Type} {π : List Addr} {H : Hp} {r : R α} {Q : α → Mem → List Addr → Hp → Prop} (h : Out C W π H r Q) (k : ∀ x M' π' H', Le π H π' H' → MR C π' H' M' → W x M' π' H' → W' x M' π' H') : Out C W' π H r Q := by
  cases r with
  | ok a M' => exact h
  | exc x M' => exact fun π' H' l m => k _ _ _ _ l m (h π' H' l m)
  | bad => exact h
/-- the facts of a def's body -/
structure Fx (X : Cx) (C : Cw) (xc : Nat → Addr) (W : WD) (G : Gls) (k : Nat) : Prop where
  sd : Sd X C G
  po : PassesOwn (model X.prog X.w) X.A X.env X.xe
  fn : ∀ x, X.fn x = true
  tk : Takes X (wxOf C xc W)
  rm : Room k X.A
section
variable {X : Cx} {C : Cw} {W : WD} {Γ : Fns} {G : Gls} {a b c e o : Expr} {es : List Expr} {a' b' c' e' o' : Ex} {es' : Exs} {pos p p2 apos : Pos}
/-! ### built-ins -/
theorem kbi {n : Bi} {x : Str} {id : String} (hc : CallR X (.builtin id) (RCs C (biD n))) (hv : bootBuiltins x = some (.builtin id)) (hg : Gl X x) (hm : X.mg x = none) (ha : Ka X C W Γ G (e :: es) es') (hn : x ≠ "__name__" := by decide) (hdb : (x == ("__debug__" : Str)) = false := by decide)
    (he : starEach (e :: es) X.env = (false, eval e X.env) :: starEach es X.env := by rfl) (hpl : (backTo pos (starEach es X.env)).any (·.1) = false := by rfl) : Kx X C W Γ G (.Call (.Name x p) (e :: es) [] pos) (.bi n es') :=
  de_call hc hg hm hv ha hn hdb he hpl
theorem kbt {n : Bi} {x : Str} {T : String} (hc : CallR X (.type T) (RCs C (biD n))) (hv : bootBuiltins x = some (.type T)) (hg : Gl X x) (hm : X.mg x = none) (ha : Ka X C W Γ G (e :: es) es') (hn : x ≠ "__name__" := by decide) (hdb : (x == ("__debug__" : Str)) = false := by decide)
    (he : starEach (e :: es) X.env = (false, eval e X.env) :: starEach es X.env := by rfl) (hpl : (backTo pos (starEach es X.env)).any (·.1) = false := by rfl) : Kx X C W Γ G (.Call (.Name x p) (e :: es) [] pos) (.bi n es') :=
  de_callTy hc hg hm hv ha hn hdb he hpl
theorem kisi (t : Ty) {T : String} {tn : Str} (hT : T = tyName t) (hv : bootBuiltins "isinstance" = some (.builtin "isinstance")) (hv2 : bootBuiltins tn = some (.type T)) (hg : Gl X "isinstance") (hm : X.mg "isinstance" = none) (hg2 : Gl X tn) (hm2 : X.mg tn = none) (ha : Kx X C W Γ G a a')
    (he : starEach [a, .Name tn p2] X.env = [(false, eval a X.env), (false, eval (.Name tn p2) X.env)]) (hs2 : starEach [.Name tn p2] X.env = [(false, eval (.Name tn p2) X.env)]) (hn2 : tn ≠ "__name__") (hd2 : (tn == ("__debug__" : Str)) = false) :
    Kx X C W Γ G (.Call (.Name "isinstance" p) [a, .Name tn p2] [] pos) (.isi t a') := by
  have pa := pa_cons ha (pa_cons (pe_bltn (pos := p2) (v := .ty T) hg2 hm2 hv2 (by exact rfl) hn2 hd2) pa_nil hs2) (by rw [he, hs2])
  refine (pe_callB (bi_isi (C := C) t) hg hm hv pa (by decide) (by decide) (by rw [he, hs2]) (by rw [hs2]; rfl)).imp fun σ H Q h => ?_
  obtain ⟨π, σd, M, rs, mr, h⟩ := h
  refine ⟨π, σd, M, rs, mr, ?_⟩
  simp only [ev] at h
  exact h.bind.imp fun x M1 π1 H1 l1 m1 o1 v r1 => by
    obtain ⟨t1, et, o2⟩ := o1.bind.opt
    exact ⟨π1, v, x, M1, t1, by rw [hT], r1, m1, et, (o2.ok Le.refl m1).ok Le.refl m1 _ (.bl _)⟩
/-! ### methods of built-ins -/
theorem kbm {m : Bm} {name : Str} {id : String} (pa : PlainAttrs (btName (bmT m))) (slot : Slot (btName (bmT m)) name id) (hty : typeOf (.builtin id) = pure (.type "method_descriptor")) (hm : MtR X id (RMd C m)) (ho : Kx X C W Γ G o o') (ha : Ka X C W Γ G (e :: es) es')
    (hbase : attributeBase o name X.env (eval o X.env) = eval o X.env := by rfl)
    (hfew : ((backTo pos (starEach (e :: es) X.env)).all (fun x => !x.1) && (backToKw pos (keywordEach [] X.env)).all (fun x => x.1.isSome) && decide ((e :: es).length + ([] : List Keyword).length + (if ([] : List Keyword).isEmpty then 0 else 1) < 30)) = true := by rfl)
    (hline : (apos.endLine == pos.line) = true := by rfl) (hs : starEach (e :: es) X.env = (false, eval e X.env) :: starEach es X.env := by rfl) (hplain : (backTo pos (starEach es X.env)).any (·.1) = false := by rfl) :
    Kx X C W Γ G (.Call (.Attribute o name apos) (e :: es) [] pos) (.bm m o' es') := de_bm pa slot hty hm ho ha hbase hfew hline hs hplain
theorem kbm0 {m : Bm} {name : Str} {id : String} (pa : PlainAttrs (btName (bmT m))) (slot : Slot (btName (bmT m)) name id) (hty : typeOf (.builtin id) = pure (.type "method_descriptor")) (hm : MtR X id (RMd C m)) (ho : Kx X C W Γ G o o')
    (hbase : attributeBase o name X.env (eval o X.env) = eval o X.env := by rfl) (hline : (apos.endLine == pos.line) = true := by rfl) :
    Kx X C W Γ G (.Call (.Attribute o name apos) [] [] pos) (.bm m o' .nil) := de_bm0 pa slot hty hm ho hbase hline
/-! ### statements -/
variable {xc : Nat → Addr} {k : Nat} {rest body : List Stmt} {r' bd' x' y' : Sm} {nas : Bool}
variable (X C W Γ G) in
abbrev Ks (st : List Stmt) (s' : Sm) : Prop := PSs X st (TSd C W false (exec Γ G s'))
theorem s0 : Ks X C W Γ G [] .nil := ds_nil
theorem sas (F : Fx X C xc W G k) (i : Nat) {x : Str} {pos' : Pos} (he : Kx X C W Γ G e e') (hr : Ks X C W Γ G rest r') (hi : X.N[i]? = some x := by rfl) (hx : Loc X.env.scope x := by first | exact Or.inl rfl | exact Or.inr rfl) (hs : swapsWith e (some (.Name x pos')) pos.line X.env = pure false := by rfl) :
    Ks X C W Γ G (.Assign [.Name x pos'] e pos :: rest) (.asg i e' r') := ds_asg (na := false) (tg := e) (ps_set F.sd.nd hi hx he hs (.inl (F.fn x))) hr
theorem gs0 : PGs X [] (gsOf []) := pgs_nil
theorem gsc (F : Fx X C xc W G k) {i : Nat} {is : List Nat} {x : Str} (h2 : PGs X es (gsOf is)) (hi : X.N[i]? = some x := by rfl) (hx : Loc X.env.scope x := by first | exact Or.inl rfl | exact Or.inr rfl)
    (hs : (assignEach (.Name x pos :: es) X.env).map (·.2) = assign (.Name x pos) X.env :: (assignEach es X.env).map (·.2) := by rfl) : PGs X (.Name x pos :: es) (gsOf (i :: is)) := pgs_cons (pg_name F.sd.nd hi hx (.inl (F.fn x))) h2 hs
theorem gn (F : Fx X C xc W G k) {i : Nat} {x : Str} (hi : X.N[i]? = some x := by rfl) (hx : Loc X.env.scope x := by first | exact Or.inl rfl | exact Or.inr rfl) : PG X (.Name x pos) (gOf X.K (.n i)) := pg_name F.sd.nd hi hx (.inl (F.fn x))
theorem gt (F : Fx X C xc W G k) {is : List Nat} {j : Nat} (h : PGs X es (gsOf is)) (hn : (assignEach es X.env).length = is.length := by rfl) (hst : (assignEach es X.env).findIdx? (·.1) = none := by rfl) : PG X (.Tuple es j pos) (gOf X.K (.t is)) := pg_tup F.sd.calm h hn hst
theorem sast (F : Fx X C xc W G k) {is : List Nat} {tg : Expr} (hg : PG X tg (gOf X.K (.t is))) (he : Kx X C W Γ G e e') (hr : Ks X C W Γ G rest r') (hs : swapsWithSole [tg] e pos.line X.env = pure false := by rfl) (hw : swappedStores [tg] e X.env = pure none := by rfl)
    (hl : (assignEach [tg] X.env).map (·.2) = [assign tg X.env] := by rfl) : Ks X C W Γ G (.Assign [tg] e pos :: rest) (.asgT is e' r') := ds_asgT (ps_asg he hg hs hw hl) hr
theorem sdr (he : Kx X C W Γ G e e') (hr : Ks X C W Γ G rest r') (hs : swapsWith e none pos.line X.env = pure false := by rfl) : Ks X C W Γ G (.Expr e pos :: rest) (.drop e' r') := ds_drop he hs hr
theorem srt (he : Kx X C W Γ G e e') : Ks X C W Γ G [.Return (some e) pos] (.ret e') := ds_ret (rest := []) he
theorem srn : Ks X C W Γ G [.Return none pos] .retN := ds_retN
theorem sbk : Ks X C W Γ G [.Break pos] .brk := ds_brk
theorem sct : Ks X C W Γ G [.Continue pos] .cont := ds_cont
theorem spa (hr : Ks X C W Γ G rest r') : Ks X C W Γ G (.Pass pos :: rest) (.pass r') := ds_pass hr
theorem sif {t u : List Stmt} (hc : Kt X C W Γ G c c') (ht : Ks X C W Γ G t x') (hu : Ks X C W Γ G u y') (hr : Ks X C W Γ G rest r') : Ks X C W Γ G (.If c t u pos :: rest) (.iff c' x' y' r') := ds_iff hc ht hu hr
theorem sau (F : Fx X C xc W G k) (i : Nat) {op : Operator} {x : Str} {pos' : Pos} (he : Kx X C W Γ G e e') (hr : Ks X C W Γ G rest r') (hop : augOk op = true := by rfl) (hi : X.N[i]? = some x := by rfl) (hx : Loc X.env.scope x := by first | exact Or.inl rfl | exact Or.inr rfl) :
    Ks X C W Γ G (.AugAssign (.Name x pos') op e pos :: rest) (.augV i op e' r') := ds_augV (ps_aug F.sd.nd hi hx he (ip_of hop) (.inl (F.fn x))) hop hr
theorem swh (F : Fx X C xc W G k) (hc : Kt X C W Γ G c c') (hb : Ks X C W Γ G body bd') (hr : Ks X C W Γ G rest r') : Ks X C W Γ G (.While c body [] pos :: rest) (.whl c' bd' r') := ds_whl F.po hc hb hr
theorem sfo (F : Fx X C xc W G k) {ik : Ik} {tg : Tg} {tge iter : Expr} (hk : isFree ik = true) (hi : PI X tge iter (TW C W ik (ev Γ G a') (ev Γ G b'))) (hg : PG X tge (gOf X.K tg)) (hb : Ks X C W Γ G body bd') (hr : Ks X C W Γ G rest r') (hs : ∀ x, foldedSetIterable iter X.env x = pure x := by intro _; rfl) :
    Ks X C W Γ G (.For tge iter body [] pos :: rest) (.for tg ik a' b' bd' r') := ds_for hk F.po F.sd.calm hi hg hb hs hr
theorem iL {tg l : Expr} (hl : Kx X C W Γ G l a') : PI X tg l (TW C W .seqL (ev Γ G a') (ev Γ G .no)) := di_seqL hl
theorem iT {tg l : Expr} (hl : Kx X C W Γ G l a') : PI X tg l (TW C W .seqT (ev Γ G a') (ev Γ G .no)) := di_seqT hl
theorem iS {tg l : Expr} (hl : Kx X C W Γ G l a') : PI X tg l (TW C W .str (ev Γ G a') (ev Γ G .no)) := di_str hl
theorem iR1 {tg : Expr} (hg : Gl X "range") (hm : X.mg "range" = none) (ha : Kx X C W Γ G a a') (hs : starEach [a] X.env = [(false, eval a X.env)] := by rfl) : PI X tg (.Call (.Name "range" p) [a] [] pos) (TW C W .rng1 (ev Γ G a') (ev Γ G .no)) := di_rng1 hg hm ha hs
theorem iR2 {tg : Expr} (hg : Gl X "range") (hm : X.mg "range" = none) (ha : Kx X C W Γ G a a') (hb : Kx X C W Γ G b b') (hs : starEach [a, b] X.env = [(false, eval a X.env), (false, eval b X.env)] := by rfl) (hs2 : starEach [b] X.env = [(false, eval b X.env)] := by rfl) : PI X tg (.Call (.Name "range" p) [a, b] [] pos) (TW C W .rng2 (ev Γ G a') (ev Γ G b')) := di_rng2 hg hm ha hb hs hs2
theorem iRv {tg : Expr} (hg : Gl X "reversed") (hm : X.mg "reversed" = none) (ha : Kx X C W Γ G a a') (hs : starEach [a] X.env = [(false, eval a X.env)] := by rfl) : PI X tg (.Call (.Name "reversed" p) [a] [] pos) (TW C W .rev (ev Γ G a') (ev Γ G .no)) := di_rev hg hm ha hs
/-! ### calls -/
/-- a def is there under its name -/
structure Cal (C : Cw) (xc : Nat → Addr) (P : Program) (w : World) (K : PySem.W.Frag) (mg : Str → Option Value) (base : Heap) (k : Nat) (x : Str) (g : List D → Mem → R D) : Prop where
  ex : ∃ f fd ps, FnOk P w K mg base (L2.CX P w) k f fd ps (spOf C xc g) ∧ mg x = some (.ref f) ∧ PySem.W.keepIn K (.ref f) = true ∧ Binds K fd ps []
theorem kca (F : Fx X C xc W G k) {n : Nat} {x : Str} (g : Cal C xc X.prog X.w X.K X.mg X.base k x (Γ n)) (ha : Ka X C W Γ G (e :: es) es') (hg : Gl X x := by rfl) (hdb : (x == ("__debug__" : Str)) = false := by decide)
    (he : starEach (e :: es) X.env = (false, eval e X.env) :: starEach es X.env := by rfl) (hpl : (backTo pos (starEach es X.env)).any (·.1) = false := by rfl) : Kx X C W Γ G (.Call (.Name x p) (e :: es) [] pos) (.call n es' []) := by
  obtain ⟨f, fd, ps, ok, hm, hk, hb⟩ := g.ex
  refine (pe_callSD (E := fun σv cls od H' => wxOf C xc W cls od σv H') ok F.rm hg hm hk hb (.nil : Vals [] []) (fun σ => passAt F.tk σ) ha hdb he hpl).imp fun σ H Q h => ?_
  obtain ⟨π, σd, M, rs, mr, h⟩ := h
  refine ⟨π, σd, M, rs, mr, ?_⟩
  simp only [ev] at h
  refine h.bind.imp fun ds M1 π1 H1 l1 m1 o1 vs r1 => ⟨π1, ds ++ [], M1, by rw [List.append_nil, List.append_nil]; exact r1, m1, ?_⟩
  exact o1.impE fun x M' π' H' l m w cls od xr => ⟨x, M', π', m, xr, w⟩
/-! ### raise -/
/-- C(e) is made: an exception with one attribute -/
def tMk1 (cad : Addr) (nm : Str) (te : TE) : L2.St → Hp → XK → Prop := fun σ H Q => te σ H fun v H1 => ∀ d, H1 d = none → Q (.ref cad) (some d) (upd H1 d (.xd [(nm, v)]))
def rz (f : Env → Mem → R D) (c : Nat) (fn : Nat) : Env → Mem → R Fl := fun σ M => (f σ M).bind fun d M1 => .exc ⟨c, [(fn, d)]⟩ M1
theorem ds_raise (F : Fx X C xc W G k) {x : Expr} {f : Env → Mem → R D} {cn fn : Nat} {nm : Str} (hx : C.fnm fn = some nm) (hp : PMk X x (tMk1 (xc cn) nm (TV C W f))) : PSs X [.Raise (some x) none pos] (TSd C W false (rz f cn fn)) :=
  (pss_one (ps_raise F.sd.calm F.tk hp)).imp fun Dn σ H h => by
    obtain ⟨π, σd, M, rs, mr, h⟩ := h
    refine ⟨π, σd, M, rs, mr, ?_⟩
    unfold rz at h
    refine h.bind.imp fun d M1 π1 H1 l1 m1 o1 v r1 dd hd => ?_
    obtain ⟨m2, l2⟩ := m1.tuples (H' := upd H1 dd (.xd [(nm, v)])) (upd_fresh hd)
    exact ⟨⟨cn, [(fn, d)]⟩, M1, π1, m2, ⟨rfl, dd, [(nm, v)], rfl, upd_same, .cons hx (r1.mono l2) .nil⟩, o1 π1 _ σ l2 m2 fun z => nomatch z⟩
theorem sra (F : Fx X C xc W G k) (cn fn : Nat) {x : Expr} {nm : Str} (hx : C.fnm fn = some nm) (hp : PMk X x (tMk1 (xc cn) nm (TV C W (ev Γ G e')))) : Ks X C W Γ G [.Raise (some x) none pos] (.raise cn fn e') := ds_raise F hx hp
theorem sst {l : List Stmt} : Ks X C W Γ G l .stop := ⟨fun pins s σ H D I ⟨_, _, _, _, _, z⟩ => z.elim⟩
end
end Mj

set_option Elab.async false
set_option linter.all false
set_option autoImplicit false
set_option maxRecDepth 100000
set_option maxHeartbeats 4000000
/-! Defs by their codes; the law's end. -/
namespace Mj
open PySem PySem.Spec L2 PyProof.Rows
section
variable {P : Program} {w : World} {K : PySem.W.Frag} {mg : Str → Option Value} {base : Heap} {C : Cw} {xc : Nat → Addr} {Γ : Fns} {G : Gls} {k : Nat}
/-- the wish of a def's body -/
def wBody (C : Cw) (xc : Nat → Addr) (E : XK) : WD := fun x M π H _ => weOf C xc E x M π H
theorem rs_start {π : List Addr} {H : Hp} : ∀ {vs : List V} {ds : List D} (n : Nat), Rps π H vs ds → RS π H (vs.map some ++ List.replicate n none) (ds.map some ++ List.replicate n none)
  | _, _, n, .nil => by
    simp only [List.map_nil, List.nil_append]
    induction n with
    | zero => exact .nil
    | succ m ih => exact .cons .non ih
  | _, _, n, .cons h t => .cons (.som h) (rs_start n t)
/-- the arguments are as many as the parameters -/
theorem fm_len {d : Fd} {xs : List D} {M : Mem} {W' : WE} {π : List Addr} {H : Hp} {Q : D → Mem → List Addr → Hp → Prop} (h : Out C W' π H (d.fm G Γ xs M) Q) : xs.length = d.np := by
  unfold Fd.fm at h
  split at h
  · assumption
  · exact h.elim
theorem fx_of {x qual : Str} {st : Stmt} {f : Addr} {N : List Str} {cdv : Value} {A : Around} {outer : List PySem.Env} {s : Shared} {H : Hp} {E : XK} (nd : N.Nodup) (hn : G.na = C.na) (hr : Room k (A.deeper (envOfC qual (defScope st) s.heap.objs.size f cdv))) :
    Fx (cxOf (L2.CX P w) P w K mg base N qual (defScope st) f cdv A outer s H E) C xc (wBody C xc E) G k :=
  ⟨⟨nd, rfl, by have := hr.un; show (A.deeper _).units + 100 < cLine; omega, hn⟩, passes_of rfl, fun _ => rfl, (takes_of rfl rfl rfl rfl).imp fun cls od σ H' ⟨x, M, π, m, xr, w⟩ => w cls od xr, hr⟩
theorem fn_mk {x qual : Str} {st : Stmt} {f : Addr} {fd : FuncData} {N ps : List Str} {d : Fd} (F : Fun K x qual st f fd) (S : FnScope N ps (defScope st)) (hn : G.na = C.na) (hp : d.np = ps.length) (hs : d.ns = N.length)
    (hb : ∀ (cdv : Value) (A : Around) (outer : List PySem.Env) (s : Shared) (H : Hp) (E : XK), Fx (cxOf (L2.CX P w) P w K mg base N qual (defScope st) f cdv A outer s H E) C xc (wBody C xc E) G k →
      Ks (cxOf (L2.CX P w) P w K mg base N qual (defScope st) f cdv A outer s H E) C (wBody C xc E) Γ G (defBody st) d.body) :
    FnOk P w K mg base (L2.CX P w) (k + 2) f fd ps (spOf C xc (d.fm G Γ)) := by
  refine F.okX S (fun vs H Q E h => ?_) (fun cdv A outer s H vs Q E hr h => ?_)
  · obtain ⟨π, ds, M, r, m, o⟩ := h
    rw [r.length, fm_len o, hp]
  · refine ⟨_, hb cdv A outer s H E (fx_of (x := x) S.nd hn (hr.mono (Nat.le_succ k))), ?_⟩
    obtain ⟨π, ds, M, r, m, o⟩ := h
    have hl := fm_len o
    refine ⟨π, ds.map some ++ List.replicate (d.ns - d.np) none, M, ?_, m, ?_⟩
    · show RS π H (vs.map some ++ List.replicate (N.length - vs.length) none) _
      rw [r.length, hl, ← hs]
      exact rs_start _ r
    · unfold Fd.fm at o
      rw [if_pos hl] at o
      revert o
      cases exec Γ G d.body (ds.map some ++ List.replicate (d.ns - d.np) none) M with
      | bad => exact fun z => z
      | exc x M' => exact fun z π' H' s' l' m' _ => z π' H' l' m'
      | ok fl M' =>
        cases fl with
        | nx σ' => exact fun z π' H' s' l' m' _ _ => z π' H' l' m' .non .non
        | rt v => exact fun z π' H' v l' m' r' => z π' H' l' m' v r'
        | bk σ' => exact fun z => z.elim
        | ct σ' => exact fun z => z.elim
/-- nothing is promised -/
theorem fn_bad {f : Addr} {fd : FuncData} {ps : List Str} : FnOk P w K mg base (L2.CX P w) k f fd ps (spOf C xc fun _ _ => .bad) :=
  ⟨fun vs H Q E ⟨_, _, _, _, _, o⟩ => o.elim, fun A outer s H args us vs Q E _ _ _ _ ⟨_, _, _, _, _, o⟩ => o.elim⟩
/-- a def of the module, by its place in the text -/
structure Df (K : PySem.W.Frag) (mg : Str → Option Value) (x qual : Str) (st : Stmt) (ps : List Str) (f : Addr) (fd : FuncData) : Prop where
  fn : Fun K x qual st f fd
  gm : mg x = some (.ref f)
  bd : Binds K fd ps []
theorem Df.cal {x qual : Str} {st : Stmt} {ps : List Str} {f : Addr} {fd : FuncData} {g : List D → Mem → R D} (T : Df K mg x qual st ps f fd) (ok : FnOk P w K mg base (L2.CX P w) k f fd ps (spOf C xc g)) : Cal C xc P w K mg base k x g :=
  ⟨⟨f, fd, ps, ok, T.gm, T.fn.kp, T.bd⟩⟩
/-- the law's end: the script, then True -/
theorem law_imp {f : Addr} {fd : FuncData} {ps : List Str} {g : List D → Mem → R D} {B : List Int → Prop} (ok : FnOk P w K mg base (L2.CX P w) k f fd ps (spOf C xc g)) (h : ∀ ns lk, B ns → ∃ M', g [.ref 0] ⟨[.lst lk (ns.map .int)]⟩ = .ok (.bl true) M') :
    FnOk P w K mg base (L2.CX P w) k f fd ps (fun vs H Q _ => ∃ (a : Addr) (ns : List Int), vs = [.ref a] ∧ Rd H a (.lst (ns.map V.int)) ∧ B ns ∧ ∀ H', Q (.bl true) H') := by
  refine ok.imp fun vs H Q E ⟨a, ns, e, hr, hB, q⟩ => ?_
  subst e
  have rps : ∀ (ns : List Int), Rps [a] H (ns.map V.int) (ns.map D.int) := fun ns => by
    induction ns with
    | nil => exact .nil
    | cons n ns ih => exact .cons (.int n) ih
  have go : ∀ lk : Bool, MOk C [a] H a (.lst lk (ns.map .int)) → spOf C xc g [.ref a] H Q E := fun lk hm => by
    obtain ⟨M', e⟩ := h ns lk hB
    refine ⟨[a], [.ref 0], ⟨[.lst lk (ns.map .int)]⟩, .cons (.ref rfl) .nil, ⟨rfl, fun n m b h1 h2 => ?_, fun n o h1 => ?_⟩, ?_⟩
    · have l1 := (List.getElem?_eq_some_iff.mp h1).1
      have l2 := (List.getElem?_eq_some_iff.mp h2).1
      simp at l1 l2; omega
    · have l1 := (List.getElem?_eq_some_iff.mp h1).1
      have : n = 0 := by simp at l1; omega
      subst this
      cases h1
      exact ⟨a, rfl, hm⟩
    · rw [e]
      intro π' H' l m v r
      cases r
      exact q H'
  rcases hr with hr | ⟨o, hr⟩
  · exact go false ⟨_, rps ns, hr⟩
  · exact go true ⟨_, rps ns, o, hr⟩
/-- no list is among the module's own objects -/
def noList (K : PySem.W.Frag) : Bool := K.all fun p => !(p.2.cls == .type "list")
theorem rd_of {H : Hp} {a : Addr} {xs : List V} (h : noList K = true) (hS : SqL K H a xs) : Rd H a (.lst xs) := by
  rcases hS with h1 | ⟨o, its, n, hl, hc, _⟩
  · exact h1
  · exfalso
    unfold noList at h
    have mem : ∀ (K : PySem.W.Frag), K.lookup a = some o → (a, o) ∈ K := by
      intro K
      induction K with
      | nil => intro h; cases h
      | cons p K ih =>
        intro h
        rw [List.lookup_cons] at h
        split at h
        · rename_i he
          cases h
          have : a = p.1 := by simpa using he
          subst this
          exact List.mem_cons_self
        · exact List.mem_cons_of_mem _ (ih h)
    have := List.all_eq_true.mp h _ (mem K hl)
    simp [hc] at this
end
end Mj

set_option Elab.async false
set_option linter.all false
set_option autoImplicit false
set_option maxRecDepth 100000
set_option maxHeartbeats 4000000
/-! Exceptions of the program: made, caught. -/
namespace Mj
open PySem PySem.Spec L2 PyProof.Rows
section
variable {X : Cx} {C : Cw} {W : WD} {G : Gls} {e : Expr} {es : List Expr} {ta : TA} {p1 p2 pos p : Pos}
/-- B.__init__(self, ..), B a class of the program that leaves __init__ to ValueError -/
theorem pe_baseinit {B : Addr} {x : Str} {mc : Value} {pl : Sem Bool} (hg : Gl X x) (hm : X.mg x = some (.ref B)) (ga : PySem.W.specialIn X.K (.ref B) "__getattribute__" = some (some (.builtin "type.__getattribute__"))) (rd : PySem.W.readsIn X.K B mc = true)
    (fc : PySem.W.findCls X.K (.ref B) mc "__init__" = some (.val (.builtin "ValueError.__init__"))) (ha : PA X (e :: es) ta) (hd : (x == ("__debug__" : Str)) = false)
    (hc : eval (.Call (.Attribute (.Name x p1) "__init__" p2) (e :: es) [] pos) X.env = (do
      let ov ← eval (.Name x p1) X.env
      standAt p2.atName
      let (f, first) ← holding [ov] (getMethod ov "__init__" pl)
      callWith pos f first (backTo pos (starEach (e :: es) X.env)) (backToKw pos (keywordEach [] X.env))))
    (he : starEach (e :: es) X.env = (false, eval e X.env) :: starEach es X.env) (hpl : (backTo pos (starEach es X.env)).any (·.1) = false) :
    PE X (.Call (.Attribute (.Name x p1) "__init__" p2) (e :: es) [] pos) (tVeI X.K ta) := by
  refine ⟨fun pins s σ H Q I h => ?_⟩
  refine PySem.W.methodCall_KW (ld_glob I hg hm ?_ hd) hc
  refine PySem.W.method_cls I.kIn ga (PySem.W.cls_value I.kIn rd fc (by decide +kernel) ?_)
  show wpAny _ _ (callWith pos (Value.builtin "ValueError.__init__") [] (backTo pos (starEach (e :: es) X.env)) []) _ _ _
  refine PyProof.Rows.callWith_method1 (thn (ha.run pos pins _ σ H _ (I.tok _) h) fun us s1 ⟨vs, H1, I1, r1, a, C, ws, ev, hl, T, ea, q⟩ => ?_) he hpl
  subst ev
  cases r1 with
  | @cons _ u0 _ ur ra rw' =>
    obtain rfl : u0 = Value.ref a := ra
    have hlen : ur.length ≤ sizeLine := by
      rw [← Paired.length rw', sizeLine_eq]
      omega
    exact oinit_ok T I1 ea hlen fun s' J => ⟨.non, H1, J, rfl, q⟩
end
/-- the promise of an exception's __init__ -/
def spXI (cad : Addr) (nm : Str) : Sp := fun vs H Q _ => ∃ a y, vs = [.ref a, y] ∧ H a = some (exo a cad none) ∧ ∀ dx, H dx = none → dx ≠ a → Q .non (upd (upd H dx (exd dx [(nm, y)])) a (exo a cad (some dx)))
section
variable {P : Program} {w : World} {K : PySem.W.Frag} {mg : Str → Option Value} {base : Heap} {C : Cw} {xc : Nat → Addr} {G : Gls} {W : WD}
/-- an exception class of the program with one attribute nm: at cad; its __init__ at fI, which calls B's -/
structure Xk (K : PySem.W.Frag) (mg : Str → Option Value) (x : Str) (cad : Addr) (nm : Str) (bx : Str) (B fI : Addr) (qual : Str) (st : Stmt) (fd : FuncData) (ps : List Str) : Prop where
  oex : OexC K cad
  gC : mg x = some (.ref cad)
  noN : PySem.W.findIn K (.ref cad) nm = some none
  iC : PySem.W.findIn K (.ref cad) "__init__" = some (some (.ref fI))
  tI : PySem.W.typeIn K (.ref fI) = some (.type "function")
  gB : mg bx = some (.ref B)
  ga : PySem.W.specialIn K (.ref B) "__getattribute__" = some (some (.builtin "type.__getattribute__"))
  rd : PySem.W.readsIn K B (.type "type") = true
  fc : PySem.W.findCls K (.ref B) (.type "type") "__init__" = some (.val (.builtin "ValueError.__init__"))
  fn : Fun K "__init__" qual st fI fd
  bd : Binds K fd ps []
theorem xi_ok {x nm bx qual col : Str} {cad B fI : Addr} {st : Stmt} {fd : FuncData} {k j : Nat} {msg : Str} {p1 p2 p3 p4 p5 p6 q1 q2 q3 q4 : Pos} {pl : PySem.Env → Sem Bool} (T : Xk K mg x cad nm bx B fI qual st fd ["self", col]) (S : FnScope ["self", col] ["self", col] (defScope st))
    (hb : defBody st = [.Expr (.Call (.Attribute (.Name bx p1) "__init__" p2) [.Name "self" p3, .Constant (.str msg) j p4] [] p5) p6, .Assign [.Attribute (.Name "self" q1) nm q2] (.Name col q3) q4])
    (hl1 : (defScope st).names.lookup ("self" : Str) = some .local) (hl2 : (defScope st).names.lookup col = some .local) (hgb : ∀ (L f : Addr) (cdv : Value), (envOfC qual (defScope st) L f cdv).kindOf bx = some .globalImplicit)
    (d1 : (bx == ("__debug__" : Str)) = false) (d2 : (col == ("__debug__" : Str)) = false) (d3 : (col == ("__classdict__" : Str)) = false)
    (hc : ∀ env : PySem.Env, eval (.Call (.Attribute (.Name bx p1) "__init__" p2) [.Name "self" p3, .Constant (.str msg) j p4] [] p5) env = (do
      let ov ← eval (.Name bx p1) env
      standAt p2.atName
      let (f, first) ← holding [ov] (getMethod ov "__init__" (pl env))
      callWith p5 f first (backTo p5 (starEach [.Name "self" p3, .Constant (.str msg) j p4] env)) (backToKw p5 (keywordEach [] env)))) :
    FnOk P w K mg base (L2.CX P w) (k + 1) fI fd ["self", col] (spXI cad nm) := by
  refine T.fn.okX S (fun vs H Q E h => ?_) (fun cdv A outer s H vs Q E hr h => ?_)
  · obtain ⟨a, y, rfl, _⟩ := h
    rfl
  · obtain ⟨a, y, rfl, ha, q⟩ := h
    rw [hb]
    refine ⟨_, pss_cons (ps_expr (pe_baseinit (mc := .type "type") (hgb _ _ _) T.gB T.ga T.rd T.fc (pa_cons (pv 0 (hN := rfl) (hv := Or.inl hl1)) (pa_cons pe_str pa_nil)) d1 (hc _) rfl rfl)) (pss_one (ps_ost (pe_var (i := 0) rfl (Or.inl hl1) (by decide) (by decide)) (pe_var (i := 1) rfl (Or.inl hl2) d2 d3))), ?_⟩
    refine ⟨_, rfl, a, cad, [V.str msg], rfl, (show 1 ≤ 1000 by decide), T.oex, ha, ?_⟩
    exact ⟨_, rfl, _, rfl, a, cad, rfl, T.oex, T.noN, .inl ⟨ha, fun dx hd hne => q dx hd hne⟩⟩
end
end Mj

set_option Elab.async false
set_option linter.all false
set_option autoImplicit false
set_option maxRecDepth 100000
set_option maxHeartbeats 4000000
/-! Exceptions of the program: raised, caught. -/
namespace Mj
open PySem PySem.Spec L2 PyProof.Rows
section
variable {X : Cx} {C : Cw} {xc : Nat → Addr} {W : WD} {Γ : Fns} {G : Gls} {k : Nat} {a : Expr} {a' : Ex} {pos p p2 : Pos}
theorem heap_eq {H : Hp} {a dx cad : Addr} {nm : Str} {y : V} (ha : H a = none) (hne : dx ≠ a) : upd (L2.del (upd (upd (upd H a (exo a cad none)) dx (exd dx [(nm, y)])) a (exo a cad (some dx))) a) dx (.xd [(nm, y)]) = upd H dx (.xd [(nm, y)]) := by
  funext b
  by_cases h1 : b = dx
  · subst h1; rw [upd_same, upd_same]
  · rw [upd_ne h1, upd_ne h1]
    by_cases h2 : b = a
    · subst h2; rw [del_same, ha]
    · rw [del_ne h2, upd_ne h2, upd_ne h1, upd_ne h2]
theorem pmk1 {x nm bx qual : Str} {cad B fI : Addr} {st : Stmt} {fd : FuncData} {ps : List Str} {f : Env → Mem → R D} (T : Xk X.K X.mg x cad nm bx B fI qual st fd ps) (F1 : FnOk X.prog X.w X.K X.mg X.base (L2.CX X.prog X.w) 1 fI fd ps (spXI cad nm)) (hr : Room 2 X.A) (ha : PE X a (TV C W f)) (hg : Gl X x)
    (hdb : (x == ("__debug__" : Str)) = false) (he : starEach [a] X.env = [(false, eval a X.env)]) : PMk X (.Call (.Name x p) [a] [] pos) (tMk1 cad nm (TV C W f)) := by
  have h := pmk_oex (p := p) (pos := pos) (dvs := []) T.oex T.iC T.tI F1 hr T.bd .nil passL hg T.gC (pa_cons ha pa_nil he) hdb he (by first | rfl | (rw [show starEach [] X.env = [] from rfl]; rfl))
  intro pins s σ H Q I ⟨π, σd, M, rs, mr, o⟩
  refine h pins s σ H Q I ⟨π, σd, M, rs, mr, o.imp fun d M1 π1 H1 l1 m1 o1 v r1 => ?_⟩
  refine ⟨(show 1 ≤ 1000 by decide), fun ad had => ⟨ad, v, rfl, upd_same, fun dx hd hne => ⟨rfl, dx, [(nm, v)], upd_same, ?_, ?_, ?_⟩⟩⟩
  · rw [upd_ne hne, upd_same]
  · rw [upd_ne hne] at hd; exact hd
  · have hd' : H1 dx = none := by rw [upd_ne hne] at hd; exact hd
    rw [heap_eq had hne]
    exact o1 v r1 dx hd'
/-- raise C(e) -/
theorem sraX (F : Fx X C xc W G k) (hk : 2 ≤ k) (cn fn : Nat) {x nm bx qual : Str} {cad B fI : Addr} {st : Stmt} {fd : FuncData} {ps : List Str} {p3 : Pos} (T : Xk X.K X.mg x cad nm bx B fI qual st fd ps) (F1 : FnOk X.prog X.w X.K X.mg X.base (L2.CX X.prog X.w) 1 fI fd ps (spXI cad nm)) (hx : C.fnm fn = some nm) (hc : xc cn = cad)
    (ha : Kx X C W Γ G a a') (hg : Gl X x := by rfl) (hdb : (x == ("__debug__" : Str)) = false := by decide) (he : starEach [a] X.env = [(false, eval a X.env)] := by rfl) : Ks X C W Γ G [.Raise (some (.Call (.Name x p) [a] [] pos)) none p3] (.raise cn fn a') := by
  subst hc
  exact sra F cn fn hx (pmk1 T F1 (F.rm.mono hk) ha hg hdb he)
/-! ### in the suite -/
/-- what isinstance asks of the exception's class -/
structure XiC (K : PySem.W.Frag) (D : Addr) : Prop where
  hcl : PySem.W.isClsIn K D = true
  hg : PySem.W.findIn K (.ref D) "__getattribute__" = some (some (.builtin "BaseException.__getattribute__"))
  hk : PySem.W.findIn K (.ref D) "__getattr__" = some none
  hs : PySem.W.subIn K (.ref D) (.type "BaseException") = some true
  ha : PySem.W.findIn K (.ref D) "__class__" = some (some (.builtin "object.__class__"))
  hn : PySem.W.specialIn K (.builtin "object.__class__") "__get__" = some (some (.builtin "getset_descriptor.__get__"))
  ht : PySem.W.takesIn K (.builtin "object.__class__") = some true
  hm : PySem.W.mroIn K D (.type "object") = some true
def tIsE (a D : Addr) (cls : Value) (d : Option Addr) (b : Bool) (i : Nat) : TE := fun σ H Q => σ[i]? = some (some (.ref a)) ∧ cls = .ref D ∧ (∃ dd fs, d = some dd ∧ H dd = some (.xd fs)) ∧ Q (.bl b) H
theorem pe_isE {ad D B : Addr} {oe : Obj} {pn : List (Addr × Obj)} {cls : Value} {d : Option Addr} {e : Expr} {i : Nat} {b : Bool} {bx : Str} (T : XiC X.K D) (hz : Zc cls d oe) (hf : ∃ vs, oe.data = .fields vs) (hk : PySem.W.kitOne X.K (.ref D) (.ref B) = some b)
    (he : PE (X.suite ad ((ad, oe) :: pn)) e (tVar i)) (hg : Gl X "isinstance") (hm : X.mg "isinstance" = none) (hv : bootBuiltins "isinstance" = some (.builtin "isinstance")) (hgB : Gl X bx) (hmB : X.mg bx = some (.ref B)) (hdB : (bx == ("__debug__" : Str)) = false)
    (hs : starEach [e, .Name bx p2] X.env = [(false, eval e X.env), (false, eval (.Name bx p2) X.env)]) (hs2 : starEach [.Name bx p2] X.env = [(false, eval (.Name bx p2) X.env)]) :
    PE (X.suite ad ((ad, oe) :: pn)) (.Call (.Name "isinstance" p) [e, .Name bx p2] [] pos) (tIsE ad D cls d b i) := by
  have gB : PE (X.suite ad ((ad, oe) :: pn)) (.Name bx p2) (tC (.ref B)) := pe_glob (X := X.suite ad ((ad, oe) :: pn)) (v := .ref B) hgB hmB rfl hdB
  have call : CallR (X.suite ad ((ad, oe) :: pn)) (.builtin "isinstance") (fun xs H Q => xs = [.ref ad, .ref B] ∧ cls = .ref D ∧ (∃ dd fs, d = some dd ∧ H dd = some (.xd fs)) ∧ Q (.bl b) H) := by
    intro pins s σ H xs us Q I r ⟨e1, e2, ⟨dd, fs, e3, e4⟩, q⟩
    subst e1 e2 e3
    cases r with
    | cons rx rr =>
      cases rr with
      | cons rt rr =>
        cases rr
        cases rx
        cases rt
        obtain ⟨hget, _⟩ := I.pin (ad, oe) (List.mem_append.mpr (.inl List.mem_cons_self))
        obtain ⟨vs, hv⟩ := hf
        have hx : ObjOk X.prog X.w H s.heap dd (.xd fs) := I.hok dd _ e4
        obtain ⟨mA, hns, hr⟩ := hx
        obtain ⟨od, ho, hl⟩ := lookIn_ns hns
        have J : PySem.W.InstAt s.heap ad oe D (some od) := ⟨hget, hz.1, by unfold PySem.W.notCls; rw [hv] <;> rfl, by rw [hz.2]; exact ho⟩
        exact PySem.W.kia_one (PySem.W.kitx_exc T.hcl T.hg T.hk T.hs T.ha T.hn T.ht T.hm) I.kIn J hk (fun z => nomatch z) fun tk => ⟨.bl b, H, I.kept (t' := tk) fun _ _ z => z, rfl, q⟩
  refine (pe_callB (X := X.suite ad ((ad, oe) :: pn)) call hg hm hv (pa_cons he (pa_cons gB pa_nil hs2) (by show starEach _ X.env = _; rw [hs, hs2])) (by decide) (by decide) (by show starEach _ X.env = _; rw [hs, hs2]) (by show (backTo pos (starEach _ X.env)).any _ = _; rw [hs2]; rfl)).imp fun σ H Q h => ?_
  obtain ⟨e1, e2, ex, q⟩ := h
  exact ⟨_, e1, rfl, e2, ex, q⟩
end
end Mj

set_option Elab.async false
set_option linter.all false
set_option autoImplicit false
set_option maxRecDepth 100000
set_option maxHeartbeats 4000000
/-! Running the codes: plain facts. -/
namespace Mj
open PySem PySem.Spec L2
/-- a text of one sign -/
def chr (c : Nat) : D := .str ⟨#[c]⟩
theorem lit {x : String} {c : Nat} (h : Str.ofString x = ⟨#[c]⟩) : D.str (Str.ofString x) = chr c := by rw [h]; rfl
theorem l_sp : D.str (" " : Str) = chr 32 := lit (by decide +kernel)
theorem l_qu : D.str ("\"" : Str) = chr 34 := lit (by decide +kernel)
theorem l_bs : D.str ("\\" : Str) = chr 92 := lit (by decide +kernel)
theorem l_ti : D.str ("~" : Str) = chr 126 := lit (by decide +kernel)
theorem chr_inj {a b : Nat} : (chr a = chr b) = (a = b) := by simp [chr]
theorem eq_chr (a b : Nat) (M : Mem) : eqD (chr a) (chr b) M = some (decide (a = b)) := by
  simp [eqD, chr, D.plain, D.depth]
theorem lt1 (a b : Nat) : ([a] < [b]) = (a < b) := by
  apply propext
  constructor
  · intro h
    cases h with
    | rel h => exact h
    | cons h => cases h
  · exact fun h => .rel h
theorem lt_chr (a b : Nat) : ltD (chr a) (chr b) = some (decide (a < b)) := by
  have : ((⟨#[a]⟩ : Str).cps.toList < (⟨#[b]⟩ : Str).cps.toList) = (a < b) := lt1 a b
  simp only [ltD, chr, this]
theorem le_chr (a b : Nat) : leD (chr a) (chr b) = some (decide (a ≤ b)) := by
  have : ((⟨#[b]⟩ : Str).cps.toList < (⟨#[a]⟩ : Str).cps.toList) = (b < a) := lt1 b a
  simp only [leD, chr, this]
  by_cases h : a ≤ b
  · simp [h]
  · simp [h]; omega
theorem ord_chr (c : Nat) (M : Mem) : biD .ord [chr c] M = some (.int c, M) := by simp [biD, chr, Str.length]
theorem atI_nat {α : Type} {xs : List α} {i : Nat} {x : α} (h : xs[i]? = some x) : atI xs (i : Int) = some x := by
  have hl := (List.getElem?_eq_some_iff.mp h).1
  unfold atI ixN
  rw [if_pos (by omega), if_pos (by omega)]
  simpa using h
/-- a text by its signs -/
def tx (l : List Nat) : Str := ⟨l.toArray⟩
theorem tx_len (l : List Nat) : (tx l).length = l.length := by simp [tx, Str.length]
theorem tx_list (l : List Nat) : (tx l).cps.toList = l := by simp [tx]
theorem ix_tx {l : List Nat} {i c : Nat} (hz : l.length ≤ sizeLine) (h : l[i]? = some c) (M : Mem) : ixD (.str (tx l)) (.int (i : Int)) M = some (chr c) := by
  unfold ixD
  simp only [tx_len, hz, if_true, tx_list, atI_nat h]
  rfl
theorem len_tx {l : List Nat} (hz : l.length ≤ sizeLine) (M : Mem) : biD .len [.str (tx l)] M = some (.int l.length, M) := by
  simp [biD, tx_len, hz]
/-- one sign in a written text -/
theorem in_tx (c : Nat) (l : List Nat) (M : Mem) : inD (chr c) (.str (tx l)) M = some (decide (c ∈ l)) := by simp [inD, chr, tx_list]
/-! memory -/
structure Ext (M M' : Mem) : Prop where
  ex : ∃ t, M'.os = M.os ++ t
theorem Ext.refl {M : Mem} : Ext M M := ⟨[], by simp⟩
theorem Ext.trans {M M1 M2 : Mem} (a : Ext M M1) (b : Ext M1 M2) : Ext M M2 := by
  obtain ⟨t, h⟩ := a.ex
  obtain ⟨u, k⟩ := b.ex
  exact ⟨t ++ u, by rw [k, h, List.append_assoc]⟩
theorem Ext.push {M : Mem} {o : MO} : Ext M (M.push o) := ⟨[o], rfl⟩
theorem Ext.get {M M' : Mem} {n : Nat} {o : MO} (e : Ext M M') (h : M.get n = some o) : M'.get n = some o := by
  obtain ⟨t, k⟩ := e.ex
  unfold Mem.get at *
  rw [k, List.getElem?_append_left (List.getElem?_eq_some_iff.mp h).1]
  exact h
theorem Ext.size {M M' : Mem} (e : Ext M M') : M.size ≤ M'.size := by
  obtain ⟨t, k⟩ := e.ex
  unfold Mem.size; rw [k]; simp
theorem Ext.set {M M' : Mem} {n : Nat} {o : MO} (e : Ext M M') (h : M.size ≤ n) : Ext M (M'.set n o) := by
  obtain ⟨t, k⟩ := e.ex
  refine ⟨t.set (n - M.os.length) o, ?_⟩
  unfold Mem.set Mem.size at *
  simp only [k]
  rw [List.set_append_right _ _ h]
/-! loops, turn by turn -/
section
variable {t : Env → Mem → R Bool} {b : Env → Mem → R Fl} {n : Nat} {σ σ1 : Env} {M M1 M2 : Mem}
theorem whl_stop (ht : t σ M = .ok false M1) : whlTurns t b (n + 1) σ M = .ok (.nx σ) M1 := by simp [whlTurns, ht, R.bind_ok]
theorem whl_go (ht : t σ M = .ok true M1) (hb : b σ M1 = .ok (.nx σ1) M2) : whlTurns t b (n + 1) σ M = whlTurns t b n σ1 M2 := by simp [whlTurns, ht, hb, R.bind_ok]
theorem whl_exc {x : Exn} (ht : t σ M = .ok true M1) (hb : b σ M1 = .exc x M2) : whlTurns t b (n + 1) σ M = .exc x M2 := by simp [whlTurns, ht, hb, R.bind_ok, R.bind_exc]
theorem whl_rt {d : D} (ht : t σ M = .ok true M1) (hb : b σ M1 = .ok (.rt d) M2) : whlTurns t b (n + 1) σ M = .ok (.rt d) M2 := by simp [whlTurns, ht, hb, R.bind_ok]
end
/-- the body of a for, as exec has it -/
def fbd (Γ : Fns) (G : Gls) (tg : Tg) (body : Sm) : D → Env → Mem → R Fl := fun d σ M => match bindT tg d σ with
  | none => .bad
  | some σ1 => exec Γ G body σ1 M
theorem exec_for {Γ : Fns} {G : Gls} {tg : Tg} {k : Ik} {a b : Ex} {body r : Sm} {σ : Env} {M : Mem} : exec Γ G (.for tg k a b body r) σ M = (walkR k (ev Γ G a) (ev Γ G b) σ M).bind fun p M2 => thenF (R.unlock p.1 (forTurns p.1 (fbd Γ G tg body) p.2 σ (p.1.lock M2))) (exec Γ G r) := by cases M; rfl
theorem exec_whl {Γ : Fns} {G : Gls} {c : Ex} {body r : Sm} {σ : Env} {M : Mem} : exec Γ G (.whl c body r) σ M = thenF (whlTurns (evT Γ G c) (exec Γ G body) fuel σ M) (exec Γ G r) := by cases M; rfl
section
variable {src : Src} {b : D → Env → Mem → R Fl} {x : D} {xs : List D} {σ σ1 : Env} {M M1 : Mem}
theorem for_nil (h : src.stands M = true) : forTurns src b [] σ M = .ok (.nx σ) M := by simp [forTurns, h]
theorem for_go (h : src.stands M = true) (hb : b x σ M = .ok (.nx σ1) M1) : forTurns src b (x :: xs) σ M = forTurns src b xs σ1 M1 := by simp [forTurns, h, hb, R.bind_ok]
theorem for_ct (h : src.stands M = true) (hb : b x σ M = .ok (.ct σ1) M1) : forTurns src b (x :: xs) σ M = forTurns src b xs σ1 M1 := by simp [forTurns, h, hb, R.bind_ok]
theorem for_rt {d : D} (h : src.stands M = true) (hb : b x σ M = .ok (.rt d) M1) : forTurns src b (x :: xs) σ M = .ok (.rt d) M1 := by simp [forTurns, h, hb, R.bind_ok]
end
theorem int_eq (a b : Int) (M : Mem) : eqD (.int a) (.int b) M = some (decide (a = b)) := by simp [eqD, D.plain, D.depth]
theorem bin_add (a b : Int) (M : Mem) : binD .Add (.int a) (.int b) M = some (.int (a + b), M) := rfl
theorem bin_sub (a b : Int) (M : Mem) : binD .Sub (.int a) (.int b) M = some (.int (a - b), M) := rfl
theorem drop_get {α : Type} {l r : List α} {c : α} {e : Nat} (h : l.drop e = c :: r) : l[e]? = some c ∧ l.drop (e + 1) = r ∧ e < l.length := by
  have h1 : e < l.length := by
    rcases Nat.lt_or_ge e l.length with h2 | h2
    · exact h2
    · rw [List.drop_eq_nil_of_le h2] at h; cases h
  rw [List.drop_eq_getElem_cons h1] at h
  cases h
  exact ⟨List.getElem?_eq_getElem h1, rfl, h1⟩
/-- a text is added -/
theorem bin_tx {a b : List Nat} (h : a.length + b.length ≤ sizeLine) (M : Mem) : binD .Add (.str (tx a)) (.str (tx b)) M = some (.str (tx (a ++ b)), M) := by
  have e : tx a ++ tx b = tx (a ++ b) := by
    show (⟨(tx a).cps ++ (tx b).cps⟩ : Str) = _
    simp [tx]
  simp only [binD, tx_len]
  rw [if_pos ⟨trivial, h⟩, e]
/-! join, slices -/
def glueN (sep : List Nat) : List (List Nat) → List Nat
  | [] => []
  | p :: r => p ++ r.flatMap fun q => sep ++ q
theorem tx_eta (x : Str) : x = tx x.cps.toList := by cases x; simp [tx]
theorem join_tx (sep : List Nat) (ps : List (List Nat)) : Txt.join (tx sep) (ps.map tx) = tx (glueN sep ps) := by
  cases ps with
  | nil => rfl
  | cons p r =>
    rw [tx_eta (Txt.join (tx sep) ((p :: r).map tx))]
    congr 1
    show (Builtin.Str.glued (tx sep) (tx p :: r.map tx)).cps.toList = _
    rw [PySem.StrLaws.glued_list]
    simp only [PySem.StrLaws.glueT, tx_list, glueN]
    congr 1
    induction r with
    | nil => rfl
    | cons q r ih => simp only [List.map_cons, PySem.StrLaws.glueL, tx_list, List.flatMap_cons, ih, List.append_assoc]
theorem chr_tx (c : Nat) : chr c = .str (tx [c]) := rfl
theorem strsOf_tx (ps : List (List Nat)) : strsOf (ps.map fun p => D.str (tx p)) = some (ps.map tx) := by
  induction ps with
  | nil => rfl
  | cons p r ih => simp only [List.map_cons, strsOf, ih, Option.map_some]
theorem glue_one (ps : List (List Nat)) : glueN [] ps = ps.flatten := by
  cases ps with
  | nil => rfl
  | cons p r =>
    simp only [glueN, List.flatten_cons]
    congr 1
    induction r with
    | nil => rfl
    | cons q r ih => simp [List.flatMap_cons, ih]
theorem bm_join_tx {M : Mem} {q : Nat} {lk : Bool} {sep : List Nat} {ps : List (List Nat)} (h : M.get q = some (.lst lk (ps.map fun p => D.str (tx p)))) (hz : (ps.map (·.length)).sum + ps.length * sep.length ≤ 16777216) :
    bmD .join (.str (tx sep)) [.ref q] M = some (.str (tx (glueN sep ps)), M) := by
  simp only [bmD, h, strsOf_tx, join_tx]
  rw [if_pos]
  rw [List.map_map, tx_len, List.length_map]
  have : ((fun x : Str => x.length) ∘ tx) = (fun p : List Nat => p.length) := by funext p; simp [tx_len]
  rw [this]; exact hz
theorem cut_tx (l : List Nat) {i e : Nat} (h1 : i ≤ e) (h2 : e ≤ l.length) : cutS (tx l) (some (i : Int)) (some (e : Int)) = tx ((l.drop i).take (e - i)) := by
  unfold cutS
  rw [HT.sIx_nat, HT.sIx_nat, tx_len, tx_list, Nat.min_eq_left h2, Nat.min_eq_left (Nat.le_trans h1 h2)]
  rfl
theorem sl_tx {l : List Nat} {i e : Nat} (hz : l.length ≤ sizeLine) (h1 : i ≤ e) (h2 : e ≤ l.length) (M : Mem) : slD (.str (tx l)) (some (i : Int)) (some (e : Int)) M = some (.str (tx ((l.drop i).take (e - i))), M) := by
  simp only [slD, tx_len, hz, if_true, cut_tx l h1 h2]
theorem app_lst {M : Mem} {q : Nat} {ds : List D} {d : D} (h : M.get q = some (.lst false ds)) (hz : ds.length < sizeLine) : bmD .append (.ref q) [d] M = some (.non, M.set q (.lst false (ds ++ [d]))) := by
  simp only [bmD, h, hz, if_true]
theorem isBt_lst {M : Mem} {q : Nat} {lk : Bool} {ds : List D} (h : M.get q = some (.lst lk ds)) : isBt .list (.ref q) M = true := by simp [isBt, h]
theorem get_set {M : Mem} {q : Nat} {o o' : MO} (h : M.get q = some o) : (M.set q o').get q = some o' := Mem.get_set_self (Mem.lt_of_get h)
/-! the statements, one by one -/
section
variable {Γ : Fns} {G : Gls} {σ : Env} {M : Mem} {e c o : Ex} {r a b : Sm} {i : Nat} {is : List Nat} {op : Operator}
theorem x_nil : exec Γ G .nil σ M = .ok (.nx σ) M := by cases M; rfl
theorem x_asg : exec Γ G (.asg i e r) σ M = (ev Γ G e σ M).bind fun d M1 => exec Γ G r (σ.set i (some d)) M1 := by cases M; rfl
theorem x_asgT : exec Γ G (.asgT is e r) σ M = (ev Γ G e σ M).bind fun d M1 => match bindT (.t is) d σ with
    | none => .bad
    | some σ1 => exec Γ G r σ1 M1 := by cases M; rfl
theorem x_drop : exec Γ G (.drop e r) σ M = (ev Γ G e σ M).bind fun _ M1 => exec Γ G r σ M1 := by cases M; rfl
theorem x_iff : exec Γ G (.iff c a b r) σ M = (evT Γ G c σ M).bind fun t M1 => thenF (if t then exec Γ G a σ M1 else exec Γ G b σ M1) (exec Γ G r) := by cases M; rfl
theorem x_ret : exec Γ G (.ret e) σ M = (ev Γ G e σ M).bind fun d M1 => .ok (.rt d) M1 := by cases M; rfl
theorem x_retN : exec Γ G .retN σ M = .ok (.rt .non) M := by cases M; rfl
end
/-- a def's end -/
def endF : Fl → Mem → R D
  | .nx _, M1 => .ok .non M1
  | .rt v, M1 => .ok v M1
  | _, _ => .bad
theorem fm_eq (d : Fd) (G : Gls) (Γ : Fns) (xs : List D) (M : Mem) : d.fm G Γ xs M = if xs.length = d.np then (exec Γ G d.body (xs.map some ++ List.replicate (d.ns - d.np) none) M).bind endF else .bad := by
  unfold Fd.fm
  split
  · congr 1; funext fl M1; cases fl <;> rfl
  · rfl
theorem then_nx {σ : Env} {M : Mem} {fr : Env → Mem → R Fl} : thenF (.ok (.nx σ) M) fr = fr σ M := rfl
theorem then_rt {d : D} {M : Mem} {fr : Env → Mem → R Fl} : thenF (.ok (.rt d) M) fr = .ok (.rt d) M := rfl
theorem then_exc {x : Exn} {M : Mem} {fr : Env → Mem → R Fl} : thenF (.exc x M) fr = .exc x M := rfl
theorem end_nx {σ : Env} {M : Mem} : endF (.nx σ) M = .ok .non M := rfl
theorem end_rt {d : D} {M : Mem} : endF (.rt d) M = .ok d M := rfl
theorem unl (r : R Fl) : R.unlock .free r = r := by cases r <;> rfl
theorem unlL (n : Nat) (ds : List D) (r : R Fl) : R.unlock (.list n ds) r = r := by cases r <;> rfl
end Mj

set_option Elab.async false
set_option linter.all false
set_option autoImplicit false
set_option maxRecDepth 100000
set_option maxHeartbeats 4000000
namespace K58
open PySem PySem.Spec L2 PyProof.Rows Mj
def c__is_sign : Sm := (.ret (.and (.cmp2 .LtE .LtE (.c (.str " ")) (.v 0) (.c (.str "~"))) (.cmp .NotEq (.bi .ord (.cons (.v 0) .nil)) (.c (.int 37)))))
def d__is_sign : Fd := ⟨1, 1, c__is_sign⟩
def lc__plain_end_1 : Ex := (.and (.cmp .Lt (.v 2) (.bi .len (.cons (.v 0) .nil))) (.cmp .NotEq (.ix (.v 0) (.v 2)) (.c (.str " "))))
def lb__plain_end_1 : Sm := (.iff (.or (.cmp .In (.ix (.v 0) (.v 2)) (.c (.str "\"\\"))) (.not (.call 0 (.cons (.ix (.v 0) (.v 2)) .nil) []))) (.raise 0 0 (.bin .Add (.v 2) (.c (.int 1)))) .nil
  (.augV 2 .Add (.c (.int 1))
  .nil))
def c__plain_end : Sm := (.asg 2 (.v 1)
  (.whl lc__plain_end_1 lb__plain_end_1
  (.iff (.cmp .Eq (.v 2) (.v 1)) (.raise 0 0 (.bin .Add (.v 1) (.c (.int 1)))) .nil
  (.ret (.v 2)))))
def d__plain_end : Fd := ⟨2, 3, c__plain_end⟩
def lc__quoted_1 : Ex := (.cmp .Lt (.v 3) (.bi .len (.cons (.v 0) .nil)))
def lb__quoted_1 : Sm := (.asg 4 (.ix (.v 0) (.v 3))
  (.iff (.cmp .Eq (.v 4) (.c (.str "\""))) (.ret (.tup (.cons (.bm .join (.c (.str "")) (.cons (.v 2) .nil)) (.cons (.bin .Add (.v 3) (.c (.int 1))) .nil)))) .nil
  (.iff (.cmp .Eq (.v 4) (.c (.str "\\"))) (.augV 3 .Add (.c (.int 1))
  (.iff (.or (.cmp .Eq (.v 3) (.bi .len (.cons (.v 0) .nil))) (.cmp .NotIn (.ix (.v 0) (.v 3)) (.c (.str "\"\\")))) (.raise 0 0 (.v 3)) .nil
  .nil)) (.iff (.not (.call 0 (.cons (.v 4) .nil) [])) (.raise 0 0 (.bin .Add (.v 3) (.c (.int 1)))) .nil
  .nil)
  (.drop (.bm .append (.v 2) (.cons (.ix (.v 0) (.v 3)) .nil))
  (.augV 3 .Add (.c (.int 1))
  .nil)))))
def c__quoted : Sm := (.asg 2 (.lst .nil)
  (.asg 3 (.bin .Add (.v 1) (.c (.int 1)))
  (.whl lc__quoted_1 lb__quoted_1
  (.raise 0 0 (.bin .Add (.v 1) (.c (.int 1)))))))
def d__quoted : Fd := ⟨2, 5, c__quoted⟩
def lc_split_words_1 : Ex := (.cmp .Lt (.v 2) (.bi .len (.cons (.v 0) .nil)))
def lb_split_words_1 : Sm := (.iff (.cmp .Eq (.ix (.v 0) (.v 2)) (.c (.str "\""))) (.asgT [3, 4] (.call 2 (.cons (.v 0) (.cons (.v 2) .nil)) [])
  .nil) (.asg 4 (.call 1 (.cons (.v 0) (.cons (.v 2) .nil)) [])
  (.asg 3 (.sl (.v 0) (.v 2) (.v 4))
  .nil))
  (.drop (.bm .append (.v 1) (.cons (.tup (.cons (.v 3) (.cons (.bin .Add (.v 2) (.c (.int 1))) .nil))) .nil))
  (.iff (.and (.cmp .Lt (.v 4) (.bi .len (.cons (.v 0) .nil))) (.or (.cmp .NotEq (.ix (.v 0) (.v 4)) (.c (.str " "))) (.cmp .Eq (.bin .Add (.v 4) (.c (.int 1))) (.bi .len (.cons (.v 0) .nil))))) (.raise 0 0 (.bin .Add (.v 4) (.c (.int 1)))) .nil
  (.asg 2 (.bin .Add (.v 4) (.c (.int 1)))
  .nil))))
def c_split_words : Sm := (.asg 1 (.lst .nil)
  (.asg 2 (.c (.int 0))
  (.whl lc_split_words_1 lb_split_words_1
  (.ret (.v 1)))))
def d_split_words : Fd := ⟨1, 5, c_split_words⟩
def c_write_word : Sm := (.iff (.and (.cmp .NotEq (.v 0) (.c (.str ""))) (.and (.cmp .NotIn (.c (.str " ")) (.v 0)) (.and (.cmp .NotIn (.c (.str "\"")) (.v 0)) (.cmp .NotIn (.c (.str "\\")) (.v 0))))) (.ret (.v 0)) .nil
  (.ret (.bin .Add (.bin .Add (.c (.str "\"")) (.bm .replace (.bm .replace (.v 0) (.cons (.c (.str "\\")) (.cons (.c (.str "\\\\")) .nil))) (.cons (.c (.str "\"")) (.cons (.c (.str "\\\"")) .nil)))) (.c (.str "\"")))))
def d_write_word : Fd := ⟨1, 1, c_write_word⟩
def c__law_mix : Sm := (.asg 2 (.bin .Mod (.bi .int (.cons (.bin .Add (.bin .Add (.bin .Mult (.v 0) (.c (.int 48271))) (.bin .Mult (.v 1) (.c (.int 69621)))) (.c (.int 11))) .nil)) (.c (.int 2147483647)))
  (.ret (.bin .Mod (.bin .Mod (.bi .int (.cons (.bin .Add (.bin .Add (.bin .Add (.bin .Mult (.v 2) (.v 2)) (.bin .Mult (.v 0) (.c (.int 40692)))) (.bin .Mult (.v 1) (.c (.int 7)))) (.c (.int 3))) .nil)) (.c (.int 1000003))) (.c (.int 1000)))))
def d__law_mix : Fd := ⟨2, 3, c__law_mix⟩
def lb__law_row_2 : Sm := (.iff (.and (.cmp .Gt (.v 4) (.c (.int 0))) (.cmp .Lt (.bi .len (.cons (.v 2) .nil)) (.v 1))) (.drop (.bm .append (.v 2) (.cons (.bin .Mod (.bi .int (.cons (.v 4) .nil)) (.c (.int 1000))) .nil))
  (.asg 4 (.bin .FloorDiv (.v 4) (.c (.int 1000)))
  .nil)) .nil
  .nil)
def lb__law_row_3 : Sm := (.iff (.cmp .Lt (.bi .len (.cons (.v 2) .nil)) (.v 1)) (.drop (.bm .append (.v 2) (.cons (.call 5 (.cons (.v 4) (.cons (.bin .Add (.bin .Mult (.c (.int 64)) (.v 5)) (.v 3)) .nil)) []) .nil))
  .nil) .nil
  .nil)
def lb__law_row_1 : Sm := (.asg 4 (.ix (.v 0) (.v 3))
  (.iff (.cmp .GtE (.v 4) (.bin .Pow (.c (.int 10)) (.c (.int 18)))) (.for (.n 5) .rng1 (.c (.int 60)) .no lb__law_row_2
  .nil) (.for (.n 5) .rng1 (.c (.int 3)) .no lb__law_row_3
  .nil)
  .nil))
def c__law_row : Sm := (.asg 2 (.lst .nil)
  (.for (.n 3) .rng1 (.bi .min2 (.cons (.bi .len (.cons (.v 0) .nil)) (.cons (.c (.int 63)) .nil))) .no lb__law_row_1
  (.ret (.v 2))))
def d__law_row : Fd := ⟨2, 6, c__law_row⟩
def c__law_good : Sm := (.ret (.and (.cmp2 .LtE .LtE (.c (.str " ")) (.v 0) (.c (.str "~"))) (.cmp .NotEq (.bi .ord (.cons (.v 0) .nil)) (.c (.int 37)))))
def d__law_good : Fd := ⟨1, 1, c__law_good⟩
def lb__law_line_1 : Sm := (.asg 4 (.bin .Mod (.bi .int (.cons (.v 3) .nil)) (.c (.int 24)))
  (.iff (.cmp .Lt (.v 4) (.c (.int 18))) (.drop (.bm .append (.v 2) (.cons (.ix (.c (.str "ab c1 \"x\\ ~!z9/-&$")) (.v 4)) .nil))
  .nil) (.iff (.or (.cmp .Lt (.v 4) (.c (.int 22))) (.not (.v 1))) (.drop (.bm .append (.v 2) (.cons (.ix (.c (.str " a\"\\bc")) (.bin .Sub (.v 4) (.c (.int 18)))) .nil))
  .nil) (.drop (.bm .append (.v 2) (.cons (.ix (.c (.str "\n\t")) (.bin .Sub (.v 4) (.c (.int 22)))) .nil))
  .nil)
  .nil)
  .nil))
def c__law_line : Sm := (.asg 2 (.lst .nil)
  (.for (.n 3) .seqL (.v 0) .no lb__law_line_1
  (.ret (.bm .join (.c (.str "")) (.cons (.v 2) .nil)))))
def d__law_line : Fd := ⟨2, 5, c__law_line⟩
def lc__law_read_2 : Ex := (.and (.cmp .Lt (.v 2) (.bi .len (.cons (.v 0) .nil))) (.not (.v 5)))
def lb__law_read_2 : Sm := (.iff (.cmp .Eq (.ix (.v 0) (.v 2)) (.c (.str "\""))) (.asg 5 (.c (.bl true))
  .nil) (.iff (.cmp .Eq (.ix (.v 0) (.v 2)) (.c (.str "\\"))) (.iff (.or (.cmp .Eq (.bin .Add (.v 2) (.c (.int 1))) (.bi .len (.cons (.v 0) .nil))) (.cmp .NotIn (.ix (.v 0) (.bin .Add (.v 2) (.c (.int 1)))) (.tup (.cons (.c (.str "\"")) (.cons (.c (.str "\\")) .nil))))) (.ret (.bin .Add (.v 2) (.c (.int 1)))) .nil
  (.asg 2 (.bin .Add (.v 2) (.c (.int 1)))
  (.drop (.bm .append (.v 4) (.cons (.ix (.v 0) (.v 2)) .nil))
  .nil))) (.iff (.not (.call 7 (.cons (.ix (.v 0) (.v 2)) .nil) [])) (.ret (.bin .Add (.v 2) (.c (.int 1)))) (.drop (.bm .append (.v 4) (.cons (.ix (.v 0) (.v 2)) .nil))
  .nil)
  .nil)
  .nil)
  (.asg 2 (.bin .Add (.v 2) (.c (.int 1)))
  .nil))
def lc__law_read_3 : Ex := (.and (.cmp .Lt (.v 2) (.bi .len (.cons (.v 0) .nil))) (.cmp .NotEq (.ix (.v 0) (.v 2)) (.c (.str " "))))
def lb__law_read_3 : Sm := (.iff (.or (.cmp .In (.ix (.v 0) (.v 2)) (.tup (.cons (.c (.str "\"")) (.cons (.c (.str "\\")) .nil)))) (.not (.call 7 (.cons (.ix (.v 0) (.v 2)) .nil) []))) (.ret (.bin .Add (.v 2) (.c (.int 1)))) .nil
  (.drop (.bm .append (.v 4) (.cons (.ix (.v 0) (.v 2)) .nil))
  (.asg 2 (.bin .Add (.v 2) (.c (.int 1)))
  .nil)))
def lc__law_read_1 : Ex := (.cmp .Lt (.v 2) (.bi .len (.cons (.v 0) .nil)))
def lb__law_read_1 : Sm := (.asg 3 (.v 2)
  (.asg 4 (.lst .nil)
  (.asg 5 (.c (.bl true))
  (.iff (.cmp .Eq (.ix (.v 0) (.v 2)) (.c (.str "\""))) (.asg 5 (.c (.bl false))
  (.asg 2 (.bin .Add (.v 2) (.c (.int 1)))
  (.whl lc__law_read_2 lb__law_read_2
  (.iff (.not (.v 5)) (.ret (.bin .Add (.v 3) (.c (.int 1)))) .nil
  .nil)))) (.whl lc__law_read_3 lb__law_read_3
  (.iff (.cmp .Eq (.v 2) (.v 3)) (.ret (.bin .Add (.v 2) (.c (.int 1)))) .nil
  .nil))
  (.drop (.bm .append (.v 1) (.cons (.tup (.cons (.bm .join (.c (.str "")) (.cons (.v 4) .nil)) (.cons (.bin .Add (.v 3) (.c (.int 1))) .nil))) .nil))
  (.iff (.cmp .Lt (.v 2) (.bi .len (.cons (.v 0) .nil))) (.iff (.or (.cmp .NotEq (.ix (.v 0) (.v 2)) (.c (.str " "))) (.cmp .Eq (.bin .Add (.v 2) (.c (.int 1))) (.bi .len (.cons (.v 0) .nil)))) (.ret (.bin .Add (.v 2) (.c (.int 1)))) .nil
  .nil) .nil
  (.asg 2 (.bin .Add (.v 2) (.c (.int 1)))
  .nil)))))))
def c__law_read : Sm := (.asg 1 (.lst .nil)
  (.asg 2 (.c (.int 0))
  (.whl lc__law_read_1 lb__law_read_1
  (.ret (.v 1)))))
def d__law_read : Fd := ⟨1, 6, c__law_read⟩
def c__law_quoted : Sm := (.ret (.bin .Add (.bin .Add (.c (.str "\"")) (.bm .replace (.bm .replace (.v 0) (.cons (.c (.str "\\")) (.cons (.c (.str "\\\\")) .nil))) (.cons (.c (.str "\"")) (.cons (.c (.str "\\\"")) .nil)))) (.c (.str "\""))))
def d__law_quoted : Fd := ⟨1, 1, c__law_quoted⟩
def c__law_written : Sm := (.iff (.or (.cmp .Eq (.v 0) (.c (.str ""))) (.or (.cmp .In (.c (.str " ")) (.v 0)) (.or (.cmp .In (.c (.str "\"")) (.v 0)) (.cmp .In (.c (.str "\\")) (.v 0))))) (.ret (.call 11 (.cons (.v 0) .nil) [])) .nil
  (.ret (.v 0)))
def d__law_written : Fd := ⟨1, 1, c__law_written⟩
def lb__law_words_1 : Sm := (.asg 5 (.c (.int 0))
  (.iff (.cmp .Lt (.v 4) (.bi .len (.cons (.v 1) .nil))) (.asg 5 (.bin .Mod (.bi .int (.cons (.ix (.v 1) (.v 4)) .nil)) (.c (.int 12)))
  .nil) .nil
  (.iff (.cmp .LtE (.bin .Add (.v 3) (.v 5)) (.bi .len (.cons (.v 0) .nil))) (.drop (.bm .append (.v 2) (.cons (.sl (.v 0) (.v 3) (.bin .Add (.v 3) (.v 5))) .nil))
  .nil) .nil
  (.asg 3 (.bin .Add (.v 3) (.v 5))
  .nil))))
def c__law_words : Sm := (.asg 2 (.lst .nil)
  (.asg 3 (.c (.int 0))
  (.for (.n 4) .rng1 (.c (.int 8)) .no lb__law_words_1
  (.ret (.v 2)))))
def d__law_words : Fd := ⟨2, 6, c__law_words⟩
def lb__law_joined_1 : Sm := (.asg 6 (.call 12 (.cons (.ix (.v 0) (.v 5)) .nil) [])
  (.iff (.and (.cmp .Lt (.v 5) (.bi .len (.cons (.v 1) .nil))) (.cmp .Eq (.bin .Mod (.bi .int (.cons (.ix (.v 1) (.v 5)) .nil)) (.c (.int 3))) (.c (.int 0)))) (.asg 6 (.call 11 (.cons (.ix (.v 0) (.v 5)) .nil) [])
  .nil) .nil
  (.drop (.bm .append (.v 2) (.cons (.v 6) .nil))
  (.drop (.bm .append (.v 3) (.cons (.tup (.cons (.ix (.v 0) (.v 5)) (.cons (.v 4) .nil))) .nil))
  (.asg 4 (.bin .Add (.bin .Add (.v 4) (.bi .len (.cons (.v 6) .nil))) (.c (.int 1)))
  .nil)))))
def c__law_joined : Sm := (.asg 2 (.lst .nil)
  (.asg 3 (.lst .nil)
  (.asg 4 (.c (.int 1))
  (.for (.n 5) .rng1 (.bi .len (.cons (.v 0) .nil)) .no lb__law_joined_1
  (.asg 7 (.call 10 (.cons (.bm .join (.c (.str " ")) (.cons (.v 2) .nil)) .nil) [])
  (.ret (.and (.isi .list (.v 7)) (.cmp .Eq (.v 7) (.v 3)))))))))
def d__law_joined : Fd := ⟨2, 8, c__law_joined⟩
def lb_law_1 : Sm := (.iff (.or (.cmp .NotEq (.call 4 (.cons (.v 7) .nil) []) (.call 12 (.cons (.v 7) .nil) [])) (.cmp .NotEq (.call 10 (.cons (.call 4 (.cons (.v 7) .nil) []) .nil) []) (.lst (.cons (.tup (.cons (.v 7) (.cons (.c (.int 1)) .nil))) .nil)))) (.ret (.c (.bl false))) .nil
  .nil)
def c_law : Sm := (.asg 1 (.call 6 (.cons (.v 0) (.cons (.c (.int 120)) .nil)) [])
  (.asg 2 (.cmp .Eq (.bin .Mod (.bi .len (.cons (.v 0) .nil)) (.c (.int 3))) (.c (.int 1)))
  (.asg 3 (.call 8 (.cons (.v 1) (.cons (.v 2) .nil)) [])
  (.asg 4 (.call 9 (.cons (.v 3) .nil) [])
  (.asg 5 (.call 10 (.cons (.v 3) .nil) [])
  (.iff (.or (.cmp .NotEq (.v 5) (.v 4)) (.or (.cmp .NotEq (.isi .list (.v 5)) (.isi .list (.v 4))) (.isi .bool (.v 5)))) (.ret (.c (.bl false))) .nil
  (.asg 6 (.call 13 (.cons (.call 8 (.cons (.v 1) (.cons (.c (.bl false)) .nil)) []) (.cons (.v 1) .nil)) [])
  (.for (.n 7) .seqL (.v 6) .no lb_law_1
  (.ret (.and (.call 14 (.cons (.v 6) (.cons (.v 1) .nil)) []) (.and (.cmp .Eq (.call 3 (.cons (.c (.str "")) .nil) []) (.lst .nil)) (.cmp .Eq (.call 4 (.cons (.c (.str "")) .nil) []) (.c (.str "\"\""))))))))))))))
def d_law : Fd := ⟨1, 8, c_law⟩
def top (i : Nat) : Stmt := PySem.Challenge.pw_majordomo_k58_words_of_a_line.main.body.getD i (.Pass ⟨0, 0, 0, 0⟩)
abbrev t__is_sign : Stmt := top 6
abbrev n__is_sign : List Str := ["sign"]
abbrev p__is_sign : List Str := ["sign"]
theorem sc__is_sign : FnScope n__is_sign p__is_sign (defScope t__is_sign) := ⟨rfl, rfl, rfl, by decide +kernel, rfl, by decide +kernel, by decide +kernel⟩
abbrev t__plain_end : Stmt := top 7
abbrev n__plain_end : List Str := ["line", "start", "end"]
abbrev p__plain_end : List Str := ["line", "start"]
theorem sc__plain_end : FnScope n__plain_end p__plain_end (defScope t__plain_end) := ⟨rfl, rfl, rfl, by decide +kernel, rfl, by decide +kernel, by decide +kernel⟩
abbrev t__quoted : Stmt := top 8
abbrev n__quoted : List Str := ["line", "start", "signs", "end", "sign"]
abbrev p__quoted : List Str := ["line", "start"]
theorem sc__quoted : FnScope n__quoted p__quoted (defScope t__quoted) := ⟨rfl, rfl, rfl, by decide +kernel, rfl, by decide +kernel, by decide +kernel⟩
abbrev t_split_words : Stmt := top 9
abbrev n_split_words : List Str := ["line", "words", "start", "word", "end"]
abbrev p_split_words : List Str := ["line"]
theorem sc_split_words : FnScope n_split_words p_split_words (defScope t_split_words) := ⟨rfl, rfl, rfl, by decide +kernel, rfl, by decide +kernel, by decide +kernel⟩
abbrev t_write_word : Stmt := top 10
abbrev n_write_word : List Str := ["word"]
abbrev p_write_word : List Str := ["word"]
theorem sc_write_word : FnScope n_write_word p_write_word (defScope t_write_word) := ⟨rfl, rfl, rfl, by decide +kernel, rfl, by decide +kernel, by decide +kernel⟩
abbrev t__law_mix : Stmt := top 12
abbrev n__law_mix : List Str := ["_law_cell", "_law_k", "_law_low"]
abbrev p__law_mix : List Str := ["_law_cell", "_law_k"]
theorem sc__law_mix : FnScope n__law_mix p__law_mix (defScope t__law_mix) := ⟨rfl, rfl, rfl, by decide +kernel, rfl, by decide +kernel, by decide +kernel⟩
abbrev t__law_row : Stmt := top 13
abbrev n__law_row : List Str := ["_law_script", "_law_most", "_law_row_here", "_law_k", "_law_rest", "_law_j"]
abbrev p__law_row : List Str := ["_law_script", "_law_most"]
theorem sc__law_row : FnScope n__law_row p__law_row (defScope t__law_row) := ⟨rfl, rfl, rfl, by decide +kernel, rfl, by decide +kernel, by decide +kernel⟩
abbrev t__law_good : Stmt := top 14
abbrev n__law_good : List Str := ["_law_sign"]
abbrev p__law_good : List Str := ["_law_sign"]
theorem sc__law_good : FnScope n__law_good p__law_good (defScope t__law_good) := ⟨rfl, rfl, rfl, by decide +kernel, rfl, by decide +kernel, by decide +kernel⟩
abbrev t__law_line : Stmt := top 15
abbrev n__law_line : List Str := ["_law_numbers", "_law_wild", "_law_signs", "_law_number", "_law_pick"]
abbrev p__law_line : List Str := ["_law_numbers", "_law_wild"]
theorem sc__law_line : FnScope n__law_line p__law_line (defScope t__law_line) := ⟨rfl, rfl, rfl, by decide +kernel, rfl, by decide +kernel, by decide +kernel⟩
abbrev t__law_read : Stmt := top 16
abbrev n__law_read : List Str := ["_law_line_here", "_law_words_here", "_law_at", "_law_start", "_law_signs", "_law_closed"]
abbrev p__law_read : List Str := ["_law_line_here"]
theorem sc__law_read : FnScope n__law_read p__law_read (defScope t__law_read) := ⟨rfl, rfl, rfl, by decide +kernel, rfl, by decide +kernel, by decide +kernel⟩
abbrev t__law_told : Stmt := top 17
abbrev n__law_told : List Str := ["_law_line_here", "e"]
abbrev p__law_told : List Str := ["_law_line_here"]
theorem sc__law_told : FnScope n__law_told p__law_told (defScope t__law_told) := ⟨rfl, rfl, rfl, by decide +kernel, rfl, by decide +kernel, by decide +kernel⟩
abbrev t__law_quoted : Stmt := top 18
abbrev n__law_quoted : List Str := ["_law_word"]
abbrev p__law_quoted : List Str := ["_law_word"]
theorem sc__law_quoted : FnScope n__law_quoted p__law_quoted (defScope t__law_quoted) := ⟨rfl, rfl, rfl, by decide +kernel, rfl, by decide +kernel, by decide +kernel⟩
abbrev t__law_written : Stmt := top 19
abbrev n__law_written : List Str := ["_law_word"]
abbrev p__law_written : List Str := ["_law_word"]
theorem sc__law_written : FnScope n__law_written p__law_written (defScope t__law_written) := ⟨rfl, rfl, rfl, by decide +kernel, rfl, by decide +kernel, by decide +kernel⟩
abbrev t__law_words : Stmt := top 20
abbrev n__law_words : List Str := ["_law_line_here", "_law_numbers", "_law_words_here", "_law_at", "_law_k", "_law_size"]
abbrev p__law_words : List Str := ["_law_line_here", "_law_numbers"]
theorem sc__law_words : FnScope n__law_words p__law_words (defScope t__law_words) := ⟨rfl, rfl, rfl, by decide +kernel, rfl, by decide +kernel, by decide +kernel⟩
abbrev t__law_joined : Stmt := top 21
abbrev n__law_joined : List Str := ["_law_words_here", "_law_numbers", "_law_written_here", "_law_due", "_law_column", "_law_k", "_law_form", "_law_told_here"]
abbrev p__law_joined : List Str := ["_law_words_here", "_law_numbers"]
theorem sc__law_joined : FnScope n__law_joined p__law_joined (defScope t__law_joined) := ⟨rfl, rfl, rfl, by decide +kernel, rfl, by decide +kernel, by decide +kernel⟩
abbrev t_law : Stmt := top 22
abbrev n_law : List Str := ["_law_script", "_law_numbers", "_law_wild", "_law_line_here", "_law_due", "_law_told_here", "_law_words_here", "_law_word"]
abbrev p_law : List Str := ["_law_script"]
theorem sc_law : FnScope n_law p_law (defScope t_law) := ⟨rfl, rfl, rfl, by decide +kernel, rfl, by decide +kernel, by decide +kernel⟩
def Cc : Cw := ⟨fun _ => 0, fun n => match n with | 0 => some ("column" : Str) | _ => none, fun _ _ => false, fun a b x h1 h2 => by
  match a, b, h1, h2 with
  | 0, 0, _, _ => rfl⟩
def Gg : Gls := ⟨fun _ => none, fun _ _ => false⟩
structure Xa where
  bad : Addr
  cmd : Addr
  maj : Addr
  B : Addr
  fI : Addr
  fdI : FuncData
def xcO (xa : Xa) : Nat → Addr := fun _ => xa.bad
abbrev t_xi : Stmt := inClass (top 3) 0
structure Tx (K : PySem.W.Frag) (mg : Str → Option Value) (xa : Xa) : Prop where
  m_bool : mg "bool" = none
  m_int : mg "int" = none
  m_isinstance : mg "isinstance" = none
  m_len : mg "len" = none
  m_list : mg "list" = none
  m_min : mg "min" = none
  m_ord : mg "ord" = none
  m_range : mg "range" = none
  x_BadWord : Xk K mg "BadWord" xa.bad "column" "DeskError" xa.B xa.fI "CommandError.__init__" t_xi xa.fdI ["self", "column"]
  xi : XiC K xa.bad
  xf : XfC K xa.bad
  exm : PySem.W.exmOne K (.ref xa.bad) (.ref xa.bad) = some true
  g_cmd : mg "CommandError" = some (.ref xa.cmd)
  k_cmd : PySem.W.kitOne K (.ref xa.bad) (.ref xa.cmd) = some true
  g_maj : mg "MajordomoError" = some (.ref xa.maj)
  k_maj : PySem.W.kitOne K (.ref xa.bad) (.ref xa.maj) = some true
structure Cs (C : Cw) (xc : Nat → Addr) (P : Program) (w : World) (K : PySem.W.Frag) (mg : Str → Option Value) (base : Heap) (k : Nat) (Γ : Fns) : Prop where
  c__is_sign : Cal C xc P w K mg base k "_is_sign" (Γ 0)
  c__plain_end : Cal C xc P w K mg base k "_plain_end" (Γ 1)
  c__quoted : Cal C xc P w K mg base k "_quoted" (Γ 2)
  c_split_words : Cal C xc P w K mg base k "split_words" (Γ 3)
  c_write_word : Cal C xc P w K mg base k "write_word" (Γ 4)
  c__law_mix : Cal C xc P w K mg base k "_law_mix" (Γ 5)
  c__law_row : Cal C xc P w K mg base k "_law_row" (Γ 6)
  c__law_good : Cal C xc P w K mg base k "_law_good" (Γ 7)
  c__law_line : Cal C xc P w K mg base k "_law_line" (Γ 8)
  c__law_read : Cal C xc P w K mg base k "_law_read" (Γ 9)
  c__law_told : Cal C xc P w K mg base k "_law_told" (Γ 10)
  c__law_quoted : Cal C xc P w K mg base k "_law_quoted" (Γ 11)
  c__law_written : Cal C xc P w K mg base k "_law_written" (Γ 12)
  c__law_words : Cal C xc P w K mg base k "_law_words" (Γ 13)
  c__law_joined : Cal C xc P w K mg base k "_law_joined" (Γ 14)
  c_law : Cal C xc P w K mg base k "law" (Γ 15)
section
variable {P : Program} {w : World} {K : PySem.W.Frag} {mg : Str → Option Value} {base : Heap} {xa : Xa} {Γ : Fns} {k : Nat}
theorem scI : FnScope ["self", "column"] ["self", "column"] (defScope t_xi) := ⟨rfl, rfl, rfl, by decide +kernel, rfl, by decide +kernel, by decide +kernel⟩
theorem f1_BadWord (T : Tx K mg xa) : FnOk P w K mg base (L2.CX P w) 1 xa.fI xa.fdI ["self", "column"] (spXI xa.bad "column") := xi_ok (k := 0) T.x_BadWord scI rfl rfl rfl (fun _ _ _ => rfl) (by decide) (by decide) (by decide) (fun _ => rfl)
theorem o__is_sign {f : Addr} {fd : FuncData} (T : Tx K mg xa) (D : Df K mg "_is_sign" "_is_sign" t__is_sign p__is_sign f fd) (cs : Cs Cc (xcO xa) P w K mg base k Γ) (hk : 2 ≤ k) : FnOk P w K mg base (L2.CX P w) (k + 2) f fd p__is_sign (spOf Cc (xcO xa) (d__is_sign.fm Gg Γ)) :=
  fn_mk D.fn sc__is_sign rfl rfl rfl fun cdv A outer s H E fx =>
    (srt (kand (kcmp2 fx.sd ks (kv 0) ks) (kand1 (kcmp fx.sd (kbi (n := .ord) bi_ord Boot.«ord» rfl T.m_ord (ka (kv 0) ka0)) ki))))
theorem o__plain_end {f : Addr} {fd : FuncData} (T : Tx K mg xa) (D : Df K mg "_plain_end" "_plain_end" t__plain_end p__plain_end f fd) (cs : Cs Cc (xcO xa) P w K mg base k Γ) (hk : 2 ≤ k) : FnOk P w K mg base (L2.CX P w) (k + 2) f fd p__plain_end (spOf Cc (xcO xa) (d__plain_end.fm Gg Γ)) :=
  fn_mk D.fn sc__plain_end rfl rfl rfl fun cdv A outer s H E fx =>
    (sas fx 2 (kv 1)
    (swh fx (PW.pt (wand (tcmp fx.sd (kv 2) (kbi (n := .len) bi_len Boot.«len» rfl T.m_len (ka (kv 0) ka0))) (wand1 (tcmp fx.sd (kix fx.sd (kv 0) (kv 2)) ks)))) (sif (PW.pt (wor (tcmp fx.sd (kix fx.sd (kv 0) (kv 2)) ks) (wor1 (tnot (tpl (kca fx cs.c__is_sign (ka (kix fx.sd (kv 0) (kv 2)) ka0))))))) (sraX fx hk 0 0 T.x_BadWord (f1_BadWord T) rfl rfl (kop (op_bin _) (kv 2) ki)) s0
    (sau fx 2 ki
    s0))
    (sif (tcmp fx.sd (kv 2) (kv 1)) (sraX fx hk 0 0 T.x_BadWord (f1_BadWord T) rfl rfl (kop (op_bin _) (kv 1) ki)) s0
    (srt (kv 2)))))
theorem o__quoted {f : Addr} {fd : FuncData} (T : Tx K mg xa) (D : Df K mg "_quoted" "_quoted" t__quoted p__quoted f fd) (cs : Cs Cc (xcO xa) P w K mg base k Γ) (hk : 2 ≤ k) : FnOk P w K mg base (L2.CX P w) (k + 2) f fd p__quoted (spOf Cc (xcO xa) (d__quoted.fm Gg Γ)) :=
  fn_mk D.fn sc__quoted rfl rfl rfl fun cdv A outer s H E fx =>
    (sas fx 2 (klst ka0)
    (sas fx 3 (kop (op_bin _) (kv 1) ki)
    (swh fx (tcmp fx.sd (kv 3) (kbi (n := .len) bi_len Boot.«len» rfl T.m_len (ka (kv 0) ka0))) (sas fx 4 (kix fx.sd (kv 0) (kv 3))
    (sif (tcmp fx.sd (kv 4) ks) (srt (ktup (ka (kbm (m := .join) PySem.F.plainAttrs_str PySem.F.slot_str_join PySem.F.type_str_join bm_join ks (ka (kv 2) ka0)) (ka (kop (op_bin _) (kv 3) ki) ka0)))) s0
    (sif (tcmp fx.sd (kv 4) ks) (sau fx 3 ki
    (sif (PW.pt (wor (tcmp fx.sd (kv 3) (kbi (n := .len) bi_len Boot.«len» rfl T.m_len (ka (kv 0) ka0))) (wor1 (tcmp fx.sd (kix fx.sd (kv 0) (kv 3)) ks)))) (sraX fx hk 0 0 T.x_BadWord (f1_BadWord T) rfl rfl (kv 3)) s0
    s0)) (sif (tnot (tpl (kca fx cs.c__is_sign (ka (kv 4) ka0)))) (sraX fx hk 0 0 T.x_BadWord (f1_BadWord T) rfl rfl (kop (op_bin _) (kv 3) ki)) s0
    s0)
    (sdr (kbm (m := .append) PySem.F.plainAttrs_list PySem.F.slot_list_append PySem.F.type_list_append bm_append (kv 2) (ka (kix fx.sd (kv 0) (kv 3)) ka0))
    (sau fx 3 ki
    s0)))))
    (sraX fx hk 0 0 T.x_BadWord (f1_BadWord T) rfl rfl (kop (op_bin _) (kv 1) ki)))))
theorem o_split_words {f : Addr} {fd : FuncData} (T : Tx K mg xa) (D : Df K mg "split_words" "split_words" t_split_words p_split_words f fd) (cs : Cs Cc (xcO xa) P w K mg base k Γ) (hk : 2 ≤ k) : FnOk P w K mg base (L2.CX P w) (k + 2) f fd p_split_words (spOf Cc (xcO xa) (d_split_words.fm Gg Γ)) :=
  fn_mk D.fn sc_split_words rfl rfl rfl fun cdv A outer s H E fx =>
    (sas fx 1 (klst ka0)
    (sas fx 2 ki
    (swh fx (tcmp fx.sd (kv 2) (kbi (n := .len) bi_len Boot.«len» rfl T.m_len (ka (kv 0) ka0))) (sif (tcmp fx.sd (kix fx.sd (kv 0) (kv 2)) ks) (sast fx (gt fx (gsc fx (gsc fx gs0))) (kca fx cs.c__quoted (ka (kv 0) (ka (kv 2) ka0)))
    s0) (sas fx 4 (kca fx cs.c__plain_end (ka (kv 0) (ka (kv 2) ka0)))
    (sas fx 3 (ksl (kv 0) (kv 2) (kv 4))
    s0))
    (sdr (kbm (m := .append) PySem.F.plainAttrs_list PySem.F.slot_list_append PySem.F.type_list_append bm_append (kv 1) (ka (ktup (ka (kv 3) (ka (kop (op_bin _) (kv 2) ki) ka0))) ka0))
    (sif (PW.pt (wand (tcmp fx.sd (kv 4) (kbi (n := .len) bi_len Boot.«len» rfl T.m_len (ka (kv 0) ka0))) (wand1 (PW.pt (wor (tcmp fx.sd (kix fx.sd (kv 0) (kv 4)) ks) (wor1 (tcmp fx.sd (kop (op_bin _) (kv 4) ki) (kbi (n := .len) bi_len Boot.«len» rfl T.m_len (ka (kv 0) ka0))))))))) (sraX fx hk 0 0 T.x_BadWord (f1_BadWord T) rfl rfl (kop (op_bin _) (kv 4) ki)) s0
    (sas fx 2 (kop (op_bin _) (kv 4) ki)
    s0))))
    (srt (kv 1)))))
theorem o_write_word {f : Addr} {fd : FuncData} (T : Tx K mg xa) (D : Df K mg "write_word" "write_word" t_write_word p_write_word f fd) (cs : Cs Cc (xcO xa) P w K mg base k Γ) (hk : 2 ≤ k) : FnOk P w K mg base (L2.CX P w) (k + 2) f fd p_write_word (spOf Cc (xcO xa) (d_write_word.fm Gg Γ)) :=
  fn_mk D.fn sc_write_word rfl rfl rfl fun cdv A outer s H E fx =>
    (sif (PW.pt (wand (tcmp fx.sd (kv 0) ks) (wand (tcmp fx.sd ks (kv 0)) (wand (tcmp fx.sd ks (kv 0)) (wand1 (tcmp fx.sd ks (kv 0))))))) (srt (kv 0)) s0
    (srt (kop (op_bin _) (kaddT (op_bin _) (krep (krep (pet_of (kv 0))))) ks)))
theorem o__law_mix {f : Addr} {fd : FuncData} (T : Tx K mg xa) (D : Df K mg "_law_mix" "_law_mix" t__law_mix p__law_mix f fd) (cs : Cs Cc (xcO xa) P w K mg base k Γ) (hk : 2 ≤ k) : FnOk P w K mg base (L2.CX P w) (k + 2) f fd p__law_mix (spOf Cc (xcO xa) (d__law_mix.fm Gg Γ)) :=
  fn_mk D.fn sc__law_mix rfl rfl rfl fun cdv A outer s H E fx =>
    (sas fx 2 (kop (op_bin _) (kbt (n := .int) bi_int Boot.«int» rfl T.m_int (ka (kop (op_bin _) (kop (op_bin _) (kop (op_bin _) (kv 0) ki) (kop (op_bin _) (kv 1) ki)) ki) ka0)) ki)
    (srt (kop (op_bin _) (kop (op_bin _) (kbt (n := .int) bi_int Boot.«int» rfl T.m_int (ka (kop (op_bin _) (kop (op_bin _) (kop (op_bin _) (kop (op_bin _) (kv 2) (kv 2)) (kop (op_bin _) (kv 0) ki)) (kop (op_bin _) (kv 1) ki)) ki) ka0)) ki) ki)))
theorem o__law_row {f : Addr} {fd : FuncData} (T : Tx K mg xa) (D : Df K mg "_law_row" "_law_row" t__law_row p__law_row f fd) (cs : Cs Cc (xcO xa) P w K mg base k Γ) (hk : 2 ≤ k) : FnOk P w K mg base (L2.CX P w) (k + 2) f fd p__law_row (spOf Cc (xcO xa) (d__law_row.fm Gg Γ)) :=
  fn_mk D.fn sc__law_row rfl rfl rfl fun cdv A outer s H E fx =>
    (sas fx 2 (klst ka0)
    (sfo fx rfl (iR1 rfl T.m_range (kbi (n := .min2) (bi_min2 fx.sd.calm) Boot.«min» rfl T.m_min (ka (kbi (n := .len) bi_len Boot.«len» rfl T.m_len (ka (kv 0) ka0)) (ka ki ka0)))) (gn fx) (sas fx 4 (kix fx.sd (kv 0) (kv 3))
    (sif (tcmp fx.sd (kv 4) (kop (op_bin _) ki ki)) (sfo fx rfl (iR1 rfl T.m_range ki) (gn fx) (sif (PW.pt (wand (tcmp fx.sd (kv 4) ki) (wand1 (tcmp fx.sd (kbi (n := .len) bi_len Boot.«len» rfl T.m_len (ka (kv 2) ka0)) (kv 1))))) (sdr (kbm (m := .append) PySem.F.plainAttrs_list PySem.F.slot_list_append PySem.F.type_list_append bm_append (kv 2) (ka (kop (op_bin _) (kbt (n := .int) bi_int Boot.«int» rfl T.m_int (ka (kv 4) ka0)) ki) ka0))
    (sas fx 4 (kop (op_bin _) (kv 4) ki)
    s0)) s0
    s0)
    s0) (sfo fx rfl (iR1 rfl T.m_range ki) (gn fx) (sif (tcmp fx.sd (kbi (n := .len) bi_len Boot.«len» rfl T.m_len (ka (kv 2) ka0)) (kv 1)) (sdr (kbm (m := .append) PySem.F.plainAttrs_list PySem.F.slot_list_append PySem.F.type_list_append bm_append (kv 2) (ka (kca fx cs.c__law_mix (ka (kv 4) (ka (kop (op_bin _) (kop (op_bin _) ki (kv 5)) (kv 3)) ka0))) ka0))
    s0) s0
    s0)
    s0)
    s0))
    (srt (kv 2))))
theorem o__law_good {f : Addr} {fd : FuncData} (T : Tx K mg xa) (D : Df K mg "_law_good" "_law_good" t__law_good p__law_good f fd) (cs : Cs Cc (xcO xa) P w K mg base k Γ) (hk : 2 ≤ k) : FnOk P w K mg base (L2.CX P w) (k + 2) f fd p__law_good (spOf Cc (xcO xa) (d__law_good.fm Gg Γ)) :=
  fn_mk D.fn sc__law_good rfl rfl rfl fun cdv A outer s H E fx =>
    (srt (kand (kcmp2 fx.sd ks (kv 0) ks) (kand1 (kcmp fx.sd (kbi (n := .ord) bi_ord Boot.«ord» rfl T.m_ord (ka (kv 0) ka0)) ki))))
theorem o__law_line {f : Addr} {fd : FuncData} (T : Tx K mg xa) (D : Df K mg "_law_line" "_law_line" t__law_line p__law_line f fd) (cs : Cs Cc (xcO xa) P w K mg base k Γ) (hk : 2 ≤ k) : FnOk P w K mg base (L2.CX P w) (k + 2) f fd p__law_line (spOf Cc (xcO xa) (d__law_line.fm Gg Γ)) :=
  fn_mk D.fn sc__law_line rfl rfl rfl fun cdv A outer s H E fx =>
    (sas fx 2 (klst ka0)
    (sfo fx rfl (iL (kv 0)) (gn fx) (sas fx 4 (kop (op_bin _) (kbt (n := .int) bi_int Boot.«int» rfl T.m_int (ka (kv 3) ka0)) ki)
    (sif (tcmp fx.sd (kv 4) ki) (sdr (kbm (m := .append) PySem.F.plainAttrs_list PySem.F.slot_list_append PySem.F.type_list_append bm_append (kv 2) (ka (kix fx.sd ks (kv 4)) ka0))
    s0) (sif (PW.pt (wor (tcmp fx.sd (kv 4) ki) (wor1 (tnot (tpl (kv 1)))))) (sdr (kbm (m := .append) PySem.F.plainAttrs_list PySem.F.slot_list_append PySem.F.type_list_append bm_append (kv 2) (ka (kix fx.sd ks (kop (op_bin _) (kv 4) ki)) ka0))
    s0) (sdr (kbm (m := .append) PySem.F.plainAttrs_list PySem.F.slot_list_append PySem.F.type_list_append bm_append (kv 2) (ka (kix fx.sd ks (kop (op_bin _) (kv 4) ki)) ka0))
    s0)
    s0)
    s0))
    (srt (kbm (m := .join) PySem.F.plainAttrs_str PySem.F.slot_str_join PySem.F.type_str_join bm_join ks (ka (kv 2) ka0)))))
theorem o__law_read {f : Addr} {fd : FuncData} (T : Tx K mg xa) (D : Df K mg "_law_read" "_law_read" t__law_read p__law_read f fd) (cs : Cs Cc (xcO xa) P w K mg base k Γ) (hk : 2 ≤ k) : FnOk P w K mg base (L2.CX P w) (k + 2) f fd p__law_read (spOf Cc (xcO xa) (d__law_read.fm Gg Γ)) :=
  fn_mk D.fn sc__law_read rfl rfl rfl fun cdv A outer s H E fx =>
    (sas fx 1 (klst ka0)
    (sas fx 2 ki
    (swh fx (tcmp fx.sd (kv 2) (kbi (n := .len) bi_len Boot.«len» rfl T.m_len (ka (kv 0) ka0))) (sas fx 3 (kv 2)
    (sas fx 4 (klst ka0)
    (sas fx 5 kb
    (sif (tcmp fx.sd (kix fx.sd (kv 0) (kv 2)) ks) (sas fx 5 kb
    (sas fx 2 (kop (op_bin _) (kv 2) ki)
    (swh fx (PW.pt (wand (tcmp fx.sd (kv 2) (kbi (n := .len) bi_len Boot.«len» rfl T.m_len (ka (kv 0) ka0))) (wand1 (tnot (tpl (kv 5)))))) (sif (tcmp fx.sd (kix fx.sd (kv 0) (kv 2)) ks) (sas fx 5 kb
    s0) (sif (tcmp fx.sd (kix fx.sd (kv 0) (kv 2)) ks) (sif (PW.pt (wor (tcmp fx.sd (kop (op_bin _) (kv 2) ki) (kbi (n := .len) bi_len Boot.«len» rfl T.m_len (ka (kv 0) ka0))) (wor1 (tcmp fx.sd (kix fx.sd (kv 0) (kop (op_bin _) (kv 2) ki)) (ktup (ka ks (ka ks ka0))))))) (srt (kop (op_bin _) (kv 2) ki)) s0
    (sas fx 2 (kop (op_bin _) (kv 2) ki)
    (sdr (kbm (m := .append) PySem.F.plainAttrs_list PySem.F.slot_list_append PySem.F.type_list_append bm_append (kv 4) (ka (kix fx.sd (kv 0) (kv 2)) ka0))
    s0))) (sif (tnot (tpl (kca fx cs.c__law_good (ka (kix fx.sd (kv 0) (kv 2)) ka0)))) (srt (kop (op_bin _) (kv 2) ki)) (sdr (kbm (m := .append) PySem.F.plainAttrs_list PySem.F.slot_list_append PySem.F.type_list_append bm_append (kv 4) (ka (kix fx.sd (kv 0) (kv 2)) ka0))
    s0)
    s0)
    s0)
    (sas fx 2 (kop (op_bin _) (kv 2) ki)
    s0))
    (sif (tnot (tpl (kv 5))) (srt (kop (op_bin _) (kv 3) ki)) s0
    s0)))) (swh fx (PW.pt (wand (tcmp fx.sd (kv 2) (kbi (n := .len) bi_len Boot.«len» rfl T.m_len (ka (kv 0) ka0))) (wand1 (tcmp fx.sd (kix fx.sd (kv 0) (kv 2)) ks)))) (sif (PW.pt (wor (tcmp fx.sd (kix fx.sd (kv 0) (kv 2)) (ktup (ka ks (ka ks ka0)))) (wor1 (tnot (tpl (kca fx cs.c__law_good (ka (kix fx.sd (kv 0) (kv 2)) ka0))))))) (srt (kop (op_bin _) (kv 2) ki)) s0
    (sdr (kbm (m := .append) PySem.F.plainAttrs_list PySem.F.slot_list_append PySem.F.type_list_append bm_append (kv 4) (ka (kix fx.sd (kv 0) (kv 2)) ka0))
    (sas fx 2 (kop (op_bin _) (kv 2) ki)
    s0)))
    (sif (tcmp fx.sd (kv 2) (kv 3)) (srt (kop (op_bin _) (kv 2) ki)) s0
    s0))
    (sdr (kbm (m := .append) PySem.F.plainAttrs_list PySem.F.slot_list_append PySem.F.type_list_append bm_append (kv 1) (ka (ktup (ka (kbm (m := .join) PySem.F.plainAttrs_str PySem.F.slot_str_join PySem.F.type_str_join bm_join ks (ka (kv 4) ka0)) (ka (kop (op_bin _) (kv 3) ki) ka0))) ka0))
    (sif (tcmp fx.sd (kv 2) (kbi (n := .len) bi_len Boot.«len» rfl T.m_len (ka (kv 0) ka0))) (sif (PW.pt (wor (tcmp fx.sd (kix fx.sd (kv 0) (kv 2)) ks) (wor1 (tcmp fx.sd (kop (op_bin _) (kv 2) ki) (kbi (n := .len) bi_len Boot.«len» rfl T.m_len (ka (kv 0) ka0)))))) (srt (kop (op_bin _) (kv 2) ki)) s0
    s0) s0
    (sas fx 2 (kop (op_bin _) (kv 2) ki)
    s0)))))))
    (srt (kv 1)))))
theorem o__law_quoted {f : Addr} {fd : FuncData} (T : Tx K mg xa) (D : Df K mg "_law_quoted" "_law_quoted" t__law_quoted p__law_quoted f fd) (cs : Cs Cc (xcO xa) P w K mg base k Γ) (hk : 2 ≤ k) : FnOk P w K mg base (L2.CX P w) (k + 2) f fd p__law_quoted (spOf Cc (xcO xa) (d__law_quoted.fm Gg Γ)) :=
  fn_mk D.fn sc__law_quoted rfl rfl rfl fun cdv A outer s H E fx =>
    (srt (kop (op_bin _) (kaddT (op_bin _) (krep (krep (pet_of (kv 0))))) ks))
theorem o__law_written {f : Addr} {fd : FuncData} (T : Tx K mg xa) (D : Df K mg "_law_written" "_law_written" t__law_written p__law_written f fd) (cs : Cs Cc (xcO xa) P w K mg base k Γ) (hk : 2 ≤ k) : FnOk P w K mg base (L2.CX P w) (k + 2) f fd p__law_written (spOf Cc (xcO xa) (d__law_written.fm Gg Γ)) :=
  fn_mk D.fn sc__law_written rfl rfl rfl fun cdv A outer s H E fx =>
    (sif (PW.pt (wor (tcmp fx.sd (kv 0) ks) (wor (tcmp fx.sd ks (kv 0)) (wor (tcmp fx.sd ks (kv 0)) (wor1 (tcmp fx.sd ks (kv 0))))))) (srt (kca fx cs.c__law_quoted (ka (kv 0) ka0))) s0
    (srt (kv 0)))
theorem o__law_words {f : Addr} {fd : FuncData} (T : Tx K mg xa) (D : Df K mg "_law_words" "_law_words" t__law_words p__law_words f fd) (cs : Cs Cc (xcO xa) P w K mg base k Γ) (hk : 2 ≤ k) : FnOk P w K mg base (L2.CX P w) (k + 2) f fd p__law_words (spOf Cc (xcO xa) (d__law_words.fm Gg Γ)) :=
  fn_mk D.fn sc__law_words rfl rfl rfl fun cdv A outer s H E fx =>
    (sas fx 2 (klst ka0)
    (sas fx 3 ki
    (sfo fx rfl (iR1 rfl T.m_range ki) (gn fx) (sas fx 5 ki
    (sif (tcmp fx.sd (kv 4) (kbi (n := .len) bi_len Boot.«len» rfl T.m_len (ka (kv 1) ka0))) (sas fx 5 (kop (op_bin _) (kbt (n := .int) bi_int Boot.«int» rfl T.m_int (ka (kix fx.sd (kv 1) (kv 4)) ka0)) ki)
    s0) s0
    (sif (tcmp fx.sd (kop (op_bin _) (kv 3) (kv 5)) (kbi (n := .len) bi_len Boot.«len» rfl T.m_len (ka (kv 0) ka0))) (sdr (kbm (m := .append) PySem.F.plainAttrs_list PySem.F.slot_list_append PySem.F.type_list_append bm_append (kv 2) (ka (ksl (kv 0) (kv 3) (kop (op_bin _) (kv 3) (kv 5))) ka0))
    s0) s0
    (sas fx 3 (kop (op_bin _) (kv 3) (kv 5))
    s0))))
    (srt (kv 2)))))
theorem o__law_joined {f : Addr} {fd : FuncData} (T : Tx K mg xa) (D : Df K mg "_law_joined" "_law_joined" t__law_joined p__law_joined f fd) (cs : Cs Cc (xcO xa) P w K mg base k Γ) (hk : 2 ≤ k) : FnOk P w K mg base (L2.CX P w) (k + 2) f fd p__law_joined (spOf Cc (xcO xa) (d__law_joined.fm Gg Γ)) :=
  fn_mk D.fn sc__law_joined rfl rfl rfl fun cdv A outer s H E fx =>
    (sas fx 2 (klst ka0)
    (sas fx 3 (klst ka0)
    (sas fx 4 ki
    (sfo fx rfl (iR1 rfl T.m_range (kbi (n := .len) bi_len Boot.«len» rfl T.m_len (ka (kv 0) ka0))) (gn fx) (sas fx 6 (kca fx cs.c__law_written (ka (kix fx.sd (kv 0) (kv 5)) ka0))
    (sif (PW.pt (wand (tcmp fx.sd (kv 5) (kbi (n := .len) bi_len Boot.«len» rfl T.m_len (ka (kv 1) ka0))) (wand1 (tcmp fx.sd (kop (op_bin _) (kbt (n := .int) bi_int Boot.«int» rfl T.m_int (ka (kix fx.sd (kv 1) (kv 5)) ka0)) ki) ki)))) (sas fx 6 (kca fx cs.c__law_quoted (ka (kix fx.sd (kv 0) (kv 5)) ka0))
    s0) s0
    (sdr (kbm (m := .append) PySem.F.plainAttrs_list PySem.F.slot_list_append PySem.F.type_list_append bm_append (kv 2) (ka (kv 6) ka0))
    (sdr (kbm (m := .append) PySem.F.plainAttrs_list PySem.F.slot_list_append PySem.F.type_list_append bm_append (kv 3) (ka (ktup (ka (kix fx.sd (kv 0) (kv 5)) (ka (kv 4) ka0))) ka0))
    (sas fx 4 (kop (op_bin _) (kop (op_bin _) (kv 4) (kbi (n := .len) bi_len Boot.«len» rfl T.m_len (ka (kv 6) ka0))) ki)
    s0)))))
    (sas fx 7 (kca fx cs.c__law_told (ka (kbm (m := .join) PySem.F.plainAttrs_str PySem.F.slot_str_join PySem.F.type_str_join bm_join ks (ka (kv 2) ka0)) ka0))
    (srt (kand (kisi .list rfl Boot.«isinstance» Boot.«list» rfl T.m_isinstance rfl T.m_list (kv 7) rfl rfl (by decide) (by decide)) (kand1 (kcmp fx.sd (kv 7) (kv 3))))))))))
theorem o_law {f : Addr} {fd : FuncData} (T : Tx K mg xa) (D : Df K mg "law" "law" t_law p_law f fd) (cs : Cs Cc (xcO xa) P w K mg base k Γ) (hk : 2 ≤ k) : FnOk P w K mg base (L2.CX P w) (k + 2) f fd p_law (spOf Cc (xcO xa) (d_law.fm Gg Γ)) :=
  fn_mk D.fn sc_law rfl rfl rfl fun cdv A outer s H E fx =>
    (sas fx 1 (kca fx cs.c__law_row (ka (kv 0) (ka ki ka0)))
    (sas fx 2 (kcmp fx.sd (kop (op_bin _) (kbi (n := .len) bi_len Boot.«len» rfl T.m_len (ka (kv 0) ka0)) ki) ki)
    (sas fx 3 (kca fx cs.c__law_line (ka (kv 1) (ka (kv 2) ka0)))
    (sas fx 4 (kca fx cs.c__law_read (ka (kv 3) ka0))
    (sas fx 5 (kca fx cs.c__law_told (ka (kv 3) ka0))
    (sif (PW.pt (wor (tcmp fx.sd (kv 5) (kv 4)) (wor (tcmp fx.sd (kisi .list rfl Boot.«isinstance» Boot.«list» rfl T.m_isinstance rfl T.m_list (kv 5) rfl rfl (by decide) (by decide)) (kisi .list rfl Boot.«isinstance» Boot.«list» rfl T.m_isinstance rfl T.m_list (kv 4) rfl rfl (by decide) (by decide))) (wor1 (tpl (kisi .bool rfl Boot.«isinstance» Boot.«bool» rfl T.m_isinstance rfl T.m_bool (kv 5) rfl rfl (by decide) (by decide))))))) (srt kb) s0
    (sas fx 6 (kca fx cs.c__law_words (ka (kca fx cs.c__law_line (ka (kv 1) (ka kb ka0))) (ka (kv 1) ka0)))
    (sfo fx rfl (iL (kv 6)) (gn fx) (sif (PW.pt (wor (tcmp fx.sd (kca fx cs.c_write_word (ka (kv 7) ka0)) (kca fx cs.c__law_written (ka (kv 7) ka0))) (wor1 (tcmp fx.sd (kca fx cs.c__law_told (ka (kca fx cs.c_write_word (ka (kv 7) ka0)) ka0)) (klst (ka (ktup (ka (kv 7) (ka ki ka0))) ka0)))))) (srt kb) s0
    s0)
    (srt (kand (kca fx cs.c__law_joined (ka (kv 6) (ka (kv 1) ka0))) (kand (kcmp fx.sd (kca fx cs.c_split_words (ka ks ka0)) (klst ka0)) (kand1 (kcmp fx.sd (kca fx cs.c_write_word (ka ks ka0)) ks)))))))))))))
/-- _law_told -/
def gTold (Γ : Fns) : List D → Mem → R D
  | [x], M => match Γ 3 [x] M with
    | .ok a M' => .ok a M'
    | .exc x M' => match x.fs with
      | [(0, d)] => .ok d M'
      | _ => .bad
    | .bad => .bad
  | _, _ => .bad
def wdOf (xa : Xa) (Wx : WX) : WD := fun x M π H σv => ∀ cls od, XR Cc (xcO xa) π H x cls od → Wx cls od σv H
def tsTold (xa : Xa) (a : Addr) (cls : Value) (d : Option Addr) : TS := fun D σ H => ∃ dd gs v, cls = .ref xa.bad ∧ d = some dd ∧ H dd = some (.xd gs) ∧ gs.lookup ("column" : Str) = some v ∧ σ[1]? = some (some (.ref a)) ∧ D.rt v H
theorem never {X : Cx} {l : List Stmt} : PSs X l (fun _ _ _ => False) := ⟨fun _ _ _ _ _ _ z => z.elim⟩
theorem o__law_told {f : Addr} {fd : FuncData} (T : Tx K mg xa) (D : Df K mg "_law_told" "_law_told" t__law_told p__law_told f fd) (cs : Cs Cc (xcO xa) P w K mg base k Γ) (hk : 2 ≤ k) : FnOk P w K mg base (L2.CX P w) (k + 2) f fd p__law_told (spOf Cc (xcO xa) (gTold Γ)) := by
  refine D.fn.okX sc__law_told (fun vs H Q E h => ?_) (fun cdv A outer s H vs Q E hr h => ?_)
  · obtain ⟨π, ds, M, r, m, o⟩ := h
    match ds, r, o with
    | [], r, o => exact o.elim
    | _ :: _ :: _, r, o => exact o.elim
    | [x], r, o => exact r.length
  · refine ⟨_, pss_one (ps_try_as (i := 1) (tb := fun Wx => TSd Cc (wdOf xa Wx) true (Mj.exec Γ Gg (.ret (.call 3 (.cons (.v 0) .nil) [])))) (ts := tsTold xa) (Wout := fun _ _ _ _ => False) rfl rfl sc__law_told.nd rfl rfl ⟨rfl, by decide, Or.inl T.x_BadWord.gC⟩ takes0
      (fun Wx pn xe tk po => ds_ret (rest := []) (kca (G := Gg) (xc := xcO xa) (k := k) ⟨⟨sc__law_told.nd, rfl, by have := hr.un; show (A.deeper _).units + 100 < cLine; omega, rfl⟩, po, fun _ => rfl, tk.imp fun cls od σ H' ⟨x, M, π, m, xr, w⟩ => w cls od xr, hr.mono (Nat.le_succ k)⟩ cs.c_split_words (ka (kv 0) ka0)))
      (fun a oe cls d pn hz hf => PSs.imp (t' := tsTold xa a cls d) (pss_cons (ps_if (PW.pt (pw_or (pt_not (pt_truth (pe_isE (D := xa.bad) (d := d) (cls := cls) (i := 1) (b := true) T.xi hz hf T.k_cmd (pv 1) rfl T.m_isinstance Boot.«isinstance» rfl T.g_cmd (by decide) rfl rfl) (isTrue_other rfl _)))
        (pw_or1 (pt_not (pt_truth (pe_isE (D := xa.bad) (d := d) (cls := cls) (i := 1) (b := true) T.xi hz hf T.k_maj (pv 1) rfl T.m_isinstance Boot.«isinstance» rfl T.g_maj (by decide) rfl rfl) (isTrue_other rfl _)))))) never pss_nil) (pss_one (ps_ret (pe_xf T.xf T.x_BadWord.noN hz hf (pv 1))))) ?_)), ?_⟩
    · intro Dn σ H ⟨dd, gs, v, e1, e2, e3, e4, e5, q⟩
      refine ⟨e5, e1, ⟨dd, gs, e2, e3⟩, true, rfl, ?_⟩
      refine L2.iteF ?_
      refine ⟨e5, e1, ⟨dd, gs, e2, e3⟩, true, rfl, ?_⟩
      refine L2.iteF ?_
      exact ⟨_, e5, rfl, e1, dd, gs, v, e2, e3, e4, q⟩
    · obtain ⟨π, ds, M, r, m, o⟩ := h
      match ds, r, o with
      | [], r, o => exact o.elim
      | _ :: _ :: _, r, o => exact o.elim
      | [x], r, o =>
        obtain ⟨v, rfl, rv⟩ := rps1 r
        refine ⟨π, [some x, none], M, .cons (.som rv) (.cons .non .nil), m, ?_⟩
        show OutS Cc _ true π H _ ((((R.ok x M).bind fun d M1 => (R.ok [] M1).bind fun ds M2 => .ok (d :: ds) M2).bind fun xs M1 => Γ 3 (xs ++ []) M1).bind fun d M1 => .ok (.rt d) M1) _
        simp only [R.bind_ok, List.append_nil]
        simp only [gTold] at o
        revert o
        cases Γ 3 [x] M with
        | bad => exact fun z => z.elim
        | ok d M' => exact fun z π' H' v l m r => z π' H' l m v r
        | exc x M' =>
          dsimp only
          split
          · rename_i d hfs
            intro z π' H' σv' l m' e cls od xr
            obtain ⟨rfl, dd, gs, rfl, hdd, rf⟩ := xr
            rw [e rfl]
            refine ⟨true, T.exm, fun _ a ha => ?_, fun z => by cases z⟩
            obtain ⟨c, fs⟩ := x
            dsimp only at hfs rf
            subst hfs
            obtain ⟨u, hu, ru⟩ := rf.lookup (x := ("column" : Str)) (f := 0) (d := d) rfl (by simp)
            exact ⟨dd, gs, u, rfl, rfl, hdd, hu, rfl, z π' H' l m' u ru⟩
          · exact fun z => z.elim
end
def tabL : List Fm := [d__is_sign.fm Gg, d__plain_end.fm Gg, d__quoted.fm Gg, d_split_words.fm Gg, d_write_word.fm Gg, d__law_mix.fm Gg, d__law_row.fm Gg, d__law_good.fm Gg, d__law_line.fm Gg, d__law_read.fm Gg, gTold, d__law_quoted.fm Gg, d__law_written.fm Gg, d__law_words.fm Gg, d__law_joined.fm Gg, d_law.fm Gg]
def tab (n : Nat) : Option Fm := tabL[n]?
theorem run_at {i : Nat} {h : Fm} (j : Nat) (e : tab i = some h) : run tab (j + 1) i = h (run tab j) := by funext xs M; simp only [Mj.run, e]
structure Dx (K : PySem.W.Frag) (mg : Str → Option Value) (f : Nat → Addr) (fd : Nat → FuncData) : Prop where
  d__is_sign : Df K mg "_is_sign" "_is_sign" t__is_sign p__is_sign (f 0) (fd 0)
  d__plain_end : Df K mg "_plain_end" "_plain_end" t__plain_end p__plain_end (f 1) (fd 1)
  d__quoted : Df K mg "_quoted" "_quoted" t__quoted p__quoted (f 2) (fd 2)
  d_split_words : Df K mg "split_words" "split_words" t_split_words p_split_words (f 3) (fd 3)
  d_write_word : Df K mg "write_word" "write_word" t_write_word p_write_word (f 4) (fd 4)
  d__law_mix : Df K mg "_law_mix" "_law_mix" t__law_mix p__law_mix (f 5) (fd 5)
  d__law_row : Df K mg "_law_row" "_law_row" t__law_row p__law_row (f 6) (fd 6)
  d__law_good : Df K mg "_law_good" "_law_good" t__law_good p__law_good (f 7) (fd 7)
  d__law_line : Df K mg "_law_line" "_law_line" t__law_line p__law_line (f 8) (fd 8)
  d__law_read : Df K mg "_law_read" "_law_read" t__law_read p__law_read (f 9) (fd 9)
  d__law_told : Df K mg "_law_told" "_law_told" t__law_told p__law_told (f 10) (fd 10)
  d__law_quoted : Df K mg "_law_quoted" "_law_quoted" t__law_quoted p__law_quoted (f 11) (fd 11)
  d__law_written : Df K mg "_law_written" "_law_written" t__law_written p__law_written (f 12) (fd 12)
  d__law_words : Df K mg "_law_words" "_law_words" t__law_words p__law_words (f 13) (fd 13)
  d__law_joined : Df K mg "_law_joined" "_law_joined" t__law_joined p__law_joined (f 14) (fd 14)
  d_law : Df K mg "law" "law" t_law p_law (f 15) (fd 15)
section
variable {P : Program} {w : World} {K : PySem.W.Frag} {mg : Str → Option Value} {base : Heap} {xa : Xa}
theorem levels {f : Nat → Addr} {fd : Nat → FuncData} (T : Tx K mg xa) (D : Dx K mg f fd) : ∀ j, Cs Cc (xcO xa) P w K mg base (2 * j + 2) (run tab j)
  | 0 => ⟨D.d__is_sign.cal fn_bad, D.d__plain_end.cal fn_bad, D.d__quoted.cal fn_bad, D.d_split_words.cal fn_bad, D.d_write_word.cal fn_bad, D.d__law_mix.cal fn_bad, D.d__law_row.cal fn_bad, D.d__law_good.cal fn_bad, D.d__law_line.cal fn_bad, D.d__law_read.cal fn_bad, D.d__law_told.cal fn_bad, D.d__law_quoted.cal fn_bad, D.d__law_written.cal fn_bad, D.d__law_words.cal fn_bad, D.d__law_joined.cal fn_bad, D.d_law.cal fn_bad⟩
  | j + 1 => by
    have cs := levels T D j
    have hk : 2 ≤ 2 * j + 2 := Nat.le_add_left 2 _
    exact ⟨by rw [run_at (i := 0) j rfl]; exact D.d__is_sign.cal (o__is_sign T D.d__is_sign cs hk),
      by rw [run_at (i := 1) j rfl]; exact D.d__plain_end.cal (o__plain_end T D.d__plain_end cs hk),
      by rw [run_at (i := 2) j rfl]; exact D.d__quoted.cal (o__quoted T D.d__quoted cs hk),
      by rw [run_at (i := 3) j rfl]; exact D.d_split_words.cal (o_split_words T D.d_split_words cs hk),
      by rw [run_at (i := 4) j rfl]; exact D.d_write_word.cal (o_write_word T D.d_write_word cs hk),
      by rw [run_at (i := 5) j rfl]; exact D.d__law_mix.cal (o__law_mix T D.d__law_mix cs hk),
      by rw [run_at (i := 6) j rfl]; exact D.d__law_row.cal (o__law_row T D.d__law_row cs hk),
      by rw [run_at (i := 7) j rfl]; exact D.d__law_good.cal (o__law_good T D.d__law_good cs hk),
      by rw [run_at (i := 8) j rfl]; exact D.d__law_line.cal (o__law_line T D.d__law_line cs hk),
      by rw [run_at (i := 9) j rfl]; exact D.d__law_read.cal (o__law_read T D.d__law_read cs hk),
      by rw [run_at (i := 10) j rfl]; exact D.d__law_told.cal (o__law_told T D.d__law_told cs hk),
      by rw [run_at (i := 11) j rfl]; exact D.d__law_quoted.cal (o__law_quoted T D.d__law_quoted cs hk),
      by rw [run_at (i := 12) j rfl]; exact D.d__law_written.cal (o__law_written T D.d__law_written cs hk),
      by rw [run_at (i := 13) j rfl]; exact D.d__law_words.cal (o__law_words T D.d__law_words cs hk),
      by rw [run_at (i := 14) j rfl]; exact D.d__law_joined.cal (o__law_joined T D.d__law_joined cs hk),
      by rw [run_at (i := 15) j rfl]; exact D.d_law.cal (o_law T D.d_law cs hk)⟩
end
theorem all_mk {P : Program} {w : World} {K : PySem.W.Frag} {h : Heap} {mg : Str → Option Value} {fa : Addr} (X : K.In h) (G : h.Ns mainGlobals mg) (hfa : mg "law" = some (.ref fa))
    {f0 : Addr} {od0 an0 : Option Addr} {sl0 : Array (Option Value)} {oc0 kV0 dc0 pm0 cd0 ct0 : Value}
    {f1 : Addr} {od1 an1 : Option Addr} {sl1 : Array (Option Value)} {oc1 kV1 dc1 pm1 cd1 ct1 : Value}
    {f2 : Addr} {od2 an2 : Option Addr} {sl2 : Array (Option Value)} {oc2 kV2 dc2 pm2 cd2 ct2 : Value}
    {f3 : Addr} {od3 an3 : Option Addr} {sl3 : Array (Option Value)} {oc3 kV3 dc3 pm3 cd3 ct3 : Value}
    {f4 : Addr} {od4 an4 : Option Addr} {sl4 : Array (Option Value)} {oc4 kV4 dc4 pm4 cd4 ct4 : Value}
    {f5 : Addr} {od5 an5 : Option Addr} {sl5 : Array (Option Value)} {oc5 kV5 dc5 pm5 cd5 ct5 : Value}
    {f6 : Addr} {od6 an6 : Option Addr} {sl6 : Array (Option Value)} {oc6 kV6 dc6 pm6 cd6 ct6 : Value}
    {f7 : Addr} {od7 an7 : Option Addr} {sl7 : Array (Option Value)} {oc7 kV7 dc7 pm7 cd7 ct7 : Value}
    {f8 : Addr} {od8 an8 : Option Addr} {sl8 : Array (Option Value)} {oc8 kV8 dc8 pm8 cd8 ct8 : Value}
    {f9 : Addr} {od9 an9 : Option Addr} {sl9 : Array (Option Value)} {oc9 kV9 dc9 pm9 cd9 ct9 : Value}
    {f10 : Addr} {od10 an10 : Option Addr} {sl10 : Array (Option Value)} {oc10 kV10 dc10 pm10 cd10 ct10 : Value}
    {f11 : Addr} {od11 an11 : Option Addr} {sl11 : Array (Option Value)} {oc11 kV11 dc11 pm11 cd11 ct11 : Value}
    {f12 : Addr} {od12 an12 : Option Addr} {sl12 : Array (Option Value)} {oc12 kV12 dc12 pm12 cd12 ct12 : Value}
    {f13 : Addr} {od13 an13 : Option Addr} {sl13 : Array (Option Value)} {oc13 kV13 dc13 pm13 cd13 ct13 : Value}
    {f14 : Addr} {od14 an14 : Option Addr} {sl14 : Array (Option Value)} {oc14 kV14 dc14 pm14 cd14 ct14 : Value}
    {f15 : Addr} {od15 an15 : Option Addr} {sl15 : Array (Option Value)} {oc15 kV15 dc15 pm15 cd15 ct15 : Value}
    {C1 C2 C3 C4 fI : Addr} {odi ani : Option Addr} {sli : Array (Option Value)} {oci kVi dci pmi cdi cti : Value} {nm q : Str} {N : Addr} {bs : List Value} {sn : List Str} {sub : List Value} {ab : Bool} {col : Option Bool} {dd : Option Addr} {m0 m1 m2 m3 m5 : Option Value}
    (a0 : PySem.W.nsIn K mainGlobals "_is_sign" = some (some (.ref f0))) (l0 : K.lookup f0 = some ⟨oc0, od0, .func (PySem.W.fnOf "_is_sign" "_is_sign" (defArgs t__is_sign) (defBody t__is_sign) (defScope t__is_sign) .none kV0 dc0 pm0 an0 cd0 ct0), sl0⟩) (c0 : PySem.W.codeIn K cd0 "_is_sign" = true) (k0 : PySem.W.keepIn K (.ref f0) = true)
    (a1 : PySem.W.nsIn K mainGlobals "_plain_end" = some (some (.ref f1))) (l1 : K.lookup f1 = some ⟨oc1, od1, .func (PySem.W.fnOf "_plain_end" "_plain_end" (defArgs t__plain_end) (defBody t__plain_end) (defScope t__plain_end) .none kV1 dc1 pm1 an1 cd1 ct1), sl1⟩) (c1 : PySem.W.codeIn K cd1 "_plain_end" = true) (k1 : PySem.W.keepIn K (.ref f1) = true)
    (a2 : PySem.W.nsIn K mainGlobals "_quoted" = some (some (.ref f2))) (l2 : K.lookup f2 = some ⟨oc2, od2, .func (PySem.W.fnOf "_quoted" "_quoted" (defArgs t__quoted) (defBody t__quoted) (defScope t__quoted) .none kV2 dc2 pm2 an2 cd2 ct2), sl2⟩) (c2 : PySem.W.codeIn K cd2 "_quoted" = true) (k2 : PySem.W.keepIn K (.ref f2) = true)
    (a3 : PySem.W.nsIn K mainGlobals "split_words" = some (some (.ref f3))) (l3 : K.lookup f3 = some ⟨oc3, od3, .func (PySem.W.fnOf "split_words" "split_words" (defArgs t_split_words) (defBody t_split_words) (defScope t_split_words) .none kV3 dc3 pm3 an3 cd3 ct3), sl3⟩) (c3 : PySem.W.codeIn K cd3 "split_words" = true) (k3 : PySem.W.keepIn K (.ref f3) = true)
    (a4 : PySem.W.nsIn K mainGlobals "write_word" = some (some (.ref f4))) (l4 : K.lookup f4 = some ⟨oc4, od4, .func (PySem.W.fnOf "write_word" "write_word" (defArgs t_write_word) (defBody t_write_word) (defScope t_write_word) .none kV4 dc4 pm4 an4 cd4 ct4), sl4⟩) (c4 : PySem.W.codeIn K cd4 "write_word" = true) (k4 : PySem.W.keepIn K (.ref f4) = true)
    (a5 : PySem.W.nsIn K mainGlobals "_law_mix" = some (some (.ref f5))) (l5 : K.lookup f5 = some ⟨oc5, od5, .func (PySem.W.fnOf "_law_mix" "_law_mix" (defArgs t__law_mix) (defBody t__law_mix) (defScope t__law_mix) .none kV5 dc5 pm5 an5 cd5 ct5), sl5⟩) (c5 : PySem.W.codeIn K cd5 "_law_mix" = true) (k5 : PySem.W.keepIn K (.ref f5) = true)
    (a6 : PySem.W.nsIn K mainGlobals "_law_row" = some (some (.ref f6))) (l6 : K.lookup f6 = some ⟨oc6, od6, .func (PySem.W.fnOf "_law_row" "_law_row" (defArgs t__law_row) (defBody t__law_row) (defScope t__law_row) .none kV6 dc6 pm6 an6 cd6 ct6), sl6⟩) (c6 : PySem.W.codeIn K cd6 "_law_row" = true) (k6 : PySem.W.keepIn K (.ref f6) = true)
    (a7 : PySem.W.nsIn K mainGlobals "_law_good" = some (some (.ref f7))) (l7 : K.lookup f7 = some ⟨oc7, od7, .func (PySem.W.fnOf "_law_good" "_law_good" (defArgs t__law_good) (defBody t__law_good) (defScope t__law_good) .none kV7 dc7 pm7 an7 cd7 ct7), sl7⟩) (c7 : PySem.W.codeIn K cd7 "_law_good" = true) (k7 : PySem.W.keepIn K (.ref f7) = true)
    (a8 : PySem.W.nsIn K mainGlobals "_law_line" = some (some (.ref f8))) (l8 : K.lookup f8 = some ⟨oc8, od8, .func (PySem.W.fnOf "_law_line" "_law_line" (defArgs t__law_line) (defBody t__law_line) (defScope t__law_line) .none kV8 dc8 pm8 an8 cd8 ct8), sl8⟩) (c8 : PySem.W.codeIn K cd8 "_law_line" = true) (k8 : PySem.W.keepIn K (.ref f8) = true)
    (a9 : PySem.W.nsIn K mainGlobals "_law_read" = some (some (.ref f9))) (l9 : K.lookup f9 = some ⟨oc9, od9, .func (PySem.W.fnOf "_law_read" "_law_read" (defArgs t__law_read) (defBody t__law_read) (defScope t__law_read) .none kV9 dc9 pm9 an9 cd9 ct9), sl9⟩) (c9 : PySem.W.codeIn K cd9 "_law_read" = true) (k9 : PySem.W.keepIn K (.ref f9) = true)
    (a10 : PySem.W.nsIn K mainGlobals "_law_told" = some (some (.ref f10))) (l10 : K.lookup f10 = some ⟨oc10, od10, .func (PySem.W.fnOf "_law_told" "_law_told" (defArgs t__law_told) (defBody t__law_told) (defScope t__law_told) .none kV10 dc10 pm10 an10 cd10 ct10), sl10⟩) (c10 : PySem.W.codeIn K cd10 "_law_told" = true) (k10 : PySem.W.keepIn K (.ref f10) = true)
    (a11 : PySem.W.nsIn K mainGlobals "_law_quoted" = some (some (.ref f11))) (l11 : K.lookup f11 = some ⟨oc11, od11, .func (PySem.W.fnOf "_law_quoted" "_law_quoted" (defArgs t__law_quoted) (defBody t__law_quoted) (defScope t__law_quoted) .none kV11 dc11 pm11 an11 cd11 ct11), sl11⟩) (c11 : PySem.W.codeIn K cd11 "_law_quoted" = true) (k11 : PySem.W.keepIn K (.ref f11) = true)
    (a12 : PySem.W.nsIn K mainGlobals "_law_written" = some (some (.ref f12))) (l12 : K.lookup f12 = some ⟨oc12, od12, .func (PySem.W.fnOf "_law_written" "_law_written" (defArgs t__law_written) (defBody t__law_written) (defScope t__law_written) .none kV12 dc12 pm12 an12 cd12 ct12), sl12⟩) (c12 : PySem.W.codeIn K cd12 "_law_written" = true) (k12 : PySem.W.keepIn K (.ref f12) = true)
    (a13 : PySem.W.nsIn K mainGlobals "_law_words" = some (some (.ref f13))) (l13 : K.lookup f13 = some ⟨oc13, od13, .func (PySem.W.fnOf "_law_words" "_law_words" (defArgs t__law_words) (defBody t__law_words) (defScope t__law_words) .none kV13 dc13 pm13 an13 cd13 ct13), sl13⟩) (c13 : PySem.W.codeIn K cd13 "_law_words" = true) (k13 : PySem.W.keepIn K (.ref f13) = true)
    (a14 : PySem.W.nsIn K mainGlobals "_law_joined" = some (some (.ref f14))) (l14 : K.lookup f14 = some ⟨oc14, od14, .func (PySem.W.fnOf "_law_joined" "_law_joined" (defArgs t__law_joined) (defBody t__law_joined) (defScope t__law_joined) .none kV14 dc14 pm14 an14 cd14 ct14), sl14⟩) (c14 : PySem.W.codeIn K cd14 "_law_joined" = true) (k14 : PySem.W.keepIn K (.ref f14) = true)
    (a15 : PySem.W.nsIn K mainGlobals "law" = some (some (.ref f15))) (l15 : K.lookup f15 = some ⟨oc15, od15, .func (PySem.W.fnOf "law" "law" (defArgs t_law) (defBody t_law) (defScope t_law) .none kV15 dc15 pm15 an15 cd15 ct15), sl15⟩) (c15 : PySem.W.codeIn K cd15 "law" = true) (k15 : PySem.W.keepIn K (.ref f15) = true)
    (z_bool : PySem.W.nsIn K mainGlobals "bool" = some none)
    (z_int : PySem.W.nsIn K mainGlobals "int" = some none)
    (z_isinstance : PySem.W.nsIn K mainGlobals "isinstance" = some none)
    (z_len : PySem.W.nsIn K mainGlobals "len" = some none)
    (z_list : PySem.W.nsIn K mainGlobals "list" = some none)
    (z_min : PySem.W.nsIn K mainGlobals "min" = some none)
    (z_ord : PySem.W.nsIn K mainGlobals "ord" = some none)
    (z_range : PySem.W.nsIn K mainGlobals "range" = some none)
    (g1 : PySem.W.nsIn K mainGlobals "MajordomoError" = some (some (.ref C1))) (g2 : PySem.W.nsIn K mainGlobals "DeskError" = some (some (.ref C2))) (g3 : PySem.W.nsIn K mainGlobals "CommandError" = some (some (.ref C3))) (g4 : PySem.W.nsIn K mainGlobals "BadWord" = some (some (.ref C4)))
    (xL : K.lookup C4 = some (excClassObj nm q C4 N bs [.ref C3, .ref C2, .ref C1, .type "ValueError", .type "Exception", .type "BaseException", .type "object"] true sn sub ab col dd m0 m1 m2 m3 m5 "ValueError.__new__"))
    (sa : PySem.W.findIn K (.ref C4) "__setattr__" = some (some (.builtin "object.__setattr__"))) (ex4 : PySem.W.subIn K (.ref C4) (.type "BaseException") = some true) (ty4 : PySem.W.typeIn K (.ref C4) = some (.type "type")) (kp4 : PySem.W.keepIn K (.ref C4) = true)
    (no4 : PySem.W.findIn K (.ref C4) "column" = some none) (ai : PySem.W.findIn K (.ref C4) "__init__" = some (some (.ref fI))) (ti : PySem.W.typeIn K (.ref fI) = some (.type "function")) (li : K.lookup fI = some ⟨oci, odi, .func (PySem.W.fnOf "__init__" "CommandError.__init__" (defArgs t_xi) (defBody t_xi) (defScope t_xi) .none kVi dci pmi ani cdi cti), sli⟩) (ci : PySem.W.codeIn K cdi "CommandError.__init__" = true) (ki : PySem.W.keepIn K (.ref fI) = true)
    (gaB : PySem.W.specialIn K (.ref C2) "__getattribute__" = some (some (.builtin "type.__getattribute__"))) (rdB : PySem.W.readsIn K C2 (.type "type") = true) (fcB : PySem.W.findCls K (.ref C2) (.type "type") "__init__" = some (.val (.builtin "ValueError.__init__")))
    (ic4 : PySem.W.isClsIn K C4 = true) (ga4 : PySem.W.findIn K (.ref C4) "__getattribute__" = some (some (.builtin "BaseException.__getattribute__"))) (gg4 : PySem.W.findIn K (.ref C4) "__getattr__" = some none) (cl4 : PySem.W.findIn K (.ref C4) "__class__" = some (some (.builtin "object.__class__")))
    (sp4 : PySem.W.specialIn K (.builtin "object.__class__") "__get__" = some (some (.builtin "getset_descriptor.__get__"))) (tk4 : PySem.W.takesIn K (.builtin "object.__class__") = some true) (mr4 : PySem.W.mroIn K C4 (.type "object") = some true) (hd4 : PySem.W.hasDictIn K C4 = true)
    (em4 : PySem.W.exmOne K (.ref C4) (.ref C4) = some true) (kc4 : PySem.W.kitOne K (.ref C4) (.ref C3) = some true) (km4 : PySem.W.kitOne K (.ref C4) (.ref C1) = some true)
    (hp : ∀ (ns : List Int) (lk : Bool), ns.length ≤ 63 → ∃ M', d_law.fm Gg (run tab 8) [.ref 0] ⟨[.lst lk (ns.map .int)]⟩ = .ok (.bl true) M') :
    ∃ fd : FuncData, (∀ (s : Shared) (u : Value), BindsTo s fd ⟨[u], []⟩ [("_law_script", u)]) ∧ ∀ base : Heap, K.In base → base.Ns mainGlobals mg → FnOk P w K mg base (L2.CX P w) (2 * 8 + 4) fa fd ["_law_script"] (fun vs H Q _ => ∃ (a : Addr) (ns : List Int), vs = [.ref a] ∧ Rd H a (.lst (ns.map V.int)) ∧ ns.length ≤ 63 ∧ ∀ H', Q (.bl true) H') := by
  have e := hfa.symm.trans (PySem.W.mg_of X G a15)
  cases e
  have F0 := fun_mk (st := t__is_sign) l0 c0 k0
  have b0 := F0.binds (ps := p__is_sign) fun _ _ _ _ _ _ us hl => match us, hl with | [_], _ => rfl
  have F1 := fun_mk (st := t__plain_end) l1 c1 k1
  have b1 := F1.binds (ps := p__plain_end) fun _ _ _ _ _ _ us hl => match us, hl with | [_, _], _ => rfl
  have F2 := fun_mk (st := t__quoted) l2 c2 k2
  have b2 := F2.binds (ps := p__quoted) fun _ _ _ _ _ _ us hl => match us, hl with | [_, _], _ => rfl
  have F3 := fun_mk (st := t_split_words) l3 c3 k3
  have b3 := F3.binds (ps := p_split_words) fun _ _ _ _ _ _ us hl => match us, hl with | [_], _ => rfl
  have F4 := fun_mk (st := t_write_word) l4 c4 k4
  have b4 := F4.binds (ps := p_write_word) fun _ _ _ _ _ _ us hl => match us, hl with | [_], _ => rfl
  have F5 := fun_mk (st := t__law_mix) l5 c5 k5
  have b5 := F5.binds (ps := p__law_mix) fun _ _ _ _ _ _ us hl => match us, hl with | [_, _], _ => rfl
  have F6 := fun_mk (st := t__law_row) l6 c6 k6
  have b6 := F6.binds (ps := p__law_row) fun _ _ _ _ _ _ us hl => match us, hl with | [_, _], _ => rfl
  have F7 := fun_mk (st := t__law_good) l7 c7 k7
  have b7 := F7.binds (ps := p__law_good) fun _ _ _ _ _ _ us hl => match us, hl with | [_], _ => rfl
  have F8 := fun_mk (st := t__law_line) l8 c8 k8
  have b8 := F8.binds (ps := p__law_line) fun _ _ _ _ _ _ us hl => match us, hl with | [_, _], _ => rfl
  have F9 := fun_mk (st := t__law_read) l9 c9 k9
  have b9 := F9.binds (ps := p__law_read) fun _ _ _ _ _ _ us hl => match us, hl with | [_], _ => rfl
  have F10 := fun_mk (st := t__law_told) l10 c10 k10
  have b10 := F10.binds (ps := p__law_told) fun _ _ _ _ _ _ us hl => match us, hl with | [_], _ => rfl
  have F11 := fun_mk (st := t__law_quoted) l11 c11 k11
  have b11 := F11.binds (ps := p__law_quoted) fun _ _ _ _ _ _ us hl => match us, hl with | [_], _ => rfl
  have F12 := fun_mk (st := t__law_written) l12 c12 k12
  have b12 := F12.binds (ps := p__law_written) fun _ _ _ _ _ _ us hl => match us, hl with | [_], _ => rfl
  have F13 := fun_mk (st := t__law_words) l13 c13 k13
  have b13 := F13.binds (ps := p__law_words) fun _ _ _ _ _ _ us hl => match us, hl with | [_, _], _ => rfl
  have F14 := fun_mk (st := t__law_joined) l14 c14 k14
  have b14 := F14.binds (ps := p__law_joined) fun _ _ _ _ _ _ us hl => match us, hl with | [_, _], _ => rfl
  have F15 := fun_mk (st := t_law) l15 c15 k15
  have b15 := F15.binds (ps := p_law) fun _ _ _ _ _ _ us hl => match us, hl with | [_], _ => rfl
  have Fi := fun_mk (st := t_xi) li ci ki
  have bi := Fi.binds (ps := ["self", "column"]) fun _ _ _ _ _ _ us hl => match us, hl with | [_, _], _ => rfl
  have ox : OexC K C4 := ⟨⟨nm, q, N, bs, _, sn, sub, ab, col, dd, m0, m1, m2, m3, m5, xL, rfl⟩, sa, ex4, ty4, kp4⟩
  have T : Tx K mg ⟨C4, C3, C1, C2, fI, PySem.W.fnOf "__init__" "CommandError.__init__" (defArgs t_xi) (defBody t_xi) (defScope t_xi) .none kVi dci pmi ani cdi cti⟩ := { m_bool := PySem.W.mg_none_of X G z_bool, m_int := PySem.W.mg_none_of X G z_int, m_isinstance := PySem.W.mg_none_of X G z_isinstance, m_len := PySem.W.mg_none_of X G z_len, m_list := PySem.W.mg_none_of X G z_list, m_min := PySem.W.mg_none_of X G z_min, m_ord := PySem.W.mg_none_of X G z_ord, m_range := PySem.W.mg_none_of X G z_range, x_BadWord := ⟨ox, PySem.W.mg_of X G g4, no4, ai, ti, PySem.W.mg_of X G g2, gaB, rdB, fcB, Fi, bi⟩, xi := ⟨ic4, ga4, gg4, ex4, cl4, sp4, tk4, mr4⟩, xf := ⟨ga4, gg4, ex4, hd4⟩, exm := em4, g_cmd := PySem.W.mg_of X G g3, k_cmd := kc4, g_maj := PySem.W.mg_of X G g1, k_maj := km4 }
  let fo : Nat → Addr := fun n => match n with | 0 => f0 | 1 => f1 | 2 => f2 | 3 => f3 | 4 => f4 | 5 => f5 | 6 => f6 | 7 => f7 | 8 => f8 | 9 => f9 | 10 => f10 | 11 => f11 | 12 => f12 | 13 => f13 | 14 => f14 | 15 => fa | _ => 0
  let fdo : Nat → FuncData := fun n => match n with | 0 => PySem.W.fnOf "_is_sign" "_is_sign" (defArgs t__is_sign) (defBody t__is_sign) (defScope t__is_sign) .none kV0 dc0 pm0 an0 cd0 ct0 | 1 => PySem.W.fnOf "_plain_end" "_plain_end" (defArgs t__plain_end) (defBody t__plain_end) (defScope t__plain_end) .none kV1 dc1 pm1 an1 cd1 ct1 | 2 => PySem.W.fnOf "_quoted" "_quoted" (defArgs t__quoted) (defBody t__quoted) (defScope t__quoted) .none kV2 dc2 pm2 an2 cd2 ct2 | 3 => PySem.W.fnOf "split_words" "split_words" (defArgs t_split_words) (defBody t_split_words) (defScope t_split_words) .none kV3 dc3 pm3 an3 cd3 ct3 | 4 => PySem.W.fnOf "write_word" "write_word" (defArgs t_write_word) (defBody t_write_word) (defScope t_write_word) .none kV4 dc4 pm4 an4 cd4 ct4 | 5 => PySem.W.fnOf "_law_mix" "_law_mix" (defArgs t__law_mix) (defBody t__law_mix) (defScope t__law_mix) .none kV5 dc5 pm5 an5 cd5 ct5 | 6 => PySem.W.fnOf "_law_row" "_law_row" (defArgs t__law_row) (defBody t__law_row) (defScope t__law_row) .none kV6 dc6 pm6 an6 cd6 ct6 | 7 => PySem.W.fnOf "_law_good" "_law_good" (defArgs t__law_good) (defBody t__law_good) (defScope t__law_good) .none kV7 dc7 pm7 an7 cd7 ct7 | 8 => PySem.W.fnOf "_law_line" "_law_line" (defArgs t__law_line) (defBody t__law_line) (defScope t__law_line) .none kV8 dc8 pm8 an8 cd8 ct8 | 9 => PySem.W.fnOf "_law_read" "_law_read" (defArgs t__law_read) (defBody t__law_read) (defScope t__law_read) .none kV9 dc9 pm9 an9 cd9 ct9 | 10 => PySem.W.fnOf "_law_told" "_law_told" (defArgs t__law_told) (defBody t__law_told) (defScope t__law_told) .none kV10 dc10 pm10 an10 cd10 ct10 | 11 => PySem.W.fnOf "_law_quoted" "_law_quoted" (defArgs t__law_quoted) (defBody t__law_quoted) (defScope t__law_quoted) .none kV11 dc11 pm11 an11 cd11 ct11 | 12 => PySem.W.fnOf "_law_written" "_law_written" (defArgs t__law_written) (defBody t__law_written) (defScope t__law_written) .none kV12 dc12 pm12 an12 cd12 ct12 | 13 => PySem.W.fnOf "_law_words" "_law_words" (defArgs t__law_words) (defBody t__law_words) (defScope t__law_words) .none kV13 dc13 pm13 an13 cd13 ct13 | 14 => PySem.W.fnOf "_law_joined" "_law_joined" (defArgs t__law_joined) (defBody t__law_joined) (defScope t__law_joined) .none kV14 dc14 pm14 an14 cd14 ct14 | 15 => PySem.W.fnOf "law" "law" (defArgs t_law) (defBody t_law) (defScope t_law) .none kV15 dc15 pm15 an15 cd15 ct15 | _ => PySem.W.fnOf "law" "law" (defArgs t_law) (defBody t_law) (defScope t_law) .none kV15 dc15 pm15 an15 cd15 ct15
  have D : Dx K mg fo fdo := ⟨⟨F0, PySem.W.mg_of X G a0, b0⟩, ⟨F1, PySem.W.mg_of X G a1, b1⟩, ⟨F2, PySem.W.mg_of X G a2, b2⟩, ⟨F3, PySem.W.mg_of X G a3, b3⟩, ⟨F4, PySem.W.mg_of X G a4, b4⟩, ⟨F5, PySem.W.mg_of X G a5, b5⟩, ⟨F6, PySem.W.mg_of X G a6, b6⟩, ⟨F7, PySem.W.mg_of X G a7, b7⟩, ⟨F8, PySem.W.mg_of X G a8, b8⟩, ⟨F9, PySem.W.mg_of X G a9, b9⟩, ⟨F10, PySem.W.mg_of X G a10, b10⟩, ⟨F11, PySem.W.mg_of X G a11, b11⟩, ⟨F12, PySem.W.mg_of X G a12, b12⟩, ⟨F13, PySem.W.mg_of X G a13, b13⟩, ⟨F14, PySem.W.mg_of X G a14, b14⟩, ⟨F15, PySem.W.mg_of X G a15, b15⟩⟩
  exact ⟨fdo 15, fun s v => .of_eq rfl, fun base _ _ => law_imp (B := fun ns => ns.length ≤ 63) (o_law T D.d_law (levels T D 8) (Nat.le_add_left 2 _)) hp⟩
end K58

set_option Elab.async false
set_option linter.all false
set_option autoImplicit false
set_option maxRecDepth 100000
set_option maxHeartbeats 4000000
namespace K58
open PySem PySem.Spec L2 Mj
def sgn (c : Nat) : Bool := decide (32 ≤ c) && decide (c ≤ 126) && decide (c ≠ 37)
theorem r_sign {Γ : Fns} {c : Nat} {M : Mem} : d__is_sign.fm Gg Γ [chr c] M = .ok (.bl (sgn c)) M := by
  simp only [Fd.fm, Mj.exec, ev, evs, evT, R.bind_ok, R.bind_exc, R.bind_bad, R.opt_some, R.lift_some, R.lift_none, List.length_cons, List.length_nil, if_true, List.map_cons, List.map_nil, List.cons_append, List.nil_append, List.append_nil, List.getElem?_cons_zero, List.getElem?_cons_succ, List.set_cons_zero, List.set_cons_succ, List.replicate_succ, List.replicate_zero, Nat.reduceAdd, Nat.reduceSub, Nat.reduceEqDiff, cmpD, thenF, truthD, Bool.false_eq_true, if_false, Bool.not_true, Bool.not_false, Option.map_some, Option.map_none, eq_chr, int_eq, bin_add, bin_sub, decide_true, decide_false, d__is_sign, c__is_sign, l_sp, l_ti, le_chr, ord_chr, int_eq]
  unfold sgn
  by_cases h1 : 32 ≤ c <;> by_cases h2 : c ≤ 126 <;> simp [h1, h2, Fd.fm, Mj.exec, ev, evs, evT, R.bind_ok, R.bind_exc, R.bind_bad, R.opt_some, R.lift_some, R.lift_none, List.length_cons, List.length_nil, if_true, List.map_cons, List.map_nil, List.cons_append, List.nil_append, List.append_nil, List.getElem?_cons_zero, List.getElem?_cons_succ, List.set_cons_zero, List.set_cons_succ, List.replicate_succ, List.replicate_zero, Nat.reduceAdd, Nat.reduceSub, Nat.reduceEqDiff, cmpD, thenF, truthD, Bool.false_eq_true, if_false, Bool.not_true, Bool.not_false, Option.map_some, Option.map_none, eq_chr, int_eq, bin_add, bin_sub, decide_true, decide_false]
  omega
def pl : List Nat → Nat → Nat ⊕ Nat
  | [], e => .inr e
  | c :: r, e => if c = 32 then .inr e else if c = 34 ∨ c = 92 ∨ sgn c = false then .inl (e + 1) else pl r (e + 1)
def bad (k : Nat) : Exn := ⟨0, [(0, .int k)]⟩
theorem q_pair : ("\"\\" : Str) = tx [34, 92] := by decide +kernel
variable {Γ : Fns} {l : List Nat}
theorem sz {n : Nat} (h : n ≤ 1000) : n ≤ sizeLine := by rw [sizeLine_eq]; omega
theorem plain_test (hz : l.length ≤ 1000) {e : Nat} {c : Nat} {i : D} {M : Mem} (h : l[e]? = some c) : evT Γ Gg lc__plain_end_1 [some (.str (tx l)), some i, some (.int e)] M = .ok (decide (c ≠ 32)) M := by
  have hl := (List.getElem?_eq_some_iff.mp h).1
  have h3' : ((e : Int) < (l.length : Int)) := by omega
  simp only [lc__plain_end_1, Fd.fm, Mj.exec, ev, evs, evT, R.bind_ok, R.bind_exc, R.bind_bad, R.opt_some, R.lift_some, R.lift_none, List.length_cons, List.length_nil, if_true, List.map_cons, List.map_nil, List.cons_append, List.nil_append, List.append_nil, List.getElem?_cons_zero, List.getElem?_cons_succ, List.set_cons_zero, List.set_cons_succ, List.replicate_succ, List.replicate_zero, Nat.reduceAdd, Nat.reduceSub, Nat.reduceEqDiff, cmpD, thenF, truthD, Bool.false_eq_true, if_false, Bool.not_true, Bool.not_false, Option.map_some, Option.map_none, eq_chr, int_eq, bin_add, bin_sub, decide_true, decide_false, len_tx (sz hz), ltD, h3', decide_true, ix_tx (sz hz) h, l_sp, eq_chr]
  simp
theorem plain_test0 (hz : l.length ≤ 1000) {i : D} {M : Mem} : evT Γ Gg lc__plain_end_1 [some (.str (tx l)), some i, some (.int l.length)] M = .ok false M := by
  simp [lc__plain_end_1, Fd.fm, Mj.exec, ev, evs, evT, R.bind_ok, R.bind_exc, R.bind_bad, R.opt_some, R.lift_some, R.lift_none, List.length_cons, List.length_nil, if_true, List.map_cons, List.map_nil, List.cons_append, List.nil_append, List.append_nil, List.getElem?_cons_zero, List.getElem?_cons_succ, List.set_cons_zero, List.set_cons_succ, List.replicate_succ, List.replicate_zero, Nat.reduceAdd, Nat.reduceSub, Nat.reduceEqDiff, cmpD, thenF, truthD, Bool.false_eq_true, if_false, Bool.not_true, Bool.not_false, Option.map_some, Option.map_none, eq_chr, int_eq, bin_add, bin_sub, decide_true, decide_false, len_tx (sz hz), ltD]
theorem plain_body (hz : l.length ≤ 1000) (hΓ : ∀ c M, Γ 0 [chr c] M = .ok (.bl (sgn c)) M) {e : Nat} {c : Nat} {i : D} {M : Mem} (h : l[e]? = some c) :
    Mj.exec Γ Gg lb__plain_end_1 [some (.str (tx l)), some i, some (.int e)] M = if c = 34 ∨ c = 92 ∨ sgn c = false then .exc (bad (e + 1)) M else .ok (.nx [some (.str (tx l)), some i, some (.int ((e + 1 : Nat) : Int))]) M := by
  simp only [Fd.fm, Mj.exec, ev, evs, evT, R.bind_ok, R.bind_exc, R.bind_bad, R.opt_some, R.lift_some, R.lift_none, List.length_cons, List.length_nil, if_true, List.map_cons, List.map_nil, List.cons_append, List.nil_append, List.append_nil, List.getElem?_cons_zero, List.getElem?_cons_succ, List.set_cons_zero, List.set_cons_succ, List.replicate_succ, List.replicate_zero, Nat.reduceAdd, Nat.reduceSub, Nat.reduceEqDiff, cmpD, thenF, truthD, Bool.false_eq_true, if_false, Bool.not_true, Bool.not_false, Option.map_some, Option.map_none, eq_chr, int_eq, bin_add, bin_sub, decide_true, decide_false, lb__plain_end_1, ix_tx (sz hz) h, q_pair, in_tx, hΓ]
  by_cases h34 : c = 34
  · simp [h34, Fd.fm, Mj.exec, ev, evs, evT, R.bind_ok, R.bind_exc, R.bind_bad, R.opt_some, R.lift_some, R.lift_none, List.length_cons, List.length_nil, if_true, List.map_cons, List.map_nil, List.cons_append, List.nil_append, List.append_nil, List.getElem?_cons_zero, List.getElem?_cons_succ, List.set_cons_zero, List.set_cons_succ, List.replicate_succ, List.replicate_zero, Nat.reduceAdd, Nat.reduceSub, Nat.reduceEqDiff, cmpD, thenF, truthD, Bool.false_eq_true, if_false, Bool.not_true, Bool.not_false, Option.map_some, Option.map_none, eq_chr, int_eq, bin_add, bin_sub, decide_true, decide_false, bin_add, bad]
  · by_cases h92 : c = 92
    · simp [h92, Fd.fm, Mj.exec, ev, evs, evT, R.bind_ok, R.bind_exc, R.bind_bad, R.opt_some, R.lift_some, R.lift_none, List.length_cons, List.length_nil, if_true, List.map_cons, List.map_nil, List.cons_append, List.nil_append, List.append_nil, List.getElem?_cons_zero, List.getElem?_cons_succ, List.set_cons_zero, List.set_cons_succ, List.replicate_succ, List.replicate_zero, Nat.reduceAdd, Nat.reduceSub, Nat.reduceEqDiff, cmpD, thenF, truthD, Bool.false_eq_true, if_false, Bool.not_true, Bool.not_false, Option.map_some, Option.map_none, eq_chr, int_eq, bin_add, bin_sub, decide_true, decide_false, bin_add, bad]
    · cases hg : sgn c <;> simp [h34, h92, hg, Fd.fm, Mj.exec, ev, evs, evT, R.bind_ok, R.bind_exc, R.bind_bad, R.opt_some, R.lift_some, R.lift_none, List.length_cons, List.length_nil, if_true, List.map_cons, List.map_nil, List.cons_append, List.nil_append, List.append_nil, List.getElem?_cons_zero, List.getElem?_cons_succ, List.set_cons_zero, List.set_cons_succ, List.replicate_succ, List.replicate_zero, Nat.reduceAdd, Nat.reduceSub, Nat.reduceEqDiff, cmpD, thenF, truthD, Bool.false_eq_true, if_false, Bool.not_true, Bool.not_false, Option.map_some, Option.map_none, eq_chr, int_eq, bin_add, bin_sub, decide_true, decide_false, bin_add, bad, intOp]
theorem plain_loop (hz : l.length ≤ 1000) (hΓ : ∀ c M, Γ 0 [chr c] M = .ok (.bl (sgn c)) M) (i : D) : ∀ (r : List Nat) (e n : Nat) (M : Mem), l.drop e = r → r.length < n → e ≤ l.length →
    whlTurns (evT Γ Gg lc__plain_end_1) (Mj.exec Γ Gg lb__plain_end_1) n [some (.str (tx l)), some i, some (.int e)] M = match pl r e with
      | .inl k => .exc (bad k) M
      | .inr e' => .ok (.nx [some (.str (tx l)), some i, some (.int e')]) M
  | [], e, n + 1, M, h, hn, he => by
    have hl : l.length = e := by
      have := congrArg List.length h
      simp at this; omega
    subst hl
    rw [whl_stop (plain_test0 hz)]; rfl
  | c :: r, e, n + 1, M, h, hn, he => by
    obtain ⟨h1, h2, h3⟩ := drop_get h
    have ht := plain_test (Γ := Γ) (i := i) (M := M) hz h1
    have hb := plain_body (i := i) (M := M) hz hΓ h1
    unfold pl
    by_cases hc : c = 32
    · rw [show decide (c ≠ 32) = false by simp [hc]] at ht
      rw [whl_stop ht, if_pos hc]
    · rw [show decide (c ≠ 32) = true by simp [hc]] at ht
      rw [if_neg hc]
      by_cases hq : c = 34 ∨ c = 92 ∨ sgn c = false
      · rw [if_pos hq] at hb ⊢
        rw [whl_exc ht hb]
      · rw [if_neg hq] at hb ⊢
        rw [whl_go ht hb]
        exact plain_loop hz hΓ i r (e + 1) n M h2 (by simpa using hn) (by omega)
theorem r_plain (hz : l.length ≤ 1000) (hΓ : ∀ c M, Γ 0 [chr c] M = .ok (.bl (sgn c)) M) {i : Nat} {M : Mem} (hi : i ≤ l.length) : d__plain_end.fm Gg Γ [.str (tx l), .int i] M = match pl (l.drop i) i with
      | .inl k => .exc (bad k) M
      | .inr e => if e = i then .exc (bad (i + 1)) M else .ok (.int e) M := by
  have hf : (l.drop i).length < fuel := by unfold fuel; simp; omega
  have := plain_loop hz hΓ (.int i) (l.drop i) i fuel M rfl hf hi
  simp only [d__plain_end, c__plain_end, Fd.fm, List.length_cons, List.length_nil, List.map_cons, List.map_nil, List.cons_append, List.nil_append, List.replicate, Nat.reduceSub, Nat.reduceAdd, if_true, Mj.exec, ev, List.getElem?_cons_succ, List.getElem?_cons_zero, R.bind_ok, List.set_cons_succ, List.set_cons_zero]
  rw [this]
  cases pl (l.drop i) i with
  | inl k => rfl
  | inr e =>
    simp only [Fd.fm, Mj.exec, ev, evs, evT, R.bind_ok, R.bind_exc, R.bind_bad, R.opt_some, R.lift_some, R.lift_none, List.length_cons, List.length_nil, if_true, List.map_cons, List.map_nil, List.cons_append, List.nil_append, List.append_nil, List.getElem?_cons_zero, List.getElem?_cons_succ, List.set_cons_zero, List.set_cons_succ, List.replicate_succ, List.replicate_zero, Nat.reduceAdd, Nat.reduceSub, Nat.reduceEqDiff, cmpD, thenF, truthD, Bool.false_eq_true, if_false, Bool.not_true, Bool.not_false, Option.map_some, Option.map_none, eq_chr, int_eq, bin_add, bin_sub, decide_true, decide_false, int_eq]
    by_cases he : e = i
    · simp [he, Fd.fm, Mj.exec, ev, evs, evT, R.bind_ok, R.bind_exc, R.bind_bad, R.opt_some, R.lift_some, R.lift_none, List.length_cons, List.length_nil, if_true, List.map_cons, List.map_nil, List.cons_append, List.nil_append, List.append_nil, List.getElem?_cons_zero, List.getElem?_cons_succ, List.set_cons_zero, List.set_cons_succ, List.replicate_succ, List.replicate_zero, Nat.reduceAdd, Nat.reduceSub, Nat.reduceEqDiff, cmpD, thenF, truthD, Bool.false_eq_true, if_false, Bool.not_true, Bool.not_false, Option.map_some, Option.map_none, eq_chr, int_eq, bin_add, bin_sub, decide_true, decide_false, bin_add, bad]
    · have : ¬ ((e : Int) = (i : Int)) := by omega
      simp [he, this, Fd.fm, Mj.exec, ev, evs, evT, R.bind_ok, R.bind_exc, R.bind_bad, R.opt_some, R.lift_some, R.lift_none, List.length_cons, List.length_nil, if_true, List.map_cons, List.map_nil, List.cons_append, List.nil_append, List.append_nil, List.getElem?_cons_zero, List.getElem?_cons_succ, List.set_cons_zero, List.set_cons_succ, List.replicate_succ, List.replicate_zero, Nat.reduceAdd, Nat.reduceSub, Nat.reduceEqDiff, cmpD, thenF, truthD, Bool.false_eq_true, if_false, Bool.not_true, Bool.not_false, Option.map_some, Option.map_none, eq_chr, int_eq, bin_add, bin_sub, decide_true, decide_false]
end K58

set_option Elab.async false
set_option linter.all false
set_option autoImplicit false
set_option maxRecDepth 100000
set_option maxHeartbeats 4000000
namespace K58
open PySem PySem.Spec L2 Mj
variable {Γ : Fns} {l : List Nat}
def qu (st : Nat) : List Nat → Nat → List Nat → Nat ⊕ (List Nat × Nat)
  | [], _, _ => .inl (st + 1)
  | c :: r, e, acc => if c = 34 then .inr (acc, e + 1) else if c = 92 then (match r with
      | [] => .inl (e + 1)
      | d :: r' => if d = 34 ∨ d = 92 then qu st r' (e + 2) (acc ++ [d]) else .inl (e + 1))
    else if sgn c = false then .inl (e + 1) else qu st r (e + 1) (acc ++ [c])
theorem l_em : ("" : Str) = tx [] := by decide +kernel
theorem str1 (c : Nat) : D.str (tx [c]) = chr c := rfl
theorem lx {x : Str} {l : List Nat} (h : x = tx l) : D.str x = .str (tx l) := by rw [h]
abbrev qe (l : List Nat) (i : D) (q e : Nat) (s : Option D) : Mj.Env := [some (.str (tx l)), some i, some (.ref q), some (.int e), s]
theorem q_test (hz : l.length ≤ 1000) {e q : Nat} {i : D} {s : Option D} {M : Mem} : evT Γ Gg lc__quoted_1 (qe l i q e s) M = .ok (decide (e < l.length)) M := by
  simp [qe, lc__quoted_1, Fd.fm, Mj.exec, ev, evs, evT, R.bind_ok, R.bind_exc, R.bind_bad, R.opt_some, R.lift_some, R.lift_none, List.length_cons, List.length_nil, if_true, List.map_cons, List.map_nil, List.cons_append, List.nil_append, List.append_nil, List.getElem?_cons_zero, List.getElem?_cons_succ, List.set_cons_zero, List.set_cons_succ, List.replicate_succ, List.replicate_zero, Nat.reduceAdd, Nat.reduceSub, Nat.reduceEqDiff, cmpD, thenF, truthD, Bool.false_eq_true, if_false, Bool.not_true, Bool.not_false, Option.map_some, Option.map_none, eq_chr, int_eq, bin_add, bin_sub, decide_true, decide_false, len_tx (sz hz), ltD]
theorem map_chr (acc : List Nat) : acc.map chr = (acc.map fun c => [c]).map fun p => D.str (tx p) := by simp [List.map_map]; intro a _; rfl
theorem flat1 (acc : List Nat) : (acc.map fun c => [c]).flatten = acc := by induction acc with | nil => rfl | cons a r ih => simp [ih]
theorem sum1 (acc : List Nat) : (acc.map (List.length ∘ fun c => [c])).sum = acc.length := by induction acc with | nil => rfl | cons a r ih => simp [ih]; omega
theorem join1 {M : Mem} {q : Nat} {acc : List Nat} (h : M.get q = some (.lst false (acc.map chr))) (hz : acc.length ≤ 1000) : bmD .join (.str (tx [])) [.ref q] M = some (.str (tx acc), M) := by
  rw [map_chr] at h
  rw [bm_join_tx h (by simp [List.map_map, sum1]; omega), glue_one, flat1]
theorem q_body (hz : l.length ≤ 1000) (hΓ : ∀ c M, Γ 0 [chr c] M = .ok (.bl (sgn c)) M) {e q c : Nat} {i : D} {s : Option D} {M : Mem} {acc : List Nat} (h : l[e]? = some c) (hg : M.get q = some (.lst false (acc.map chr))) (ha : acc.length ≤ 1000) :
    Mj.exec Γ Gg lb__quoted_1 (qe l i q e s) M = (if c = 34 then .ok (.rt (.tup [.str (tx acc), .int ((e + 1 : Nat) : Int)])) M else if c = 92 then (match l[e + 1]? with
      | none => .exc (bad (e + 1)) M
      | some d => if d = 34 ∨ d = 92 then .ok (.nx (qe l i q (e + 2) (some (chr c)))) (M.set q (.lst false ((acc ++ [d]).map chr))) else .exc (bad (e + 1)) M)
      else if sgn c = false then .exc (bad (e + 1)) M else .ok (.nx (qe l i q (e + 1) (some (chr c)))) (M.set q (.lst false ((acc ++ [c]).map chr)))) := by
  have hl := (List.getElem?_eq_some_iff.mp h).1
  have hA : (acc.map chr).length < sizeLine := by rw [List.length_map, sizeLine_eq]; omega
  simp only [qe, lb__quoted_1, Fd.fm, Mj.exec, ev, evs, evT, R.bind_ok, R.bind_exc, R.bind_bad, R.opt_some, R.lift_some, R.lift_none, List.length_cons, List.length_nil, if_true, List.map_cons, List.map_nil, List.cons_append, List.nil_append, List.append_nil, List.getElem?_cons_zero, List.getElem?_cons_succ, List.set_cons_zero, List.set_cons_succ, List.replicate_succ, List.replicate_zero, Nat.reduceAdd, Nat.reduceSub, Nat.reduceEqDiff, cmpD, thenF, truthD, Bool.false_eq_true, if_false, Bool.not_true, Bool.not_false, Option.map_some, Option.map_none, eq_chr, int_eq, bin_add, bin_sub, decide_true, decide_false, ix_tx (sz hz) h, l_qu, l_bs, eq_chr]
  by_cases h34 : c = 34
  · subst h34
    simp [Fd.fm, Mj.exec, ev, evs, evT, R.bind_ok, R.bind_exc, R.bind_bad, R.opt_some, R.lift_some, R.lift_none, List.length_cons, List.length_nil, if_true, List.map_cons, List.map_nil, List.cons_append, List.nil_append, List.append_nil, List.getElem?_cons_zero, List.getElem?_cons_succ, List.set_cons_zero, List.set_cons_succ, List.replicate_succ, List.replicate_zero, Nat.reduceAdd, Nat.reduceSub, Nat.reduceEqDiff, cmpD, thenF, truthD, Bool.false_eq_true, if_false, Bool.not_true, Bool.not_false, Option.map_some, Option.map_none, eq_chr, int_eq, bin_add, bin_sub, decide_true, decide_false, lx l_em, isBt, join1 hg ha, bin_add, sizeLine_eq]
    rw [if_pos (by simp [bmT, isBt])]
    simp [Fd.fm, Mj.exec, ev, evs, evT, R.bind_ok, R.bind_exc, R.bind_bad, R.opt_some, R.lift_some, R.lift_none, List.length_cons, List.length_nil, if_true, List.map_cons, List.map_nil, List.cons_append, List.nil_append, List.append_nil, List.getElem?_cons_zero, List.getElem?_cons_succ, List.set_cons_zero, List.set_cons_succ, List.replicate_succ, List.replicate_zero, Nat.reduceAdd, Nat.reduceSub, Nat.reduceEqDiff, cmpD, thenF, truthD, Bool.false_eq_true, if_false, Bool.not_true, Bool.not_false, Option.map_some, Option.map_none, eq_chr, int_eq, bin_add, bin_sub, decide_true, decide_false, join1 hg ha, bin_add, sizeLine_eq]
  · simp only [h34, decide_false, Fd.fm, Mj.exec, ev, evs, evT, R.bind_ok, R.bind_exc, R.bind_bad, R.opt_some, R.lift_some, R.lift_none, List.length_cons, List.length_nil, if_true, List.map_cons, List.map_nil, List.cons_append, List.nil_append, List.append_nil, List.getElem?_cons_zero, List.getElem?_cons_succ, List.set_cons_zero, List.set_cons_succ, List.replicate_succ, List.replicate_zero, Nat.reduceAdd, Nat.reduceSub, Nat.reduceEqDiff, cmpD, thenF, truthD, Bool.false_eq_true, if_false, Bool.not_true, Bool.not_false, Option.map_some, Option.map_none, eq_chr, int_eq, bin_add, bin_sub, decide_true, decide_false]
    by_cases h92 : c = 92
    · subst h92
      have e1 : ((e : Int) + 1) = ((e + 1 : Nat) : Int) := rfl
      simp only [decide_true, Fd.fm, Mj.exec, ev, evs, evT, R.bind_ok, R.bind_exc, R.bind_bad, R.opt_some, R.lift_some, R.lift_none, List.length_cons, List.length_nil, if_true, List.map_cons, List.map_nil, List.cons_append, List.nil_append, List.append_nil, List.getElem?_cons_zero, List.getElem?_cons_succ, List.set_cons_zero, List.set_cons_succ, List.replicate_succ, List.replicate_zero, Nat.reduceAdd, Nat.reduceSub, Nat.reduceEqDiff, cmpD, thenF, truthD, Bool.false_eq_true, if_false, Bool.not_true, Bool.not_false, Option.map_some, Option.map_none, eq_chr, int_eq, bin_add, bin_sub, decide_true, decide_false, intOp, len_tx (sz hz), int_eq, e1]
      cases hn : l[e + 1]? with
      | none =>
        have : e + 1 = l.length := by have := List.getElem?_eq_none_iff.mp hn; omega
        simp [this, Fd.fm, Mj.exec, ev, evs, evT, R.bind_ok, R.bind_exc, R.bind_bad, R.opt_some, R.lift_some, R.lift_none, List.length_cons, List.length_nil, if_true, List.map_cons, List.map_nil, List.cons_append, List.nil_append, List.append_nil, List.getElem?_cons_zero, List.getElem?_cons_succ, List.set_cons_zero, List.set_cons_succ, List.replicate_succ, List.replicate_zero, Nat.reduceAdd, Nat.reduceSub, Nat.reduceEqDiff, cmpD, thenF, truthD, Bool.false_eq_true, if_false, Bool.not_true, Bool.not_false, Option.map_some, Option.map_none, eq_chr, int_eq, bin_add, bin_sub, decide_true, decide_false, bad]
      | some d =>
        have hl2 := (List.getElem?_eq_some_iff.mp hn).1
        have : ¬ (((e + 1 : Nat) : Int) = (l.length : Int)) := by omega
        simp only [this, decide_false, Fd.fm, Mj.exec, ev, evs, evT, R.bind_ok, R.bind_exc, R.bind_bad, R.opt_some, R.lift_some, R.lift_none, List.length_cons, List.length_nil, if_true, List.map_cons, List.map_nil, List.cons_append, List.nil_append, List.append_nil, List.getElem?_cons_zero, List.getElem?_cons_succ, List.set_cons_zero, List.set_cons_succ, List.replicate_succ, List.replicate_zero, Nat.reduceAdd, Nat.reduceSub, Nat.reduceEqDiff, cmpD, thenF, truthD, Bool.false_eq_true, if_false, Bool.not_true, Bool.not_false, Option.map_some, Option.map_none, eq_chr, int_eq, bin_add, bin_sub, decide_true, decide_false, ix_tx (sz hz) hn, q_pair, in_tx]
        by_cases hd : d = 34 ∨ d = 92
        · have hx : ixD (.str (tx l)) (.int ((e : Int) + 1)) M = some (chr d) := ix_tx (sz hz) hn M
          simp [hd, Fd.fm, Mj.exec, ev, evs, evT, R.bind_ok, R.bind_exc, R.bind_bad, R.opt_some, R.lift_some, R.lift_none, List.length_cons, List.length_nil, if_true, List.map_cons, List.map_nil, List.cons_append, List.nil_append, List.append_nil, List.getElem?_cons_zero, List.getElem?_cons_succ, List.set_cons_zero, List.set_cons_succ, List.replicate_succ, List.replicate_zero, Nat.reduceAdd, Nat.reduceSub, Nat.reduceEqDiff, cmpD, thenF, truthD, Bool.false_eq_true, if_false, Bool.not_true, Bool.not_false, Option.map_some, Option.map_none, eq_chr, int_eq, bin_add, bin_sub, decide_true, decide_false, hx, bmT, isBt_lst hg, app_lst hg hA, intOp]
          rfl
        · simp [hd, Fd.fm, Mj.exec, ev, evs, evT, R.bind_ok, R.bind_exc, R.bind_bad, R.opt_some, R.lift_some, R.lift_none, List.length_cons, List.length_nil, if_true, List.map_cons, List.map_nil, List.cons_append, List.nil_append, List.append_nil, List.getElem?_cons_zero, List.getElem?_cons_succ, List.set_cons_zero, List.set_cons_succ, List.replicate_succ, List.replicate_zero, Nat.reduceAdd, Nat.reduceSub, Nat.reduceEqDiff, cmpD, thenF, truthD, Bool.false_eq_true, if_false, Bool.not_true, Bool.not_false, Option.map_some, Option.map_none, eq_chr, int_eq, bin_add, bin_sub, decide_true, decide_false, bad]
    · cases hs : sgn c with
      | false => simp [h92, hs, Fd.fm, Mj.exec, ev, evs, evT, R.bind_ok, R.bind_exc, R.bind_bad, R.opt_some, R.lift_some, R.lift_none, List.length_cons, List.length_nil, if_true, List.map_cons, List.map_nil, List.cons_append, List.nil_append, List.append_nil, List.getElem?_cons_zero, List.getElem?_cons_succ, List.set_cons_zero, List.set_cons_succ, List.replicate_succ, List.replicate_zero, Nat.reduceAdd, Nat.reduceSub, Nat.reduceEqDiff, cmpD, thenF, truthD, Bool.false_eq_true, if_false, Bool.not_true, Bool.not_false, Option.map_some, Option.map_none, eq_chr, int_eq, bin_add, bin_sub, decide_true, decide_false, hΓ, bin_add, bad]
      | true => simp [h92, hs, Fd.fm, Mj.exec, ev, evs, evT, R.bind_ok, R.bind_exc, R.bind_bad, R.opt_some, R.lift_some, R.lift_none, List.length_cons, List.length_nil, if_true, List.map_cons, List.map_nil, List.cons_append, List.nil_append, List.append_nil, List.getElem?_cons_zero, List.getElem?_cons_succ, List.set_cons_zero, List.set_cons_succ, List.replicate_succ, List.replicate_zero, Nat.reduceAdd, Nat.reduceSub, Nat.reduceEqDiff, cmpD, thenF, truthD, Bool.false_eq_true, if_false, Bool.not_true, Bool.not_false, Option.map_some, Option.map_none, eq_chr, int_eq, bin_add, bin_sub, decide_true, decide_false, hΓ, ix_tx (sz hz) h, bmT, isBt_lst hg, app_lst hg hA, intOp]
/-- what the loop leaves -/
def qRes (r : Nat ⊕ (List Nat × Nat)) (M : Mem) : R Fl := match r with
  | .inl k => .exc (bad k) M
  | .inr (w, e) => .ok (.rt (.tup [.str (tx w), .int e])) M
/-- .. or the loop ends without a word -/
def qLeft (st : Nat) (r : Nat ⊕ (List Nat × Nat)) (x : R Fl) (M : Mem) : Prop := x = qRes r M ∨ (r = .inl (st + 1) ∧ ∃ σ, x = .ok (.nx σ) M ∧ ∃ l i q e s, σ = qe l i q e s)
theorem qu_loop (hz : l.length ≤ 1000) (hΓ : ∀ c M, Γ 0 [chr c] M = .ok (.bl (sgn c)) M) (st : Nat) {M0 : Mem} (q : Nat) (hq : M0.size ≤ q) : ∀ (k : Nat) (r : List Nat) (e n : Nat) (s : Option D) (M : Mem) (acc : List Nat), r.length ≤ k → l.drop e = r → r.length < n → e ≤ l.length → acc.length ≤ e → Ext M0 M → M.get q = some (.lst false (acc.map chr)) →
    ∃ M', Ext M0 M' ∧ ((∃ σ, whlTurns (evT Γ Gg lc__quoted_1) (Mj.exec Γ Gg lb__quoted_1) n (qe l (.int st) q e s) M = .ok (.nx (qe l (.int st) q l.length σ)) M' ∧ qu st r e acc = .inl (st + 1)) ∨ whlTurns (evT Γ Gg lc__quoted_1) (Mj.exec Γ Gg lb__quoted_1) n (qe l (.int st) q e s) M = qRes (qu st r e acc) M') := by
  intro k
  induction k with
  | zero =>
    intro r e n s M acc hk h hn he ha x hg
    have : r = [] := List.length_eq_zero_iff.mp (by omega)
    subst this
    obtain ⟨m, rfl⟩ : ∃ m, n = m + 1 := ⟨n - 1, by simp at hn; omega⟩
    have hl : l.length = e := by have := congrArg List.length h; simp at this; omega
    have ht := q_test (Γ := Γ) (e := e) (q := q) (i := .int st) (s := s) (M := M) hz
    rw [show decide (e < l.length) = false by simp [hl]] at ht
    exact ⟨M, x, .inl ⟨s, by rw [whl_stop ht, hl], rfl⟩⟩
  | succ k ih =>
    intro r e n s M acc hk h hn he ha x hg
    obtain ⟨m, rfl⟩ : ∃ m, n = m + 1 := ⟨n - 1, by omega⟩
    cases r with
    | nil =>
      have hl : l.length = e := by have := congrArg List.length h; simp at this; omega
      have ht := q_test (Γ := Γ) (e := e) (q := q) (i := .int st) (s := s) (M := M) hz
      rw [show decide (e < l.length) = false by simp [hl]] at ht
      exact ⟨M, x, .inl ⟨s, by rw [whl_stop ht, hl], rfl⟩⟩
    | cons c r =>
      obtain ⟨h1, h2, h3⟩ := drop_get h
      have ht := q_test (Γ := Γ) (e := e) (q := q) (i := .int st) (s := s) (M := M) hz
      rw [show decide (e < l.length) = true by simp [h3]] at ht
      have hb := q_body (i := .int st) (s := s) hz hΓ h1 hg (by omega)
      unfold qu
      by_cases h34 : c = 34
      · rw [if_pos h34] at hb
        rw [if_pos h34]
        exact ⟨M, x, .inr (by rw [whl_rt ht hb]; rfl)⟩
      · rw [if_neg h34] at hb
        rw [if_neg h34]
        by_cases h92 : c = 92
        · rw [if_pos h92] at hb
          rw [if_pos h92]
          cases r with
          | nil =>
            have : l[e + 1]? = none := by
              rw [List.getElem?_eq_none_iff]
              have := congrArg List.length h2; simp at this; omega
            rw [this] at hb
            exact ⟨M, x, .inr (by rw [whl_exc ht hb]; rfl)⟩
          | cons d r' =>
            obtain ⟨g1, g2, g3⟩ := drop_get h2
            rw [g1] at hb
            dsimp only at hb ⊢
            by_cases hd : d = 34 ∨ d = 92
            · rw [if_pos hd] at hb ⊢
              rw [whl_go ht hb]
              exact ih r' (e + 2) m _ _ (acc ++ [d]) (by simp at hk; omega) g2 (by simp at hn; omega) (by omega) (by simp; omega) (x.set hq) (get_set hg)
            · rw [if_neg hd] at hb ⊢
              exact ⟨M, x, .inr (by rw [whl_exc ht hb]; rfl)⟩
        · rw [if_neg h92] at hb
          rw [if_neg h92]
          by_cases hs : sgn c = false
          · rw [if_pos hs] at hb ⊢
            exact ⟨M, x, .inr (by rw [whl_exc ht hb]; rfl)⟩
          · rw [if_neg hs] at hb ⊢
            rw [whl_go ht hb]
            exact ih r (e + 1) m _ _ (acc ++ [c]) (by simp at hk; omega) h2 (by simp at hn; omega) (by omega) (by simp; omega) (x.set hq) (get_set hg)
theorem r_quoted (hz : l.length ≤ 1000) (hΓ : ∀ c M, Γ 0 [chr c] M = .ok (.bl (sgn c)) M) {i : Nat} {M : Mem} (hi : i < l.length) : ∃ M', Ext M M' ∧ d__quoted.fm Gg Γ [.str (tx l), .int i] M = match qu i (l.drop (i + 1)) (i + 1) [] with
      | .inl k => .exc (bad k) M'
      | .inr (w, e) => .ok (.tup [.str (tx w), .int e]) M' := by
  have hf : (l.drop (i + 1)).length < fuel := by unfold fuel; simp; omega
  obtain ⟨M', x, h⟩ := qu_loop hz hΓ i (M0 := M) M.size (Nat.le_refl _) (l.drop (i + 1)).length (l.drop (i + 1)) (i + 1) fuel none (M.push (.lst false [])) [] (Nat.le_refl _) rfl hf (by omega) (by simp) Ext.push Mem.get_push_self
  refine ⟨M', x, ?_⟩
  simp only [d__quoted, c__quoted, Fd.fm, List.length_cons, List.length_nil, List.map_cons, List.map_nil, List.cons_append, List.nil_append, List.replicate, Nat.reduceSub, Nat.reduceAdd, if_true, exec_whl, Fd.fm, Mj.exec, ev, evs, evT, R.bind_ok, R.bind_exc, R.bind_bad, R.opt_some, R.lift_some, R.lift_none, List.length_cons, List.length_nil, if_true, List.map_cons, List.map_nil, List.cons_append, List.nil_append, List.append_nil, List.getElem?_cons_zero, List.getElem?_cons_succ, List.set_cons_zero, List.set_cons_succ, List.replicate_succ, List.replicate_zero, Nat.reduceAdd, Nat.reduceSub, Nat.reduceEqDiff, cmpD, thenF, truthD, Bool.false_eq_true, if_false, Bool.not_true, Bool.not_false, Option.map_some, Option.map_none, eq_chr, int_eq, bin_add, bin_sub, decide_true, decide_false, sizeLine_eq, Nat.zero_le]
  have h' : (whlTurns (evT Γ Gg lc__quoted_1) (Mj.exec Γ Gg lb__quoted_1) fuel [some (.str (tx l)), some (.int i), some (.ref M.size), some (.int ((i : Int) + 1)), none] (M.push (.lst false []))) = whlTurns (evT Γ Gg lc__quoted_1) (Mj.exec Γ Gg lb__quoted_1) fuel (qe l (.int i) M.size (i + 1) none) (M.push (.lst false [])) := rfl
  rw [h']
  rcases h with ⟨σ, h1, h2⟩ | h1
  · rw [h1, h2]; simp [qe, Fd.fm, Mj.exec, ev, evs, evT, R.bind_ok, R.bind_exc, R.bind_bad, R.opt_some, R.lift_some, R.lift_none, List.length_cons, List.length_nil, if_true, List.map_cons, List.map_nil, List.cons_append, List.nil_append, List.append_nil, List.getElem?_cons_zero, List.getElem?_cons_succ, List.set_cons_zero, List.set_cons_succ, List.replicate_succ, List.replicate_zero, Nat.reduceAdd, Nat.reduceSub, Nat.reduceEqDiff, cmpD, thenF, truthD, Bool.false_eq_true, if_false, Bool.not_true, Bool.not_false, Option.map_some, Option.map_none, eq_chr, int_eq, bin_add, bin_sub, decide_true, decide_false, bad]
  · rw [h1]
    cases qu i (l.drop (i + 1)) (i + 1) [] with
    | inl k => rfl
    | inr p => rfl
end K58

set_option Elab.async false
set_option linter.all false
set_option autoImplicit false
set_option maxRecDepth 100000
set_option maxHeartbeats 4000000
namespace K58
open PySem PySem.Spec L2 Mj
variable {Γ : Fns} {l : List Nat}
theorem pl_le : ∀ (r : List Nat) (e e' : Nat), pl r e = .inr e' → e ≤ e' ∧ e' ≤ e + r.length
  | [], e, e', h => by simp [pl] at h; subst h; simp
  | c :: r, e, e', h => by
    unfold pl at h
    split at h
    · cases h; simp
    · split at h
      · cases h
      · obtain ⟨h1, h2⟩ := pl_le r (e + 1) e' h
        simp; omega
theorem qu_le (st : Nat) : ∀ (k : Nat) (r : List Nat) (e : Nat) (acc w : List Nat) (e' : Nat), r.length ≤ k → qu st r e acc = .inr (w, e') → e < e' ∧ e' ≤ e + r.length ∧ w.length ≤ acc.length + r.length := by
  intro k
  induction k with
  | zero =>
    intro r e acc w e' hk h
    have : r = [] := List.length_eq_zero_iff.mp (by omega)
    subst this
    simp [qu] at h
  | succ k ih =>
    intro r e acc w e' hk h
    cases r with
    | nil => simp [qu] at h
    | cons c r =>
      unfold qu at h
      split at h
      · cases h; simp
      · split at h
        · cases r with
          | nil => cases h
          | cons d r' =>
            dsimp only at h
            split at h
            · have := ih r' (e + 2) (acc ++ [d]) w e' (by simp at hk; omega) h
              simp at this ⊢; omega
            · cases h
        · split at h
          · cases h
          · have := ih r (e + 1) (acc ++ [c]) w e' (by simp at hk; omega) h
            simp at this ⊢; omega
/-- the word at i -/
def wd (l : List Nat) (i : Nat) : Nat ⊕ (List Nat × Nat) :=
  if l[i]? = some 34 then qu i (l.drop (i + 1)) (i + 1) [] else match pl (l.drop i) i with
    | .inl k => .inl k
    | .inr e => if e = i then .inl (i + 1) else .inr ((l.drop i).take (e - i), e)
theorem wd_le {i e : Nat} {w : List Nat} (hi : i < l.length) (h : wd l i = .inr (w, e)) : i < e ∧ e ≤ l.length ∧ w.length ≤ l.length := by
  unfold wd at h
  split at h
  · have := qu_le i _ _ _ _ _ _ (Nat.le_refl _) h
    simp at this; omega
  · split at h
    · cases h
    · rename_i e' he
      have := pl_le _ _ _ he
      split at h
      · cases h
      · cases h
        simp at this
        refine ⟨by omega, by omega, ?_⟩
        simp; omega
def wD (p : List Nat × Nat) : D := .tup [.str (tx p.1), .int p.2]
/-- behind a word comes a blank and more, or nothing -/
def bdE (l : List Nat) (e : Nat) : Bool := decide (e < l.length) && (decide (l[e]? ≠ some 32) || decide (e + 1 = l.length))
def HQ (Γ : Fns) : Prop := ∀ (l : List Nat) (i : Nat) (M : Mem), l.length ≤ 1000 → i < l.length → ∃ M', Ext M M' ∧ Γ 2 [.str (tx l), .int i] M = match qu i (l.drop (i + 1)) (i + 1) [] with
      | .inl k => .exc (bad k) M'
      | .inr (w, e) => .ok (.tup [.str (tx w), .int e]) M'
def HP (Γ : Fns) : Prop := ∀ (l : List Nat) (i : Nat) (M : Mem), l.length ≤ 1000 → i ≤ l.length → Γ 1 [.str (tx l), .int i] M = match pl (l.drop i) i with
      | .inl k => .exc (bad k) M
      | .inr e => if e = i then .exc (bad (i + 1)) M else .ok (.int e) M
abbrev se (l : List Nat) (q i : Nat) (x y : Option D) : Mj.Env := [some (.str (tx l)), some (.ref q), some (.int i), x, y]
theorem s_test (hz : l.length ≤ 1000) {q i : Nat} {x y : Option D} {M : Mem} : evT Γ Gg lc_split_words_1 (se l q i x y) M = .ok (decide (i < l.length)) M := by
  simp [se, lc_split_words_1, Fd.fm, Mj.exec, ev, evs, evT, R.bind_ok, R.bind_exc, R.bind_bad, R.opt_some, R.lift_some, R.lift_none, List.length_cons, List.length_nil, if_true, List.map_cons, List.map_nil, List.cons_append, List.nil_append, List.append_nil, List.getElem?_cons_zero, List.getElem?_cons_succ, List.set_cons_zero, List.set_cons_succ, List.replicate_succ, List.replicate_zero, Nat.reduceAdd, Nat.reduceSub, Nat.reduceEqDiff, cmpD, thenF, truthD, Bool.false_eq_true, if_false, Bool.not_true, Bool.not_false, Option.map_some, Option.map_none, eq_chr, int_eq, bin_add, bin_sub, decide_true, decide_false, len_tx (sz hz), ltD]
theorem s_body (hz : l.length ≤ 1000) (hQ : HQ Γ) (hP : HP Γ) {q i : Nat} {x y : Option D} {M : Mem} {ws : List (List Nat × Nat)} (hi : i < l.length) (hg : M.get q = some (.lst false (ws.map wD))) (ha : ws.length ≤ 1000) :
    ∃ M1, Ext M M1 ∧ Mj.exec Γ Gg lb_split_words_1 (se l q i x y) M = match wd l i with
      | .inl k => .exc (bad k) M1
      | .inr (w, e) => if bdE l e = true then .exc (bad (e + 1)) (M1.set q (.lst false ((ws ++ [(w, i + 1)]).map wD))) else .ok (.nx (se l q (e + 1) (some (.str (tx w))) (some (.int e)))) (M1.set q (.lst false ((ws ++ [(w, i + 1)]).map wD))) := by
  have hA : (ws.map wD).length < sizeLine := by rw [List.length_map, sizeLine_eq]; omega
  have h2z : (2 : Nat) ≤ sizeLine := by rw [sizeLine_eq]; omega
  obtain ⟨c, hc⟩ : ∃ c, l[i]? = some c := ⟨_, List.getElem?_eq_getElem hi⟩
  -- the end of a turn
  have fin : ∀ (w : List Nat) (e : Nat) (M1 : Mem), e ≤ l.length → M1.get q = some (.lst false (ws.map wD)) →
      Mj.exec Γ Gg (.drop (.bm .append (.v 1) (.cons (.tup (.cons (.v 3) (.cons (.bin .Add (.v 2) (.c (.int 1))) .nil))) .nil))
        (.iff (.and (.cmp .Lt (.v 4) (.bi .len (.cons (.v 0) .nil))) (.or (.cmp .NotEq (.ix (.v 0) (.v 4)) (.c (.str " "))) (.cmp .Eq (.bin .Add (.v 4) (.c (.int 1))) (.bi .len (.cons (.v 0) .nil))))) (.raise 0 0 (.bin .Add (.v 4) (.c (.int 1)))) .nil
        (.asg 2 (.bin .Add (.v 4) (.c (.int 1))) .nil))) (se l q i (some (.str (tx w))) (some (.int e))) M1 =
      if bdE l e = true then .exc (bad (e + 1)) (M1.set q (.lst false ((ws ++ [(w, i + 1)]).map wD))) else .ok (.nx (se l q (e + 1) (some (.str (tx w))) (some (.int e)))) (M1.set q (.lst false ((ws ++ [(w, i + 1)]).map wD))) := by
    intro w e M1 he hg1
    have e1 : ((i : Int) + 1) = ((i + 1 : Nat) : Int) := rfl
    simp only [se, Fd.fm, Mj.exec, ev, evs, evT, R.bind_ok, R.bind_exc, R.bind_bad, R.opt_some, R.lift_some, R.lift_none, List.length_cons, List.length_nil, if_true, List.map_cons, List.map_nil, List.cons_append, List.nil_append, List.append_nil, List.getElem?_cons_zero, List.getElem?_cons_succ, List.set_cons_zero, List.set_cons_succ, List.replicate_succ, List.replicate_zero, Nat.reduceAdd, Nat.reduceSub, Nat.reduceEqDiff, cmpD, thenF, truthD, Bool.false_eq_true, if_false, Bool.not_true, Bool.not_false, Option.map_some, Option.map_none, eq_chr, int_eq, bin_add, bin_sub, decide_true, decide_false, h2z, isBt_lst hg1, bmT, app_lst hg1 hA, e1, len_tx (sz hz), ltD]
    unfold bdE
    by_cases hl : e < l.length
    · obtain ⟨d, hd⟩ : ∃ d, l[e]? = some d := ⟨_, List.getElem?_eq_getElem hl⟩
      have hl' : ((e : Int) < (l.length : Int)) := by omega
      simp only [hl', decide_true, Fd.fm, Mj.exec, ev, evs, evT, R.bind_ok, R.bind_exc, R.bind_bad, R.opt_some, R.lift_some, R.lift_none, List.length_cons, List.length_nil, if_true, List.map_cons, List.map_nil, List.cons_append, List.nil_append, List.append_nil, List.getElem?_cons_zero, List.getElem?_cons_succ, List.set_cons_zero, List.set_cons_succ, List.replicate_succ, List.replicate_zero, Nat.reduceAdd, Nat.reduceSub, Nat.reduceEqDiff, cmpD, thenF, truthD, Bool.false_eq_true, if_false, Bool.not_true, Bool.not_false, Option.map_some, Option.map_none, eq_chr, int_eq, bin_add, bin_sub, decide_true, decide_false, ix_tx (sz hz) hd, l_sp, hd]
      by_cases h32 : d = 32
      · subst h32
        by_cases hE : e + 1 = l.length
        · have hE' : ((e : Int) + 1 = (l.length : Int)) := by omega
          simp [hl, hE, hE', Fd.fm, Mj.exec, ev, evs, evT, R.bind_ok, R.bind_exc, R.bind_bad, R.opt_some, R.lift_some, R.lift_none, List.length_cons, List.length_nil, if_true, List.map_cons, List.map_nil, List.cons_append, List.nil_append, List.append_nil, List.getElem?_cons_zero, List.getElem?_cons_succ, List.set_cons_zero, List.set_cons_succ, List.replicate_succ, List.replicate_zero, Nat.reduceAdd, Nat.reduceSub, Nat.reduceEqDiff, cmpD, thenF, truthD, Bool.false_eq_true, if_false, Bool.not_true, Bool.not_false, Option.map_some, Option.map_none, eq_chr, int_eq, bin_add, bin_sub, decide_true, decide_false, bad, wD]
        · have hE' : ¬ ((e : Int) + 1 = (l.length : Int)) := by omega
          simp [hl, hE, hE', Fd.fm, Mj.exec, ev, evs, evT, R.bind_ok, R.bind_exc, R.bind_bad, R.opt_some, R.lift_some, R.lift_none, List.length_cons, List.length_nil, if_true, List.map_cons, List.map_nil, List.cons_append, List.nil_append, List.append_nil, List.getElem?_cons_zero, List.getElem?_cons_succ, List.set_cons_zero, List.set_cons_succ, List.replicate_succ, List.replicate_zero, Nat.reduceAdd, Nat.reduceSub, Nat.reduceEqDiff, cmpD, thenF, truthD, Bool.false_eq_true, if_false, Bool.not_true, Bool.not_false, Option.map_some, Option.map_none, eq_chr, int_eq, bin_add, bin_sub, decide_true, decide_false, bad, wD]
      · simp [hl, h32, Fd.fm, Mj.exec, ev, evs, evT, R.bind_ok, R.bind_exc, R.bind_bad, R.opt_some, R.lift_some, R.lift_none, List.length_cons, List.length_nil, if_true, List.map_cons, List.map_nil, List.cons_append, List.nil_append, List.append_nil, List.getElem?_cons_zero, List.getElem?_cons_succ, List.set_cons_zero, List.set_cons_succ, List.replicate_succ, List.replicate_zero, Nat.reduceAdd, Nat.reduceSub, Nat.reduceEqDiff, cmpD, thenF, truthD, Bool.false_eq_true, if_false, Bool.not_true, Bool.not_false, Option.map_some, Option.map_none, eq_chr, int_eq, bin_add, bin_sub, decide_true, decide_false, bad, wD]
    · have hl' : ¬ ((e : Int) < (l.length : Int)) := by omega
      simp [hl, hl', Fd.fm, Mj.exec, ev, evs, evT, R.bind_ok, R.bind_exc, R.bind_bad, R.opt_some, R.lift_some, R.lift_none, List.length_cons, List.length_nil, if_true, List.map_cons, List.map_nil, List.cons_append, List.nil_append, List.append_nil, List.getElem?_cons_zero, List.getElem?_cons_succ, List.set_cons_zero, List.set_cons_succ, List.replicate_succ, List.replicate_zero, Nat.reduceAdd, Nat.reduceSub, Nat.reduceEqDiff, cmpD, thenF, truthD, Bool.false_eq_true, if_false, Bool.not_true, Bool.not_false, Option.map_some, Option.map_none, eq_chr, int_eq, bin_add, bin_sub, decide_true, decide_false, wD]
  unfold lb_split_words_1
  by_cases h34 : c = 34
  · subst h34
    obtain ⟨M1, x1, hr⟩ := hQ l i M hz hi
    refine ⟨M1, x1, ?_⟩
    rw [show wd l i = qu i (l.drop (i + 1)) (i + 1) [] from by unfold wd; rw [if_pos hc]]
    cases hq : qu i (l.drop (i + 1)) (i + 1) [] with
    | inl k =>
      rw [hq] at hr
      simp only [se, Fd.fm, Mj.exec, ev, evs, evT, R.bind_ok, R.bind_exc, R.bind_bad, R.opt_some, R.lift_some, R.lift_none, List.length_cons, List.length_nil, if_true, List.map_cons, List.map_nil, List.cons_append, List.nil_append, List.append_nil, List.getElem?_cons_zero, List.getElem?_cons_succ, List.set_cons_zero, List.set_cons_succ, List.replicate_succ, List.replicate_zero, Nat.reduceAdd, Nat.reduceSub, Nat.reduceEqDiff, cmpD, thenF, truthD, Bool.false_eq_true, if_false, Bool.not_true, Bool.not_false, Option.map_some, Option.map_none, eq_chr, int_eq, bin_add, bin_sub, decide_true, decide_false, ix_tx (sz hz) hc, l_qu, hr]
    | inr p =>
      obtain ⟨w, e⟩ := p
      rw [hq] at hr
      have hle := qu_le i _ _ _ _ _ _ (Nat.le_refl _) hq
      have := fin w e M1 (by simp at hle; omega) (x1.get hg)
      dsimp only
      rw [← this]
      simp only [se, Fd.fm, Mj.exec, ev, evs, evT, R.bind_ok, R.bind_exc, R.bind_bad, R.opt_some, R.lift_some, R.lift_none, List.length_cons, List.length_nil, if_true, List.map_cons, List.map_nil, List.cons_append, List.nil_append, List.append_nil, List.getElem?_cons_zero, List.getElem?_cons_succ, List.set_cons_zero, List.set_cons_succ, List.replicate_succ, List.replicate_zero, Nat.reduceAdd, Nat.reduceSub, Nat.reduceEqDiff, cmpD, thenF, truthD, Bool.false_eq_true, if_false, Bool.not_true, Bool.not_false, Option.map_some, Option.map_none, eq_chr, int_eq, bin_add, bin_sub, decide_true, decide_false, ix_tx (sz hz) hc, l_qu, hr, bindT, bindAll]
  · refine ⟨M, Ext.refl, ?_⟩
    have hr := hP l i M hz (Nat.le_of_lt hi)
    have hw : wd l i = match pl (l.drop i) i with
        | .inl k => .inl k
        | .inr e => if e = i then .inl (i + 1) else .inr ((l.drop i).take (e - i), e) := by unfold wd; rw [if_neg (by rw [hc]; simpa using h34)]
    rw [hw]
    cases hq : pl (l.drop i) i with
    | inl k =>
      rw [hq] at hr
      simp only [se, Fd.fm, Mj.exec, ev, evs, evT, R.bind_ok, R.bind_exc, R.bind_bad, R.opt_some, R.lift_some, R.lift_none, List.length_cons, List.length_nil, if_true, List.map_cons, List.map_nil, List.cons_append, List.nil_append, List.append_nil, List.getElem?_cons_zero, List.getElem?_cons_succ, List.set_cons_zero, List.set_cons_succ, List.replicate_succ, List.replicate_zero, Nat.reduceAdd, Nat.reduceSub, Nat.reduceEqDiff, cmpD, thenF, truthD, Bool.false_eq_true, if_false, Bool.not_true, Bool.not_false, Option.map_some, Option.map_none, eq_chr, int_eq, bin_add, bin_sub, decide_true, decide_false, ix_tx (sz hz) hc, l_qu, h34, hr]
    | inr e =>
      rw [hq] at hr
      have hle := pl_le _ _ _ hq
      dsimp only at hr ⊢
      by_cases he : e = i
      · rw [if_pos he] at hr ⊢
        simp only [se, Fd.fm, Mj.exec, ev, evs, evT, R.bind_ok, R.bind_exc, R.bind_bad, R.opt_some, R.lift_some, R.lift_none, List.length_cons, List.length_nil, if_true, List.map_cons, List.map_nil, List.cons_append, List.nil_append, List.append_nil, List.getElem?_cons_zero, List.getElem?_cons_succ, List.set_cons_zero, List.set_cons_succ, List.replicate_succ, List.replicate_zero, Nat.reduceAdd, Nat.reduceSub, Nat.reduceEqDiff, cmpD, thenF, truthD, Bool.false_eq_true, if_false, Bool.not_true, Bool.not_false, Option.map_some, Option.map_none, eq_chr, int_eq, bin_add, bin_sub, decide_true, decide_false, ix_tx (sz hz) hc, l_qu, h34, hr]
      · rw [if_neg he] at hr ⊢
        have hel : e ≤ l.length := by simp at hle; omega
        have := fin ((l.drop i).take (e - i)) e M hel hg
        dsimp only
        rw [← this]
        simp only [se, Fd.fm, Mj.exec, ev, evs, evT, R.bind_ok, R.bind_exc, R.bind_bad, R.opt_some, R.lift_some, R.lift_none, List.length_cons, List.length_nil, if_true, List.map_cons, List.map_nil, List.cons_append, List.nil_append, List.append_nil, List.getElem?_cons_zero, List.getElem?_cons_succ, List.set_cons_zero, List.set_cons_succ, List.replicate_succ, List.replicate_zero, Nat.reduceAdd, Nat.reduceSub, Nat.reduceEqDiff, cmpD, thenF, truthD, Bool.false_eq_true, if_false, Bool.not_true, Bool.not_false, Option.map_some, Option.map_none, eq_chr, int_eq, bin_add, bin_sub, decide_true, decide_false, ix_tx (sz hz) hc, l_qu, h34, hr, partD, sl_tx (sz hz) hle.1 hel]
def sw (l : List Nat) : Nat → Nat → List (List Nat × Nat) → Nat ⊕ List (List Nat × Nat)
  | 0, _, _ => .inl 0
  | n + 1, i, ws => if i < l.length then (match wd l i with
      | .inl k => .inl k
      | .inr (w, e) => if bdE l e = true then .inl (e + 1) else sw l n (e + 1) (ws ++ [(w, i + 1)])) else .inr ws
theorem s_loop (hz : l.length ≤ 900) (hQ : HQ Γ) (hP : HP Γ) {M0 : Mem} {q : Nat} (hq : M0.size ≤ q) : ∀ (n i : Nat) (x y : Option D) (M : Mem) (ws : List (List Nat × Nat)), l.length + 1 < n + i → i ≤ l.length + 1 → ws.length ≤ i → Ext M0 M → M.get q = some (.lst false (ws.map wD)) →
    ∃ M', Ext M0 M' ∧ match sw l n i ws with
      | .inl k => whlTurns (evT Γ Gg lc_split_words_1) (Mj.exec Γ Gg lb_split_words_1) n (se l q i x y) M = .exc (bad k) M'
      | .inr ws' => ∃ i' x' y', whlTurns (evT Γ Gg lc_split_words_1) (Mj.exec Γ Gg lb_split_words_1) n (se l q i x y) M = .ok (.nx (se l q i' x' y')) M' ∧ M'.get q = some (.lst false (ws'.map wD))
  | 0, i, x, y, M, ws, hn, hi, hw, ex, hg => by
    omega
  | n + 1, i, x, y, M, ws, hn, hi, hw, ex, hg => by
    have ht := s_test (Γ := Γ) (l := l) (q := q) (i := i) (x := x) (y := y) (M := M) (by omega)
    unfold sw
    by_cases hl : i < l.length
    · rw [if_pos hl]
      rw [decide_eq_true hl] at ht
      obtain ⟨M1, x1, hb⟩ := s_body (x := x) (y := y) (by omega : l.length ≤ 1000) hQ hP hl hg (by omega)
      cases hwd : wd l i with
      | inl k =>
        rw [hwd] at hb
        exact ⟨M1, ex.trans x1, by dsimp only; rw [whl_exc ht hb]⟩
      | inr p =>
        obtain ⟨w, e⟩ := p
        rw [hwd] at hb
        have hle := wd_le hl hwd
        dsimp only at hb ⊢
        have ex2 : Ext M0 (M1.set q (.lst false ((ws ++ [(w, i + 1)]).map wD))) := (ex.trans x1).set hq
        by_cases hbd : bdE l e = true
        · rw [if_pos hbd] at hb ⊢
          exact ⟨_, ex2, by dsimp only; rw [whl_exc ht hb]⟩
        · rw [if_neg hbd] at hb ⊢
          rw [whl_go ht hb]
          exact s_loop hz hQ hP hq n (e + 1) _ _ _ (ws ++ [(w, i + 1)]) (by omega) (by omega) (by simp; omega) ex2 (get_set (x1.get hg))
    · rw [if_neg hl]
      rw [decide_eq_false hl] at ht
      exact ⟨M, ex, i, x, y, by rw [whl_stop ht], hg⟩
def HS (Γ : Fns) : Prop := ∀ (l : List Nat) (M : Mem), l.length ≤ 900 → ∃ M', Ext M M' ∧ match sw l fuel 0 [] with
      | .inl k => Γ 3 [.str (tx l)] M = .exc (bad k) M'
      | .inr ws => ∃ q, Γ 3 [.str (tx l)] M = .ok (.ref q) M' ∧ M'.get q = some (.lst false (ws.map wD))
theorem r_split (hz : l.length ≤ 900) (hQ : HQ Γ) (hP : HP Γ) (M : Mem) : ∃ M', Ext M M' ∧ match sw l fuel 0 [] with
      | .inl k => d_split_words.fm Gg Γ [.str (tx l)] M = .exc (bad k) M'
      | .inr ws => ∃ q, d_split_words.fm Gg Γ [.str (tx l)] M = .ok (.ref q) M' ∧ M'.get q = some (.lst false (ws.map wD)) := by
  obtain ⟨M', x, h⟩ := s_loop hz hQ hP (M0 := M) (q := M.size) (Nat.le_refl _) fuel 0 none none (M.push (.lst false [])) [] (by unfold fuel; omega) (by omega) (by simp) Ext.push Mem.get_push_self
  refine ⟨M', x, ?_⟩
  have e : d_split_words.fm Gg Γ [.str (tx l)] M = (thenF (whlTurns (evT Γ Gg lc_split_words_1) (Mj.exec Γ Gg lb_split_words_1) fuel (se l M.size 0 none none) (M.push (.lst false []))) fun σ M => Mj.exec Γ Gg (.ret (.v 1)) σ M).bind fun fl M1 => match fl with
    | .nx _ => .ok .non M1
    | .rt v => .ok v M1
    | _ => .bad := by
    simp only [d_split_words, c_split_words, exec_whl, Fd.fm, Mj.exec, ev, evs, evT, R.bind_ok, R.bind_exc, R.bind_bad, R.opt_some, R.lift_some, R.lift_none, List.length_cons, List.length_nil, if_true, List.map_cons, List.map_nil, List.cons_append, List.nil_append, List.append_nil, List.getElem?_cons_zero, List.getElem?_cons_succ, List.set_cons_zero, List.set_cons_succ, List.replicate_succ, List.replicate_zero, Nat.reduceAdd, Nat.reduceSub, Nat.reduceEqDiff, cmpD, thenF, truthD, Bool.false_eq_true, if_false, Bool.not_true, Bool.not_false, Option.map_some, Option.map_none, eq_chr, int_eq, bin_add, bin_sub, decide_true, decide_false, sizeLine_eq, Nat.zero_le]
    rfl
  rw [e]
  cases hs : sw l fuel 0 [] with
  | inl k =>
    rw [hs] at h
    dsimp only at h ⊢
    rw [h]; rfl
  | inr ws =>
    rw [hs] at h
    obtain ⟨i', x', y', h1, h2⟩ := h
    refine ⟨M.size, ?_, h2⟩
    rw [h1]; rfl
end K58

set_option Elab.async false
set_option linter.all false
set_option autoImplicit false
set_option maxRecDepth 100000
set_option maxHeartbeats 4000000
namespace K58
open PySem PySem.Spec L2 Mj
variable {Γ : Fns} {l : List Nat}
theorem r_good {Γ : Fns} {c : Nat} {M : Mem} : d__law_good.fm Gg Γ [chr c] M = .ok (.bl (sgn c)) M := by
  simp only [Fd.fm, Mj.exec, ev, evs, evT, R.bind_ok, R.bind_exc, R.bind_bad, R.opt_some, R.lift_some, R.lift_none, List.length_cons, List.length_nil, if_true, List.map_cons, List.map_nil, List.cons_append, List.nil_append, List.append_nil, List.getElem?_cons_zero, List.getElem?_cons_succ, List.set_cons_zero, List.set_cons_succ, List.replicate_succ, List.replicate_zero, Nat.reduceAdd, Nat.reduceSub, Nat.reduceEqDiff, cmpD, thenF, truthD, Bool.false_eq_true, if_false, Bool.not_true, Bool.not_false, Option.map_some, Option.map_none, eq_chr, int_eq, bin_add, bin_sub, decide_true, decide_false, d__law_good, c__law_good, l_sp, l_ti, le_chr, ord_chr, int_eq]
  unfold sgn
  by_cases h1 : 32 ≤ c <;> by_cases h2 : c ≤ 126 <;> simp [h1, h2, Fd.fm, Mj.exec, ev, evs, evT, R.bind_ok, R.bind_exc, R.bind_bad, R.opt_some, R.lift_some, R.lift_none, List.length_cons, List.length_nil, if_true, List.map_cons, List.map_nil, List.cons_append, List.nil_append, List.append_nil, List.getElem?_cons_zero, List.getElem?_cons_succ, List.set_cons_zero, List.set_cons_succ, List.replicate_succ, List.replicate_zero, Nat.reduceAdd, Nat.reduceSub, Nat.reduceEqDiff, cmpD, thenF, truthD, Bool.false_eq_true, if_false, Bool.not_true, Bool.not_false, Option.map_some, Option.map_none, eq_chr, int_eq, bin_add, bin_sub, decide_true, decide_false]
  omega
def HG (Γ : Fns) : Prop := ∀ c M, Γ 7 [chr c] M = .ok (.bl (sgn c)) M
theorem in_two (c : Nat) (M : Mem) : inD (chr c) (.tup [chr 34, chr 92]) M = some (decide (c = 34 ∨ c = 92)) := by
  simp [inD, chr, D.plain, D.plains, D.depth, D.depths]
abbrev re (l : List Nat) (q e : Nat) (st sg cl : Option D) : Mj.Env := [some (.str (tx l)), some (.ref q), some (.int e), st, sg, cl]
theorem rq_test (hz : l.length ≤ 1000) {e q : Nat} {st sg : Option D} {b : Bool} {M : Mem} : evT Γ Gg lc__law_read_2 (re l q e st sg (some (.bl b))) M = .ok (decide (e < l.length) && !b) M := by
  have : (((e : Int) < (l.length : Int)) ↔ e < l.length) := by omega
  by_cases h : e < l.length <;> cases b <;> simp [re, lc__law_read_2, Fd.fm, Mj.exec, ev, evs, evT, R.bind_ok, R.bind_exc, R.bind_bad, R.opt_some, R.lift_some, R.lift_none, List.length_cons, List.length_nil, if_true, List.map_cons, List.map_nil, List.cons_append, List.nil_append, List.append_nil, List.getElem?_cons_zero, List.getElem?_cons_succ, List.set_cons_zero, List.set_cons_succ, List.replicate_succ, List.replicate_zero, Nat.reduceAdd, Nat.reduceSub, Nat.reduceEqDiff, cmpD, thenF, truthD, Bool.false_eq_true, if_false, Bool.not_true, Bool.not_false, Option.map_some, Option.map_none, eq_chr, int_eq, bin_add, bin_sub, decide_true, decide_false, len_tx (sz hz), ltD, this, h]
theorem rq_body (hz : l.length ≤ 1000) (hG : HG Γ) {e q g c : Nat} {st cl : Option D} {M : Mem} {acc : List Nat} (h : l[e]? = some c) (hg : M.get g = some (.lst false (acc.map chr))) (ha : acc.length ≤ 1000) :
    Mj.exec Γ Gg lb__law_read_2 (re l q e st (some (.ref g)) cl) M = (if c = 34 then .ok (.nx (re l q (e + 1) st (some (.ref g)) (some (.bl true)))) M else if c = 92 then (match l[e + 1]? with
      | none => .ok (.rt (.int ((e + 1 : Nat) : Int))) M
      | some d => if d = 34 ∨ d = 92 then .ok (.nx (re l q (e + 2) st (some (.ref g)) cl)) (M.set g (.lst false ((acc ++ [d]).map chr))) else .ok (.rt (.int ((e + 1 : Nat) : Int))) M)
      else if sgn c = false then .ok (.rt (.int ((e + 1 : Nat) : Int))) M else .ok (.nx (re l q (e + 1) st (some (.ref g)) cl)) (M.set g (.lst false ((acc ++ [c]).map chr)))) := by
  have hl := (List.getElem?_eq_some_iff.mp h).1
  have hA : (acc.map chr).length < sizeLine := by rw [List.length_map, sizeLine_eq]; omega
  have h2z : (2 : Nat) ≤ sizeLine := by rw [sizeLine_eq]; omega
  simp only [re, lb__law_read_2, Fd.fm, Mj.exec, ev, evs, evT, R.bind_ok, R.bind_exc, R.bind_bad, R.opt_some, R.lift_some, R.lift_none, List.length_cons, List.length_nil, if_true, List.map_cons, List.map_nil, List.cons_append, List.nil_append, List.append_nil, List.getElem?_cons_zero, List.getElem?_cons_succ, List.set_cons_zero, List.set_cons_succ, List.replicate_succ, List.replicate_zero, Nat.reduceAdd, Nat.reduceSub, Nat.reduceEqDiff, cmpD, thenF, truthD, Bool.false_eq_true, if_false, Bool.not_true, Bool.not_false, Option.map_some, Option.map_none, eq_chr, int_eq, bin_add, bin_sub, decide_true, decide_false, ix_tx (sz hz) h, l_qu, l_bs]
  by_cases h34 : c = 34
  · subst h34
    simp [Fd.fm, Mj.exec, ev, evs, evT, R.bind_ok, R.bind_exc, R.bind_bad, R.opt_some, R.lift_some, R.lift_none, List.length_cons, List.length_nil, if_true, List.map_cons, List.map_nil, List.cons_append, List.nil_append, List.append_nil, List.getElem?_cons_zero, List.getElem?_cons_succ, List.set_cons_zero, List.set_cons_succ, List.replicate_succ, List.replicate_zero, Nat.reduceAdd, Nat.reduceSub, Nat.reduceEqDiff, cmpD, thenF, truthD, Bool.false_eq_true, if_false, Bool.not_true, Bool.not_false, Option.map_some, Option.map_none, eq_chr, int_eq, bin_add, bin_sub, decide_true, decide_false, intOp]
  · simp only [h34, Fd.fm, Mj.exec, ev, evs, evT, R.bind_ok, R.bind_exc, R.bind_bad, R.opt_some, R.lift_some, R.lift_none, List.length_cons, List.length_nil, if_true, List.map_cons, List.map_nil, List.cons_append, List.nil_append, List.append_nil, List.getElem?_cons_zero, List.getElem?_cons_succ, List.set_cons_zero, List.set_cons_succ, List.replicate_succ, List.replicate_zero, Nat.reduceAdd, Nat.reduceSub, Nat.reduceEqDiff, cmpD, thenF, truthD, Bool.false_eq_true, if_false, Bool.not_true, Bool.not_false, Option.map_some, Option.map_none, eq_chr, int_eq, bin_add, bin_sub, decide_true, decide_false]
    by_cases h92 : c = 92
    · subst h92
      have e1 : ((e : Int) + 1) = ((e + 1 : Nat) : Int) := rfl
      simp only [Fd.fm, Mj.exec, ev, evs, evT, R.bind_ok, R.bind_exc, R.bind_bad, R.opt_some, R.lift_some, R.lift_none, List.length_cons, List.length_nil, if_true, List.map_cons, List.map_nil, List.cons_append, List.nil_append, List.append_nil, List.getElem?_cons_zero, List.getElem?_cons_succ, List.set_cons_zero, List.set_cons_succ, List.replicate_succ, List.replicate_zero, Nat.reduceAdd, Nat.reduceSub, Nat.reduceEqDiff, cmpD, thenF, truthD, Bool.false_eq_true, if_false, Bool.not_true, Bool.not_false, Option.map_some, Option.map_none, eq_chr, int_eq, bin_add, bin_sub, decide_true, decide_false, len_tx (sz hz), e1]
      cases hn : l[e + 1]? with
      | none =>
        have : e + 1 = l.length := by have := List.getElem?_eq_none_iff.mp hn; omega
        simp [this, Fd.fm, Mj.exec, ev, evs, evT, R.bind_ok, R.bind_exc, R.bind_bad, R.opt_some, R.lift_some, R.lift_none, List.length_cons, List.length_nil, if_true, List.map_cons, List.map_nil, List.cons_append, List.nil_append, List.append_nil, List.getElem?_cons_zero, List.getElem?_cons_succ, List.set_cons_zero, List.set_cons_succ, List.replicate_succ, List.replicate_zero, Nat.reduceAdd, Nat.reduceSub, Nat.reduceEqDiff, cmpD, thenF, truthD, Bool.false_eq_true, if_false, Bool.not_true, Bool.not_false, Option.map_some, Option.map_none, eq_chr, int_eq, bin_add, bin_sub, decide_true, decide_false]
      | some d =>
        have hl2 := (List.getElem?_eq_some_iff.mp hn).1
        have : ¬ (((e + 1 : Nat) : Int) = (l.length : Int)) := by omega
        simp only [this, Fd.fm, Mj.exec, ev, evs, evT, R.bind_ok, R.bind_exc, R.bind_bad, R.opt_some, R.lift_some, R.lift_none, List.length_cons, List.length_nil, if_true, List.map_cons, List.map_nil, List.cons_append, List.nil_append, List.append_nil, List.getElem?_cons_zero, List.getElem?_cons_succ, List.set_cons_zero, List.set_cons_succ, List.replicate_succ, List.replicate_zero, Nat.reduceAdd, Nat.reduceSub, Nat.reduceEqDiff, cmpD, thenF, truthD, Bool.false_eq_true, if_false, Bool.not_true, Bool.not_false, Option.map_some, Option.map_none, eq_chr, int_eq, bin_add, bin_sub, decide_true, decide_false, ix_tx (sz hz) hn, h2z, in_two]
        by_cases hd : d = 34 ∨ d = 92
        · have hx : ixD (.str (tx l)) (.int ((e : Int) + 1)) M = some (chr d) := ix_tx (sz hz) hn M
          simp [hd, Fd.fm, Mj.exec, ev, evs, evT, R.bind_ok, R.bind_exc, R.bind_bad, R.opt_some, R.lift_some, R.lift_none, List.length_cons, List.length_nil, if_true, List.map_cons, List.map_nil, List.cons_append, List.nil_append, List.append_nil, List.getElem?_cons_zero, List.getElem?_cons_succ, List.set_cons_zero, List.set_cons_succ, List.replicate_succ, List.replicate_zero, Nat.reduceAdd, Nat.reduceSub, Nat.reduceEqDiff, cmpD, thenF, truthD, Bool.false_eq_true, if_false, Bool.not_true, Bool.not_false, Option.map_some, Option.map_none, eq_chr, int_eq, bin_add, bin_sub, decide_true, decide_false, hx, bmT, isBt_lst hg, app_lst hg hA, intOp]
          rfl
        · simp [hd, Fd.fm, Mj.exec, ev, evs, evT, R.bind_ok, R.bind_exc, R.bind_bad, R.opt_some, R.lift_some, R.lift_none, List.length_cons, List.length_nil, if_true, List.map_cons, List.map_nil, List.cons_append, List.nil_append, List.append_nil, List.getElem?_cons_zero, List.getElem?_cons_succ, List.set_cons_zero, List.set_cons_succ, List.replicate_succ, List.replicate_zero, Nat.reduceAdd, Nat.reduceSub, Nat.reduceEqDiff, cmpD, thenF, truthD, Bool.false_eq_true, if_false, Bool.not_true, Bool.not_false, Option.map_some, Option.map_none, eq_chr, int_eq, bin_add, bin_sub, decide_true, decide_false]
    · cases hs : sgn c with
      | false => simp [h92, hs, Fd.fm, Mj.exec, ev, evs, evT, R.bind_ok, R.bind_exc, R.bind_bad, R.opt_some, R.lift_some, R.lift_none, List.length_cons, List.length_nil, if_true, List.map_cons, List.map_nil, List.cons_append, List.nil_append, List.append_nil, List.getElem?_cons_zero, List.getElem?_cons_succ, List.set_cons_zero, List.set_cons_succ, List.replicate_succ, List.replicate_zero, Nat.reduceAdd, Nat.reduceSub, Nat.reduceEqDiff, cmpD, thenF, truthD, Bool.false_eq_true, if_false, Bool.not_true, Bool.not_false, Option.map_some, Option.map_none, eq_chr, int_eq, bin_add, bin_sub, decide_true, decide_false, hG c M]
      | true => simp [h92, hs, Fd.fm, Mj.exec, ev, evs, evT, R.bind_ok, R.bind_exc, R.bind_bad, R.opt_some, R.lift_some, R.lift_none, List.length_cons, List.length_nil, if_true, List.map_cons, List.map_nil, List.cons_append, List.nil_append, List.append_nil, List.getElem?_cons_zero, List.getElem?_cons_succ, List.set_cons_zero, List.set_cons_succ, List.replicate_succ, List.replicate_zero, Nat.reduceAdd, Nat.reduceSub, Nat.reduceEqDiff, cmpD, thenF, truthD, Bool.false_eq_true, if_false, Bool.not_true, Bool.not_false, Option.map_some, Option.map_none, eq_chr, int_eq, bin_add, bin_sub, decide_true, decide_false, hG c M, ix_tx (sz hz) h, bmT, isBt_lst hg, app_lst hg hA, intOp]
theorem rq_loop (hz : l.length ≤ 1000) (hG : HG Γ) (st : Nat) {M0 : Mem} (q g : Nat) (hq : M0.size ≤ g) : ∀ (k : Nat) (r : List Nat) (e n : Nat) (M : Mem) (acc : List Nat), r.length ≤ k → l.drop e = r → r.length + 1 < n → e ≤ l.length → acc.length ≤ e → Ext M0 M → M.get g = some (.lst false (acc.map chr)) →
    ∃ M', Ext M0 M' ∧ match qu st r e acc with
      | .inr (w, e') => whlTurns (evT Γ Gg lc__law_read_2) (Mj.exec Γ Gg lb__law_read_2) n (re l q e (some (.int st)) (some (.ref g)) (some (.bl false))) M = .ok (.nx (re l q e' (some (.int st)) (some (.ref g)) (some (.bl true)))) M' ∧ M'.get g = some (.lst false (w.map chr))
      | .inl k => whlTurns (evT Γ Gg lc__law_read_2) (Mj.exec Γ Gg lb__law_read_2) n (re l q e (some (.int st)) (some (.ref g)) (some (.bl false))) M = .ok (.rt (.int k)) M' ∨
          (k = st + 1 ∧ whlTurns (evT Γ Gg lc__law_read_2) (Mj.exec Γ Gg lb__law_read_2) n (re l q e (some (.int st)) (some (.ref g)) (some (.bl false))) M = .ok (.nx (re l q l.length (some (.int st)) (some (.ref g)) (some (.bl false)))) M') := by
  intro k
  induction k with
  | zero =>
    intro r e n M acc hk h hn he ha x hg
    have : r = [] := List.length_eq_zero_iff.mp (by omega)
    subst this
    obtain ⟨m, rfl⟩ : ∃ m, n = m + 1 := ⟨n - 1, by simp at hn; omega⟩
    have hl : l.length = e := by have := congrArg List.length h; simp at this; omega
    have ht := rq_test (Γ := Γ) (e := e) (q := q) (st := some (.int st)) (sg := some (.ref g)) (b := false) (M := M) hz
    rw [show (decide (e < l.length) && !false) = false by simp [hl]] at ht
    exact ⟨M, x, by simp only [qu]; exact .inr ⟨by first | rfl | trivial, by rw [whl_stop ht, hl]⟩⟩
  | succ k ih =>
    intro r e n M acc hk h hn he ha x hg
    obtain ⟨m, rfl⟩ : ∃ m, n = m + 1 := ⟨n - 1, by omega⟩
    cases r with
    | nil =>
      have hl : l.length = e := by have := congrArg List.length h; simp at this; omega
      have ht := rq_test (Γ := Γ) (e := e) (q := q) (st := some (.int st)) (sg := some (.ref g)) (b := false) (M := M) hz
      rw [show (decide (e < l.length) && !false) = false by simp [hl]] at ht
      exact ⟨M, x, by simp only [qu]; exact .inr ⟨by first | rfl | trivial, by rw [whl_stop ht, hl]⟩⟩
    | cons c r =>
      obtain ⟨h1, h2, h3⟩ := drop_get h
      have ht := rq_test (Γ := Γ) (e := e) (q := q) (st := some (.int st)) (sg := some (.ref g)) (b := false) (M := M) hz
      rw [show (decide (e < l.length) && !false) = true by simp [h3]] at ht
      have hb := rq_body (q := q) (st := some (.int st)) (cl := some (.bl false)) hz hG h1 hg (by omega)
      unfold qu
      by_cases h34 : c = 34
      · rw [if_pos h34] at hb
        rw [if_pos h34]
        obtain ⟨m', rfl⟩ : ∃ m', m = m' + 1 := ⟨m - 1, by simp at hn; omega⟩
        have ht2 := rq_test (Γ := Γ) (e := e + 1) (q := q) (st := some (.int st)) (sg := some (.ref g)) (b := true) (M := M) hz
        rw [show (decide (e + 1 < l.length) && !true) = false by simp] at ht2
        exact ⟨M, x, by dsimp only; rw [whl_go ht hb, whl_stop ht2]; exact ⟨rfl, hg⟩⟩
      · rw [if_neg h34] at hb
        rw [if_neg h34]
        by_cases h92 : c = 92
        · rw [if_pos h92] at hb
          rw [if_pos h92]
          cases r with
          | nil =>
            have : l[e + 1]? = none := by
              rw [List.getElem?_eq_none_iff]
              have := congrArg List.length h2; simp at this; omega
            rw [this] at hb
            exact ⟨M, x, .inl (by rw [whl_rt ht hb])⟩
          | cons d r' =>
            obtain ⟨g1, g2, g3⟩ := drop_get h2
            rw [g1] at hb
            dsimp only at hb ⊢
            by_cases hd : d = 34 ∨ d = 92
            · rw [if_pos hd] at hb ⊢
              rw [whl_go ht hb]
              exact ih r' (e + 2) m _ (acc ++ [d]) (by simp at hk; omega) g2 (by simp at hn; omega) (by omega) (by simp; omega) (x.set hq) (get_set hg)
            · rw [if_neg hd] at hb ⊢
              exact ⟨M, x, .inl (by rw [whl_rt ht hb])⟩
        · rw [if_neg h92] at hb
          rw [if_neg h92]
          by_cases hs : sgn c = false
          · rw [if_pos hs] at hb ⊢
            exact ⟨M, x, .inl (by rw [whl_rt ht hb])⟩
          · rw [if_neg hs] at hb ⊢
            rw [whl_go ht hb]
            exact ih r (e + 1) m _ (acc ++ [c]) (by simp at hk; omega) h2 (by simp at hn; omega) (by omega) (by simp; omega) (x.set hq) (get_set hg)
/-! plain words -/
theorem rp_test (hz : l.length ≤ 1000) {e q c : Nat} {st sg cl : Option D} {M : Mem} (h : l[e]? = some c) : evT Γ Gg lc__law_read_3 (re l q e st sg cl) M = .ok (decide (c ≠ 32)) M := by
  have hl := (List.getElem?_eq_some_iff.mp h).1
  have h3' : ((e : Int) < (l.length : Int)) := by omega
  simp only [re, lc__law_read_3, Fd.fm, Mj.exec, ev, evs, evT, R.bind_ok, R.bind_exc, R.bind_bad, R.opt_some, R.lift_some, R.lift_none, List.length_cons, List.length_nil, if_true, List.map_cons, List.map_nil, List.cons_append, List.nil_append, List.append_nil, List.getElem?_cons_zero, List.getElem?_cons_succ, List.set_cons_zero, List.set_cons_succ, List.replicate_succ, List.replicate_zero, Nat.reduceAdd, Nat.reduceSub, Nat.reduceEqDiff, cmpD, thenF, truthD, Bool.false_eq_true, if_false, Bool.not_true, Bool.not_false, Option.map_some, Option.map_none, eq_chr, int_eq, bin_add, bin_sub, decide_true, decide_false, len_tx (sz hz), ltD, h3', ix_tx (sz hz) h, l_sp]
  simp
theorem rp_test0 (hz : l.length ≤ 1000) {q : Nat} {st sg cl : Option D} {M : Mem} : evT Γ Gg lc__law_read_3 (re l q l.length st sg cl) M = .ok false M := by
  simp [re, lc__law_read_3, Fd.fm, Mj.exec, ev, evs, evT, R.bind_ok, R.bind_exc, R.bind_bad, R.opt_some, R.lift_some, R.lift_none, List.length_cons, List.length_nil, if_true, List.map_cons, List.map_nil, List.cons_append, List.nil_append, List.append_nil, List.getElem?_cons_zero, List.getElem?_cons_succ, List.set_cons_zero, List.set_cons_succ, List.replicate_succ, List.replicate_zero, Nat.reduceAdd, Nat.reduceSub, Nat.reduceEqDiff, cmpD, thenF, truthD, Bool.false_eq_true, if_false, Bool.not_true, Bool.not_false, Option.map_some, Option.map_none, eq_chr, int_eq, bin_add, bin_sub, decide_true, decide_false, len_tx (sz hz), ltD]
theorem rp_body (hz : l.length ≤ 1000) (hG : HG Γ) {e q g c : Nat} {st cl : Option D} {M : Mem} {acc : List Nat} (h : l[e]? = some c) (hg : M.get g = some (.lst false (acc.map chr))) (ha : acc.length ≤ 1000) :
    Mj.exec Γ Gg lb__law_read_3 (re l q e st (some (.ref g)) cl) M = if c = 34 ∨ c = 92 ∨ sgn c = false then .ok (.rt (.int ((e + 1 : Nat) : Int))) M else .ok (.nx (re l q (e + 1) st (some (.ref g)) cl)) (M.set g (.lst false ((acc ++ [c]).map chr))) := by
  have hA : (acc.map chr).length < sizeLine := by rw [List.length_map, sizeLine_eq]; omega
  have h2z : (2 : Nat) ≤ sizeLine := by rw [sizeLine_eq]; omega
  simp only [re, Fd.fm, Mj.exec, ev, evs, evT, R.bind_ok, R.bind_exc, R.bind_bad, R.opt_some, R.lift_some, R.lift_none, List.length_cons, List.length_nil, if_true, List.map_cons, List.map_nil, List.cons_append, List.nil_append, List.append_nil, List.getElem?_cons_zero, List.getElem?_cons_succ, List.set_cons_zero, List.set_cons_succ, List.replicate_succ, List.replicate_zero, Nat.reduceAdd, Nat.reduceSub, Nat.reduceEqDiff, cmpD, thenF, truthD, Bool.false_eq_true, if_false, Bool.not_true, Bool.not_false, Option.map_some, Option.map_none, eq_chr, int_eq, bin_add, bin_sub, decide_true, decide_false, lb__law_read_3, ix_tx (sz hz) h, l_qu, l_bs, h2z, in_two, hG c M]
  by_cases h34 : c = 34
  · simp [h34, Fd.fm, Mj.exec, ev, evs, evT, R.bind_ok, R.bind_exc, R.bind_bad, R.opt_some, R.lift_some, R.lift_none, List.length_cons, List.length_nil, if_true, List.map_cons, List.map_nil, List.cons_append, List.nil_append, List.append_nil, List.getElem?_cons_zero, List.getElem?_cons_succ, List.set_cons_zero, List.set_cons_succ, List.replicate_succ, List.replicate_zero, Nat.reduceAdd, Nat.reduceSub, Nat.reduceEqDiff, cmpD, thenF, truthD, Bool.false_eq_true, if_false, Bool.not_true, Bool.not_false, Option.map_some, Option.map_none, eq_chr, int_eq, bin_add, bin_sub, decide_true, decide_false]
  · by_cases h92 : c = 92
    · simp [h92, Fd.fm, Mj.exec, ev, evs, evT, R.bind_ok, R.bind_exc, R.bind_bad, R.opt_some, R.lift_some, R.lift_none, List.length_cons, List.length_nil, if_true, List.map_cons, List.map_nil, List.cons_append, List.nil_append, List.append_nil, List.getElem?_cons_zero, List.getElem?_cons_succ, List.set_cons_zero, List.set_cons_succ, List.replicate_succ, List.replicate_zero, Nat.reduceAdd, Nat.reduceSub, Nat.reduceEqDiff, cmpD, thenF, truthD, Bool.false_eq_true, if_false, Bool.not_true, Bool.not_false, Option.map_some, Option.map_none, eq_chr, int_eq, bin_add, bin_sub, decide_true, decide_false]
    · cases hs : sgn c <;> simp [h34, h92, hs, Fd.fm, Mj.exec, ev, evs, evT, R.bind_ok, R.bind_exc, R.bind_bad, R.opt_some, R.lift_some, R.lift_none, List.length_cons, List.length_nil, if_true, List.map_cons, List.map_nil, List.cons_append, List.nil_append, List.append_nil, List.getElem?_cons_zero, List.getElem?_cons_succ, List.set_cons_zero, List.set_cons_succ, List.replicate_succ, List.replicate_zero, Nat.reduceAdd, Nat.reduceSub, Nat.reduceEqDiff, cmpD, thenF, truthD, Bool.false_eq_true, if_false, Bool.not_true, Bool.not_false, Option.map_some, Option.map_none, eq_chr, int_eq, bin_add, bin_sub, decide_true, decide_false, ix_tx (sz hz) h, bmT, isBt_lst hg, app_lst hg hA]
theorem take_more {i e c : Nat} (hi : i ≤ e) (h : l[e]? = some c) : (l.drop i).take (e + 1 - i) = (l.drop i).take (e - i) ++ [c] := by
  have : e + 1 - i = (e - i) + 1 := by omega
  rw [this, List.take_succ]
  congr 1
  rw [List.getElem?_drop, show i + (e - i) = e by omega, h]
  rfl
theorem rp_loop (hz : l.length ≤ 1000) (hG : HG Γ) (i : Nat) {cl : Option D} {M0 : Mem} (q g : Nat) (hq : M0.size ≤ g) : ∀ (r : List Nat) (e n : Nat) (M : Mem), l.drop e = r → r.length < n → e ≤ l.length → i ≤ e → Ext M0 M → M.get g = some (.lst false (((l.drop i).take (e - i)).map chr)) →
    ∃ M', Ext M0 M' ∧ match pl r e with
      | .inl k => whlTurns (evT Γ Gg lc__law_read_3) (Mj.exec Γ Gg lb__law_read_3) n (re l q e (some (.int i)) (some (.ref g)) cl) M = .ok (.rt (.int k)) M'
      | .inr e' => whlTurns (evT Γ Gg lc__law_read_3) (Mj.exec Γ Gg lb__law_read_3) n (re l q e (some (.int i)) (some (.ref g)) cl) M = .ok (.nx (re l q e' (some (.int i)) (some (.ref g)) cl)) M' ∧ M'.get g = some (.lst false (((l.drop i).take (e' - i)).map chr))
  | [], e, n + 1, M, h, hn, he, hi, x, hg => by
    have hl : l.length = e := by have := congrArg List.length h; simp at this; omega
    subst hl
    exact ⟨M, x, by simp only [pl]; rw [whl_stop (rp_test0 hz)]; exact ⟨rfl, hg⟩⟩
  | c :: r, e, n + 1, M, h, hn, he, hi, x, hg => by
    obtain ⟨h1, h2, h3⟩ := drop_get h
    have ht := rp_test (Γ := Γ) (q := q) (st := some (.int i)) (sg := some (.ref g)) (cl := cl) (M := M) hz h1
    have hb := rp_body (q := q) (st := some (.int i)) (cl := cl) (M := M) hz hG h1 hg (by simp; omega)
    unfold pl
    by_cases hc : c = 32
    · rw [show decide (c ≠ 32) = false by simp [hc]] at ht
      rw [if_pos hc]
      exact ⟨M, x, by dsimp only; rw [whl_stop ht]; exact ⟨rfl, hg⟩⟩
    · rw [show decide (c ≠ 32) = true by simp [hc]] at ht
      rw [if_neg hc]
      by_cases hq' : c = 34 ∨ c = 92 ∨ sgn c = false
      · rw [if_pos hq'] at hb ⊢
        exact ⟨M, x, by dsimp only; rw [whl_rt ht hb]⟩
      · rw [if_neg hq'] at hb ⊢
        rw [whl_go ht hb]
        exact rp_loop hz hG i q g hq r (e + 1) n _ h2 (by simpa using hn) (by omega) (by omega) (x.set hq) (by rw [take_more hi h1]; exact get_set hg)
end K58

set_option Elab.async false
set_option linter.all false
set_option autoImplicit false
set_option maxRecDepth 100000
set_option maxHeartbeats 4000000
namespace K58
open PySem PySem.Spec L2 Mj
variable {Γ : Fns} {l : List Nat}
theorem l_test (hz : l.length ≤ 1000) {q i : Nat} {x y z : Option D} {M : Mem} : evT Γ Gg lc__law_read_1 (re l q i x y z) M = .ok (decide (i < l.length)) M := by
  simp [re, lc__law_read_1, Fd.fm, Mj.exec, ev, evs, evT, R.bind_ok, R.bind_exc, R.bind_bad, R.opt_some, R.lift_some, R.lift_none, List.length_cons, List.length_nil, if_true, List.map_cons, List.map_nil, List.cons_append, List.nil_append, List.append_nil, List.getElem?_cons_zero, List.getElem?_cons_succ, List.set_cons_zero, List.set_cons_succ, List.replicate_succ, List.replicate_zero, Nat.reduceAdd, Nat.reduceSub, Nat.reduceEqDiff, cmpD, thenF, truthD, Bool.false_eq_true, if_false, Bool.not_true, Bool.not_false, Option.map_some, Option.map_none, eq_chr, int_eq, bin_add, bin_sub, decide_true, decide_false, len_tx (sz hz), ltD]
theorem l_body (hz : l.length ≤ 1000) (hG : HG Γ) {q i : Nat} {x y z : Option D} {M : Mem} {ws : List (List Nat × Nat)} (hi : i < l.length) (hg : M.get q = some (.lst false (ws.map wD))) (ha : ws.length ≤ 1000) :
    ∃ M1, Ext M M1 ∧ ∃ g cl, Mj.exec Γ Gg lb__law_read_1 (re l q i x y z) M = match wd l i with
      | .inl k => .ok (.rt (.int k)) M1
      | .inr (w, e) => if bdE l e = true then .ok (.rt (.int ((e + 1 : Nat) : Int))) (M1.set q (.lst false ((ws ++ [(w, i + 1)]).map wD))) else .ok (.nx (re l q (e + 1) (some (.int i)) g cl)) (M1.set q (.lst false ((ws ++ [(w, i + 1)]).map wD))) := by
  have hA : (ws.map wD).length < sizeLine := by rw [List.length_map, sizeLine_eq]; omega
  have h2z : (2 : Nat) ≤ sizeLine := by rw [sizeLine_eq]; omega
  obtain ⟨c, hc⟩ : ∃ c, l[i]? = some c := ⟨_, List.getElem?_eq_getElem hi⟩
  have hqM : q < M.size := Mem.lt_of_get hg
  -- the end of a turn
  have fin : ∀ (w : List Nat) (e g : Nat) (cl : Option D) (M1 : Mem), e ≤ l.length → w.length ≤ 1000 → M1.get q = some (.lst false (ws.map wD)) → M1.get g = some (.lst false (w.map chr)) →
      Mj.exec Γ Gg (.drop (.bm .append (.v 1) (.cons (.tup (.cons (.bm .join (.c (.str "")) (.cons (.v 4) .nil)) (.cons (.bin .Add (.v 3) (.c (.int 1))) .nil))) .nil))
        (.iff (.cmp .Lt (.v 2) (.bi .len (.cons (.v 0) .nil))) (.iff (.or (.cmp .NotEq (.ix (.v 0) (.v 2)) (.c (.str " "))) (.cmp .Eq (.bin .Add (.v 2) (.c (.int 1))) (.bi .len (.cons (.v 0) .nil)))) (.ret (.bin .Add (.v 2) (.c (.int 1)))) .nil
        .nil) .nil
        (.asg 2 (.bin .Add (.v 2) (.c (.int 1)))
        .nil))) (re l q e (some (.int i)) (some (.ref g)) cl) M1 =
      if bdE l e = true then .ok (.rt (.int ((e + 1 : Nat) : Int))) (M1.set q (.lst false ((ws ++ [(w, i + 1)]).map wD))) else .ok (.nx (re l q (e + 1) (some (.int i)) (some (.ref g)) cl)) (M1.set q (.lst false ((ws ++ [(w, i + 1)]).map wD))) := by
    intro w e g cl M1 he hw hg1 hg2
    have e1 : ((i : Int) + 1) = ((i + 1 : Nat) : Int) := rfl
    have hj := join1 hg2 hw
    have hb : ∀ M1 : Mem, isBt .str (.str (tx [])) M1 = true := fun _ => rfl
    simp only [re, Fd.fm, Mj.exec, ev, evs, evT, R.bind_ok, R.bind_exc, R.bind_bad, R.opt_some, R.lift_some, R.lift_none, List.length_cons, List.length_nil, if_true, List.map_cons, List.map_nil, List.cons_append, List.nil_append, List.append_nil, List.getElem?_cons_zero, List.getElem?_cons_succ, List.set_cons_zero, List.set_cons_succ, List.replicate_succ, List.replicate_zero, Nat.reduceAdd, Nat.reduceSub, Nat.reduceEqDiff, cmpD, thenF, truthD, Bool.false_eq_true, if_false, Bool.not_true, Bool.not_false, Option.map_some, Option.map_none, eq_chr, int_eq, bin_add, bin_sub, decide_true, decide_false, lx l_em, hb, hj, h2z, isBt_lst hg1, bmT, app_lst hg1 hA, e1, len_tx (sz hz), ltD]
    unfold bdE
    by_cases hl : e < l.length
    · obtain ⟨d, hd⟩ : ∃ d, l[e]? = some d := ⟨_, List.getElem?_eq_getElem hl⟩
      have hl' : ((e : Int) < (l.length : Int)) := by omega
      simp only [hl', Fd.fm, Mj.exec, ev, evs, evT, R.bind_ok, R.bind_exc, R.bind_bad, R.opt_some, R.lift_some, R.lift_none, List.length_cons, List.length_nil, if_true, List.map_cons, List.map_nil, List.cons_append, List.nil_append, List.append_nil, List.getElem?_cons_zero, List.getElem?_cons_succ, List.set_cons_zero, List.set_cons_succ, List.replicate_succ, List.replicate_zero, Nat.reduceAdd, Nat.reduceSub, Nat.reduceEqDiff, cmpD, thenF, truthD, Bool.false_eq_true, if_false, Bool.not_true, Bool.not_false, Option.map_some, Option.map_none, eq_chr, int_eq, bin_add, bin_sub, decide_true, decide_false, ix_tx (sz hz) hd, l_sp, hd]
      by_cases h32 : d = 32
      · subst h32
        by_cases hE : e + 1 = l.length
        · have hE' : ((e : Int) + 1 = (l.length : Int)) := by omega
          simp [hl, hE, hE', Fd.fm, Mj.exec, ev, evs, evT, R.bind_ok, R.bind_exc, R.bind_bad, R.opt_some, R.lift_some, R.lift_none, List.length_cons, List.length_nil, if_true, List.map_cons, List.map_nil, List.cons_append, List.nil_append, List.append_nil, List.getElem?_cons_zero, List.getElem?_cons_succ, List.set_cons_zero, List.set_cons_succ, List.replicate_succ, List.replicate_zero, Nat.reduceAdd, Nat.reduceSub, Nat.reduceEqDiff, cmpD, thenF, truthD, Bool.false_eq_true, if_false, Bool.not_true, Bool.not_false, Option.map_some, Option.map_none, eq_chr, int_eq, bin_add, bin_sub, decide_true, decide_false, wD]
        · have hE' : ¬ ((e : Int) + 1 = (l.length : Int)) := by omega
          simp [hl, hE, hE', Fd.fm, Mj.exec, ev, evs, evT, R.bind_ok, R.bind_exc, R.bind_bad, R.opt_some, R.lift_some, R.lift_none, List.length_cons, List.length_nil, if_true, List.map_cons, List.map_nil, List.cons_append, List.nil_append, List.append_nil, List.getElem?_cons_zero, List.getElem?_cons_succ, List.set_cons_zero, List.set_cons_succ, List.replicate_succ, List.replicate_zero, Nat.reduceAdd, Nat.reduceSub, Nat.reduceEqDiff, cmpD, thenF, truthD, Bool.false_eq_true, if_false, Bool.not_true, Bool.not_false, Option.map_some, Option.map_none, eq_chr, int_eq, bin_add, bin_sub, decide_true, decide_false, wD]
      · simp [hl, h32, Fd.fm, Mj.exec, ev, evs, evT, R.bind_ok, R.bind_exc, R.bind_bad, R.opt_some, R.lift_some, R.lift_none, List.length_cons, List.length_nil, if_true, List.map_cons, List.map_nil, List.cons_append, List.nil_append, List.append_nil, List.getElem?_cons_zero, List.getElem?_cons_succ, List.set_cons_zero, List.set_cons_succ, List.replicate_succ, List.replicate_zero, Nat.reduceAdd, Nat.reduceSub, Nat.reduceEqDiff, cmpD, thenF, truthD, Bool.false_eq_true, if_false, Bool.not_true, Bool.not_false, Option.map_some, Option.map_none, eq_chr, int_eq, bin_add, bin_sub, decide_true, decide_false, wD]
    · have hl' : ¬ ((e : Int) < (l.length : Int)) := by omega
      simp [hl, hl', Fd.fm, Mj.exec, ev, evs, evT, R.bind_ok, R.bind_exc, R.bind_bad, R.opt_some, R.lift_some, R.lift_none, List.length_cons, List.length_nil, if_true, List.map_cons, List.map_nil, List.cons_append, List.nil_append, List.append_nil, List.getElem?_cons_zero, List.getElem?_cons_succ, List.set_cons_zero, List.set_cons_succ, List.replicate_succ, List.replicate_zero, Nat.reduceAdd, Nat.reduceSub, Nat.reduceEqDiff, cmpD, thenF, truthD, Bool.false_eq_true, if_false, Bool.not_true, Bool.not_false, Option.map_some, Option.map_none, eq_chr, int_eq, bin_add, bin_sub, decide_true, decide_false, wD]
  have x0 : Ext M (M.push (.lst false [])) := Ext.push
  have g0 : (M.push (.lst false [])).get M.size = some (.lst false (([] : List Nat).map chr)) := Mem.get_push_self
  by_cases h34 : c = 34
  · subst h34
    rw [show wd l i = qu i (l.drop (i + 1)) (i + 1) [] from by unfold wd; rw [if_pos hc]]
    obtain ⟨M1, x1, h⟩ := rq_loop (Γ := Γ) hz hG i (M0 := M) q M.size (Nat.le_refl _) (l.drop (i + 1)).length (l.drop (i + 1)) (i + 1) fuel (M.push (.lst false [])) [] (Nat.le_refl _) rfl (by unfold fuel; simp; omega) (by omega) (by simp) x0 g0
    refine ⟨M1, x1, some (.ref M.size), some (.bl true), ?_⟩
    have st : Mj.exec Γ Gg lb__law_read_1 (re l q i x y z) M = thenF (thenF (whlTurns (evT Γ Gg lc__law_read_2) (Mj.exec Γ Gg lb__law_read_2) fuel (re l q (i + 1) (some (.int i)) (some (.ref M.size)) (some (.bl false))) (M.push (.lst false []))) (Mj.exec Γ Gg (.iff (.not (.v 5)) (.ret (.bin .Add (.v 3) (.c (.int 1)))) .nil .nil))) (Mj.exec Γ Gg (.drop (.bm .append (.v 1) (.cons (.tup (.cons (.bm .join (.c (.str "")) (.cons (.v 4) .nil)) (.cons (.bin .Add (.v 3) (.c (.int 1))) .nil))) .nil))
        (.iff (.cmp .Lt (.v 2) (.bi .len (.cons (.v 0) .nil))) (.iff (.or (.cmp .NotEq (.ix (.v 0) (.v 2)) (.c (.str " "))) (.cmp .Eq (.bin .Add (.v 2) (.c (.int 1))) (.bi .len (.cons (.v 0) .nil)))) (.ret (.bin .Add (.v 2) (.c (.int 1)))) .nil
        .nil) .nil
        (.asg 2 (.bin .Add (.v 2) (.c (.int 1)))
        .nil)))) := by
      unfold lb__law_read_1
      simp only [re, R.bind_ok, Mj.exec, ev, evs, List.length_nil, Nat.zero_le, if_true, List.getElem?_cons_zero, List.getElem?_cons_succ, List.set_cons_zero, List.set_cons_succ, evT, ix_tx (sz hz) hc, l_qu, cmpD, eq_chr, decide_true, R.opt_some, truthD, bin_add, R.lift_some]
      rfl
    rw [st]
    cases hq : qu i (l.drop (i + 1)) (i + 1) [] with
    | inl k =>
      rw [hq] at h
      rcases h with h | ⟨h1, h⟩
      · rw [h]; rfl
      · rw [h, h1]; simp [re, Fd.fm, Mj.exec, ev, evs, evT, R.bind_ok, R.bind_exc, R.bind_bad, R.opt_some, R.lift_some, R.lift_none, List.length_cons, List.length_nil, if_true, List.map_cons, List.map_nil, List.cons_append, List.nil_append, List.append_nil, List.getElem?_cons_zero, List.getElem?_cons_succ, List.set_cons_zero, List.set_cons_succ, List.replicate_succ, List.replicate_zero, Nat.reduceAdd, Nat.reduceSub, Nat.reduceEqDiff, cmpD, thenF, truthD, Bool.false_eq_true, if_false, Bool.not_true, Bool.not_false, Option.map_some, Option.map_none, eq_chr, int_eq, bin_add, bin_sub, decide_true, decide_false]
    | inr p =>
      obtain ⟨w, e⟩ := p
      rw [hq] at h
      obtain ⟨h1, h2⟩ := h
      have hle := qu_le i _ _ _ _ _ _ (Nat.le_refl _) hq
      have := fin w e M.size (some (.bl true)) M1 (by simp at hle; omega) (by simp at hle; omega) (x1.get hg) h2
      dsimp only
      rw [← this, h1]
      simp only [re, thenF, Fd.fm, Mj.exec, ev, evs, evT, R.bind_ok, R.bind_exc, R.bind_bad, R.opt_some, R.lift_some, R.lift_none, List.length_cons, List.length_nil, if_true, List.map_cons, List.map_nil, List.cons_append, List.nil_append, List.append_nil, List.getElem?_cons_zero, List.getElem?_cons_succ, List.set_cons_zero, List.set_cons_succ, List.replicate_succ, List.replicate_zero, Nat.reduceAdd, Nat.reduceSub, Nat.reduceEqDiff, cmpD, thenF, truthD, Bool.false_eq_true, if_false, Bool.not_true, Bool.not_false, Option.map_some, Option.map_none, eq_chr, int_eq, bin_add, bin_sub, decide_true, decide_false]
  · have hw : wd l i = match pl (l.drop i) i with
        | .inl k => .inl k
        | .inr e => if e = i then .inl (i + 1) else .inr ((l.drop i).take (e - i), e) := by
      unfold wd; rw [if_neg (by rw [hc]; simpa using h34)]
      try (cases pl (l.drop i) i <;> rfl)
    rw [hw]
    obtain ⟨M1, x1, h⟩ := rp_loop (Γ := Γ) hz hG i (cl := some (.bl true)) (M0 := M) q M.size (Nat.le_refl _) (l.drop i) i fuel (M.push (.lst false [])) rfl (by unfold fuel; simp; omega) (by omega) (Nat.le_refl _) x0 (by simpa using g0)
    refine ⟨M1, x1, some (.ref M.size), some (.bl true), ?_⟩
    have st : Mj.exec Γ Gg lb__law_read_1 (re l q i x y z) M = thenF (thenF (whlTurns (evT Γ Gg lc__law_read_3) (Mj.exec Γ Gg lb__law_read_3) fuel (re l q i (some (.int i)) (some (.ref M.size)) (some (.bl true))) (M.push (.lst false []))) (Mj.exec Γ Gg (.iff (.cmp .Eq (.v 2) (.v 3)) (.ret (.bin .Add (.v 2) (.c (.int 1)))) .nil .nil))) (Mj.exec Γ Gg (.drop (.bm .append (.v 1) (.cons (.tup (.cons (.bm .join (.c (.str "")) (.cons (.v 4) .nil)) (.cons (.bin .Add (.v 3) (.c (.int 1))) .nil))) .nil))
        (.iff (.cmp .Lt (.v 2) (.bi .len (.cons (.v 0) .nil))) (.iff (.or (.cmp .NotEq (.ix (.v 0) (.v 2)) (.c (.str " "))) (.cmp .Eq (.bin .Add (.v 2) (.c (.int 1))) (.bi .len (.cons (.v 0) .nil)))) (.ret (.bin .Add (.v 2) (.c (.int 1)))) .nil
        .nil) .nil
        (.asg 2 (.bin .Add (.v 2) (.c (.int 1)))
        .nil)))) := by
      unfold lb__law_read_1
      simp only [re, R.bind_ok, Mj.exec, ev, evs, List.length_nil, Nat.zero_le, if_true, List.getElem?_cons_zero, List.getElem?_cons_succ, List.set_cons_zero, List.set_cons_succ, evT, ix_tx (sz hz) hc, l_qu, cmpD, eq_chr, h34, decide_false, R.opt_some, truthD, Bool.false_eq_true, if_false]
    rw [st]
    cases hq : pl (l.drop i) i with
    | inl k =>
      rw [hq] at h
      dsimp only at h ⊢
      rw [h]; rfl
    | inr e =>
      rw [hq] at h
      obtain ⟨h1, h2⟩ := h
      have hle := pl_le _ _ _ hq
      dsimp only
      rw [h1]
      by_cases he : e = i
      · subst he
        rw [if_pos rfl]
        simp [re, Fd.fm, Mj.exec, ev, evs, evT, R.bind_ok, R.bind_exc, R.bind_bad, R.opt_some, R.lift_some, R.lift_none, List.length_cons, List.length_nil, if_true, List.map_cons, List.map_nil, List.cons_append, List.nil_append, List.append_nil, List.getElem?_cons_zero, List.getElem?_cons_succ, List.set_cons_zero, List.set_cons_succ, List.replicate_succ, List.replicate_zero, Nat.reduceAdd, Nat.reduceSub, Nat.reduceEqDiff, cmpD, thenF, truthD, Bool.false_eq_true, if_false, Bool.not_true, Bool.not_false, Option.map_some, Option.map_none, eq_chr, int_eq, bin_add, bin_sub, decide_true, decide_false, thenF]
      · rw [if_neg he]
        have he' : ¬ ((e : Int) = (i : Int)) := by omega
        have hel : e ≤ l.length := by simp at hle; omega
        have := fin ((l.drop i).take (e - i)) e M.size (some (.bl true)) M1 hel (by simp; omega) (x1.get hg) h2
        dsimp only
        rw [← this]
        simp only [re, thenF, Fd.fm, Mj.exec, ev, evs, evT, R.bind_ok, R.bind_exc, R.bind_bad, R.opt_some, R.lift_some, R.lift_none, List.length_cons, List.length_nil, if_true, List.map_cons, List.map_nil, List.cons_append, List.nil_append, List.append_nil, List.getElem?_cons_zero, List.getElem?_cons_succ, List.set_cons_zero, List.set_cons_succ, List.replicate_succ, List.replicate_zero, Nat.reduceAdd, Nat.reduceSub, Nat.reduceEqDiff, cmpD, thenF, truthD, Bool.false_eq_true, if_false, Bool.not_true, Bool.not_false, Option.map_some, Option.map_none, eq_chr, int_eq, bin_add, bin_sub, decide_true, decide_false, he']
end K58

set_option Elab.async false
set_option linter.all false
set_option autoImplicit false
set_option maxRecDepth 100000
set_option maxHeartbeats 4000000
namespace K58
open PySem PySem.Spec L2 Mj
variable {Γ : Fns} {l : List Nat}
theorem l_loop (hz : l.length ≤ 900) (hG : HG Γ) {M0 : Mem} {q : Nat} (hq : M0.size ≤ q) : ∀ (n i : Nat) (x y z : Option D) (M : Mem) (ws : List (List Nat × Nat)), l.length + 1 < n + i → i ≤ l.length + 1 → ws.length ≤ i → Ext M0 M → M.get q = some (.lst false (ws.map wD)) →
    ∃ M', Ext M0 M' ∧ match sw l n i ws with
      | .inl k => whlTurns (evT Γ Gg lc__law_read_1) (Mj.exec Γ Gg lb__law_read_1) n (re l q i x y z) M = .ok (.rt (.int k)) M'
      | .inr ws' => ∃ i' x' y' z', whlTurns (evT Γ Gg lc__law_read_1) (Mj.exec Γ Gg lb__law_read_1) n (re l q i x y z) M = .ok (.nx (re l q i' x' y' z')) M' ∧ M'.get q = some (.lst false (ws'.map wD))
  | 0, i, x, y, z, M, ws, hn, hi, hw, ex, hg => by omega
  | n + 1, i, x, y, z, M, ws, hn, hi, hw, ex, hg => by
    have ht := l_test (Γ := Γ) (l := l) (q := q) (i := i) (x := x) (y := y) (z := z) (M := M) (by omega)
    unfold sw
    by_cases hl : i < l.length
    · rw [if_pos hl]
      rw [decide_eq_true hl] at ht
      obtain ⟨M1, x1, g, cl, hb⟩ := l_body (x := x) (y := y) (z := z) (by omega : l.length ≤ 1000) hG hl hg (by omega)
      cases hwd : wd l i with
      | inl k =>
        rw [hwd] at hb
        exact ⟨M1, ex.trans x1, by dsimp only; rw [whl_rt ht hb]⟩
      | inr p =>
        obtain ⟨w, e⟩ := p
        rw [hwd] at hb
        have hle := wd_le hl hwd
        dsimp only at hb ⊢
        have ex2 : Ext M0 (M1.set q (.lst false ((ws ++ [(w, i + 1)]).map wD))) := (ex.trans x1).set hq
        by_cases hbd : bdE l e = true
        · rw [if_pos hbd] at hb ⊢
          exact ⟨_, ex2, by dsimp only; rw [whl_rt ht hb]⟩
        · rw [if_neg hbd] at hb ⊢
          rw [whl_go ht hb]
          exact l_loop hz hG hq n (e + 1) _ _ _ _ (ws ++ [(w, i + 1)]) (by omega) (by omega) (by simp; omega) ex2 (get_set (x1.get hg))
    · rw [if_neg hl]
      rw [decide_eq_false hl] at ht
      exact ⟨M, ex, i, x, y, z, by rw [whl_stop ht], hg⟩
/-- what the reader and the told line give -/
def Rd2 (r : R D) (l : List Nat) (M' : Mem) : Prop := match sw l fuel 0 [] with
      | .inl k => r = .ok (.int k) M'
      | .inr ws => ∃ q, r = .ok (.ref q) M' ∧ M'.get q = some (.lst false (ws.map wD))
theorem r_read (hz : l.length ≤ 900) (hG : HG Γ) (M : Mem) : ∃ M', Ext M M' ∧ Rd2 (d__law_read.fm Gg Γ [.str (tx l)] M) l M' := by
  obtain ⟨M', x, h⟩ := l_loop hz hG (M0 := M) (q := M.size) (Nat.le_refl _) fuel 0 none none none (M.push (.lst false [])) [] (by unfold fuel; omega) (by omega) (by simp) Ext.push Mem.get_push_self
  refine ⟨M', x, ?_⟩
  have e : d__law_read.fm Gg Γ [.str (tx l)] M = (thenF (whlTurns (evT Γ Gg lc__law_read_1) (Mj.exec Γ Gg lb__law_read_1) fuel (re l M.size 0 none none none) (M.push (.lst false []))) fun σ M => Mj.exec Γ Gg (.ret (.v 1)) σ M).bind fun fl M1 => match fl with
    | .nx _ => .ok .non M1
    | .rt v => .ok v M1
    | _ => .bad := by
    simp only [d__law_read, c__law_read, exec_whl, Fd.fm, Mj.exec, ev, evs, evT, R.bind_ok, R.bind_exc, R.bind_bad, R.opt_some, R.lift_some, R.lift_none, List.length_cons, List.length_nil, if_true, List.map_cons, List.map_nil, List.cons_append, List.nil_append, List.append_nil, List.getElem?_cons_zero, List.getElem?_cons_succ, List.set_cons_zero, List.set_cons_succ, List.replicate_succ, List.replicate_zero, Nat.reduceAdd, Nat.reduceSub, Nat.reduceEqDiff, cmpD, thenF, truthD, Bool.false_eq_true, if_false, Bool.not_true, Bool.not_false, Option.map_some, Option.map_none, eq_chr, int_eq, bin_add, bin_sub, decide_true, decide_false, sizeLine_eq, Nat.zero_le]
    rfl
  unfold Rd2
  rw [e]
  cases hs : sw l fuel 0 [] with
  | inl k =>
    rw [hs] at h
    dsimp only at h ⊢
    rw [h]; rfl
  | inr ws =>
    rw [hs] at h
    obtain ⟨i', x', y', z', h1, h2⟩ := h
    refine ⟨M.size, ?_, h2⟩
    rw [h1]; rfl
theorem r_told (hz : l.length ≤ 900) (hS : HS Γ) (M : Mem) : ∃ M', Ext M M' ∧ Rd2 (gTold Γ [.str (tx l)] M) l M' := by
  obtain ⟨M', x, h⟩ := hS l M hz
  refine ⟨M', x, ?_⟩
  unfold Rd2 gTold
  cases hs : sw l fuel 0 [] with
  | inl k =>
    rw [hs] at h
    dsimp only at h ⊢
    rw [h]; rfl
  | inr ws =>
    rw [hs] at h
    obtain ⟨q, h1, h2⟩ := h
    exact ⟨q, by dsimp only; rw [h1], h2⟩
/-! ### written words -/
def es1 (c : Nat) : List Nat := if c = 92 then [92, 92] else [c]
def es2 (c : Nat) : List Nat := if c = 34 then [92, 34] else [c]
def esc (w : List Nat) : List Nat := w.flatMap fun c => if c = 92 then [92, 92] else if c = 34 then [92, 34] else [c]
def qt (w : List Nat) : List Nat := 34 :: (esc w ++ [34])
def wr (w : List Nat) : List Nat := if w = [] ∨ 32 ∈ w ∨ 34 ∈ w ∨ 92 ∈ w then qt w else w
theorem repl1 (y : Nat) (z : List Nat) : ∀ w : List Nat, PySem.StrLaws.replL [y] z w = w.flatMap fun c => if c = y then z else [c]
  | [] => PySem.StrLaws.replL_nil
  | c :: r => by
    by_cases h : c = y
    · subst h
      rw [PySem.StrLaws.replL_hit (by simp) (by simp)]
      simp [repl1 c z r]
    · rw [PySem.StrLaws.replL_miss (by simpa using h), repl1 y z r]
      simp [h]
theorem rep_tx (y : Nat) (z w : List Nat) : Txt.replace (tx w) (tx [y]) (tx z) = tx (w.flatMap fun c => if c = y then z else [c]) := by
  rw [tx_eta (Txt.replace (tx w) (tx [y]) (tx z)), PySem.StrLaws.replace_list (by simp [tx, Str.length])]
  simp only [tx_list, repl1]
theorem esc_eq (w : List Nat) : (w.flatMap fun c => if c = 92 then [92, 92] else [c]).flatMap (fun c => if c = 34 then [92, 34] else [c]) = esc w := by
  unfold esc
  rw [List.flatMap_assoc]
  congr 1; funext c
  by_cases h : c = 92
  · subst h; simp
  · by_cases h2 : c = 34 <;> simp [h, h2]
theorem len2 (w : List Nat) (y : Nat) (a b : Nat) : (w.flatMap fun c => if c = y then [a, b] else [c]).length ≤ 2 * w.length := by
  induction w with
  | nil => simp
  | cons c r ih =>
    by_cases h : c = y
    · simp [h, List.flatMap_cons] at ih ⊢; omega
    · simp [h, List.flatMap_cons] at ih ⊢; omega
theorem q1 : ("\"" : Str) = tx [34] := by decide +kernel
theorem q2 : ("\\" : Str) = tx [92] := by decide +kernel
theorem q3 : ("\\\\" : Str) = tx [92, 92] := by decide +kernel
theorem q4 : ("\\\"" : Str) = tx [92, 34] := by decide +kernel
theorem bm_rep {w z : List Nat} {y : Nat} (hw : w.length ≤ 1000) (hz : z.length ≤ 10) (hne : z ≠ [y]) (M : Mem) : bmD .replace (.str (tx w)) [.str (tx [y]), .str (tx z)] M = some (.str (tx (w.flatMap fun c => if c = y then z else [c])), M) := by
  simp only [bmD, rep_tx, tx_len]
  rw [if_pos]
  refine ⟨?_, ?_⟩
  · refine beq_eq_false_iff_ne.mpr fun h => hne ?_
    have := congrArg (fun x : Str => x.cps.toList) h
    simp only [tx_list] at this
    exact this.symm
  · have : (w.length + 1) * z.length ≤ 1001 * 10 := Nat.mul_le_mul (by omega) hz
    omega
theorem isBt_str {x : Str} {M : Mem} : isBt .str (.str x) M = true := rfl
def Eq0 (e : Ex) : Ex := .bin .Add (.bin .Add (.c (.str "\"")) (.bm .replace (.bm .replace e (.cons (.c (.str "\\")) (.cons (.c (.str "\\\\")) .nil))) (.cons (.c (.str "\"")) (.cons (.c (.str "\\\"")) .nil)))) (.c (.str "\""))
theorem ev_q (w : List Nat) (hw : w.length ≤ 100) (M : Mem) {e : Ex} {σ : Mj.Env} (he : ev Γ Gg e σ M = .ok (.str (tx w)) M) :
    ev Γ Gg (Eq0 e) σ M = .ok (.str (tx (qt w))) M := by
  have h1 := len2 w 92 92 92
  have h2 := len2 (w.flatMap fun c => if c = 92 then [92, 92] else [c]) 34 92 34
  rw [esc_eq] at h2
  have b1 := bm_rep (w := w) (z := [92, 92]) (y := 92) (by omega) (by simp) (by simp) M
  have b2 := bm_rep (w := w.flatMap fun c => if c = 92 then [92, 92] else [c]) (z := [92, 34]) (y := 34) (by omega) (by simp) (by simp) M
  rw [esc_eq] at b2
  have a1 := bin_tx (a := [34]) (b := esc w) (by rw [sizeLine_eq]; simp; omega) M
  have a2 := bin_tx (a := 34 :: esc w) (b := [34]) (by rw [sizeLine_eq]; simp; omega) M
  simp only [Eq0, Fd.fm, Mj.exec, ev, evs, evT, R.bind_ok, R.bind_exc, R.bind_bad, R.opt_some, R.lift_some, R.lift_none, List.length_cons, List.length_nil, if_true, List.map_cons, List.map_nil, List.cons_append, List.nil_append, List.append_nil, List.getElem?_cons_zero, List.getElem?_cons_succ, List.set_cons_zero, List.set_cons_succ, List.replicate_succ, List.replicate_zero, Nat.reduceAdd, Nat.reduceSub, Nat.reduceEqDiff, cmpD, thenF, truthD, Bool.false_eq_true, if_false, Bool.not_true, Bool.not_false, Option.map_some, Option.map_none, eq_chr, int_eq, bin_add, bin_sub, decide_true, decide_false, he, q1, q2, q3, q4, bmT, isBt_str, b1, b2, a1, a2]
  rfl
theorem r_quot (w : List Nat) (hw : w.length ≤ 100) (M : Mem) : d__law_quoted.fm Gg Γ [.str (tx w)] M = .ok (.str (tx (qt w))) M := by
  have := ev_q (Γ := Γ) w hw M (e := .v 0) (σ := [some (.str (tx w))]) rfl
  rw [show d__law_quoted = ⟨1, 1, .ret (Eq0 (.v 0))⟩ from rfl]
  unfold Fd.fm
  simp only [List.length_cons, List.length_nil, if_true, List.map_cons, List.map_nil, List.cons_append, List.nil_append, List.replicate, Nat.reduceAdd, Nat.sub_self, Mj.exec]
  rw [this]; rfl
theorem in_one (c : Nat) (w : List Nat) (M : Mem) : inD (.str (tx [c])) (.str (tx w)) M = some (decide (c ∈ w)) := in_tx c w M
theorem q5 : (" " : Str) = tx [32] := by decide +kernel
theorem eq_tx (a b : List Nat) (M : Mem) : eqD (.str (tx a)) (.str (tx b)) M = some (decide (a = b)) := by
  have : (D.str (tx a) = D.str (tx b)) = (a = b) := by
    apply propext
    constructor
    · intro h
      injection h with h
      have := congrArg (fun x : Str => x.cps.toList) h
      simpa only [tx_list] using this
    · rintro rfl; rfl
  simp [eqD, D.plain, D.depth, this]
theorem r_written (w : List Nat) (hw : w.length ≤ 100) (hΓ : ∀ w M, w.length ≤ 100 → Γ 11 [.str (tx w)] M = .ok (.str (tx (qt w))) M) (M : Mem) : d__law_written.fm Gg Γ [.str (tx w)] M = .ok (.str (tx (wr w))) M := by
  have h0 := hΓ w M hw
  simp only [Fd.fm, Mj.exec, ev, evs, evT, R.bind_ok, R.bind_exc, R.bind_bad, R.opt_some, R.lift_some, R.lift_none, List.length_cons, List.length_nil, if_true, List.map_cons, List.map_nil, List.cons_append, List.nil_append, List.append_nil, List.getElem?_cons_zero, List.getElem?_cons_succ, List.set_cons_zero, List.set_cons_succ, List.replicate_succ, List.replicate_zero, Nat.reduceAdd, Nat.reduceSub, Nat.reduceEqDiff, cmpD, thenF, truthD, Bool.false_eq_true, if_false, Bool.not_true, Bool.not_false, Option.map_some, Option.map_none, eq_chr, int_eq, bin_add, bin_sub, decide_true, decide_false, d__law_written, c__law_written, l_em, eq_tx, q1, q2, q5, in_one]
  unfold wr
  by_cases h1 : w = [] <;> by_cases h2 : 32 ∈ w <;> by_cases h3 : 34 ∈ w <;> by_cases h4 : 92 ∈ w <;> simp only [h1, h2, h3, h4, Fd.fm, Mj.exec, ev, evs, evT, R.bind_ok, R.bind_exc, R.bind_bad, R.opt_some, R.lift_some, R.lift_none, List.length_cons, List.length_nil, if_true, List.map_cons, List.map_nil, List.cons_append, List.nil_append, List.append_nil, List.getElem?_cons_zero, List.getElem?_cons_succ, List.set_cons_zero, List.set_cons_succ, List.replicate_succ, List.replicate_zero, Nat.reduceAdd, Nat.reduceSub, Nat.reduceEqDiff, cmpD, thenF, truthD, Bool.false_eq_true, if_false, Bool.not_true, Bool.not_false, Option.map_some, Option.map_none, eq_chr, int_eq, bin_add, bin_sub, decide_true, decide_false, h0, true_or, or_true, or_false, or_self] <;> first | rfl | (subst h1; rw [h0]; rfl)
theorem r_write (w : List Nat) (hw : w.length ≤ 100) (M : Mem) : d_write_word.fm Gg Γ [.str (tx w)] M = .ok (.str (tx (wr w))) M := by
  have hq := ev_q (Γ := Γ) w hw M (e := .v 0) (σ := [some (.str (tx w))]) rfl
  rw [show d_write_word = ⟨1, 1, .iff (.and (.cmp .NotEq (.v 0) (.c (.str ""))) (.and (.cmp .NotIn (.c (.str " ")) (.v 0)) (.and (.cmp .NotIn (.c (.str "\"")) (.v 0)) (.cmp .NotIn (.c (.str "\\")) (.v 0))))) (.ret (.v 0)) .nil (.ret (Eq0 (.v 0)))⟩ from rfl]
  simp only [Fd.fm, Mj.exec, ev, evs, evT, R.bind_ok, R.bind_exc, R.bind_bad, R.opt_some, R.lift_some, R.lift_none, List.length_cons, List.length_nil, if_true, List.map_cons, List.map_nil, List.cons_append, List.nil_append, List.append_nil, List.getElem?_cons_zero, List.getElem?_cons_succ, List.set_cons_zero, List.set_cons_succ, List.replicate_succ, List.replicate_zero, Nat.reduceAdd, Nat.reduceSub, Nat.reduceEqDiff, cmpD, thenF, truthD, Bool.false_eq_true, if_false, Bool.not_true, Bool.not_false, Option.map_some, Option.map_none, eq_chr, int_eq, bin_add, bin_sub, decide_true, decide_false, l_em, eq_tx, q1, q2, q5, in_one]
  unfold wr
  by_cases h1 : w = [] <;> by_cases h2 : 32 ∈ w <;> by_cases h3 : 34 ∈ w <;> by_cases h4 : 92 ∈ w <;> simp only [h1, h2, h3, h4, Fd.fm, Mj.exec, ev, evs, evT, R.bind_ok, R.bind_exc, R.bind_bad, R.opt_some, R.lift_some, R.lift_none, List.length_cons, List.length_nil, if_true, List.map_cons, List.map_nil, List.cons_append, List.nil_append, List.append_nil, List.getElem?_cons_zero, List.getElem?_cons_succ, List.set_cons_zero, List.set_cons_succ, List.replicate_succ, List.replicate_zero, Nat.reduceAdd, Nat.reduceSub, Nat.reduceEqDiff, cmpD, thenF, truthD, Bool.false_eq_true, if_false, Bool.not_true, Bool.not_false, Option.map_some, Option.map_none, eq_chr, int_eq, bin_add, bin_sub, decide_true, decide_false, hq, true_or, or_true, or_false, or_self] <;> first | rfl | (subst h1; rw [hq]; rfl)
end K58

set_option Elab.async false
set_option linter.all false
set_option autoImplicit false
set_option maxRecDepth 100000
set_option maxHeartbeats 4000000
namespace K58
open PySem PySem.Spec L2 Mj
variable {Γ : Fns} {l : List Nat}
theorem p64 : (2 : Int) ^ 64 = 18446744073709551616 := by decide
theorem mul_c {a c : Int} (h0 : 0 ≤ c) (h1 : c < 4294967296) (M : Mem) : binD .Mult (.int a) (.int c) M = some (.int (a * c), M) := by
  simp only [binD, intOp, p64]
  rw [if_pos (by omega)]; rfl
theorem mod_c {a c : Int} (h0 : 0 < c) (M : Mem) : binD .Mod (.int a) (.int c) M = some (.int (a % c), M) := by
  simp only [binD, intOp]
  rw [if_pos h0]; rfl
theorem div_c {a c : Int} (h0 : 0 < c) (h1 : c < 1073741824) (M : Mem) : binD .FloorDiv (.int a) (.int c) M = some (.int (a / c), M) := by
  simp only [binD, intOp]
  rw [if_pos ⟨h0, h1⟩]; rfl
theorem int_c (a : Int) (M : Mem) : biD .int [.int a] M = some (.int a, M) := rfl
def HM (Γ : Fns) : Prop := ∀ a b M, ∃ v : Int, 0 ≤ v ∧ v < 1000 ∧ Γ 5 [.int a, .int b] M = .ok (.int v) M
theorem r_mix (a b : Int) (M : Mem) : ∃ v : Int, 0 ≤ v ∧ v < 1000 ∧ d__law_mix.fm Gg Γ [.int a, .int b] M = .ok (.int v) M := by
  have k1 : (0 : Int) < 2147483647 := by decide
  have l0 : 0 ≤ (a * 48271 + b * 69621 + 11) % 2147483647 := Int.emod_nonneg _ (by decide)
  have l1 : (a * 48271 + b * 69621 + 11) % 2147483647 < 2147483647 := Int.emod_lt_of_pos _ k1
  have m1 := fun x M => mul_c (a := x) (c := 48271) (by decide) (by decide) M
  have m2 := fun x M => mul_c (a := x) (c := 69621) (by decide) (by decide) M
  have m3 := fun x M => mul_c (a := x) (c := 40692) (by decide) (by decide) M
  have m4 := fun x M => mul_c (a := x) (c := 7) (by decide) (by decide) M
  have m5 := fun x M => mul_c (a := x) (c := (a * 48271 + b * 69621 + 11) % 2147483647) l0 (by omega) M
  have n1 := fun x M => mod_c (a := x) (c := 2147483647) (by decide) M
  have n2 := fun x M => mod_c (a := x) (c := 1000003) (by decide) M
  have n3 := fun x M => mod_c (a := x) (c := 1000) (by decide) M
  generalize hlow : (a * 48271 + b * 69621 + 11) % 2147483647 = low at *
  refine ⟨(low * low + a * 40692 + b * 7 + 3) % 1000003 % 1000, Int.emod_nonneg _ (by decide), Int.emod_lt_of_pos _ (by decide), ?_⟩
  simp only [Fd.fm, Mj.exec, ev, evs, evT, R.bind_ok, R.bind_exc, R.bind_bad, R.opt_some, R.lift_some, R.lift_none, List.length_cons, List.length_nil, if_true, List.map_cons, List.map_nil, List.cons_append, List.nil_append, List.append_nil, List.getElem?_cons_zero, List.getElem?_cons_succ, List.set_cons_zero, List.set_cons_succ, List.replicate_succ, List.replicate_zero, Nat.reduceAdd, Nat.reduceSub, Nat.reduceEqDiff, cmpD, thenF, truthD, Bool.false_eq_true, if_false, Bool.not_true, Bool.not_false, Option.map_some, Option.map_none, eq_chr, int_eq, bin_add, bin_sub, decide_true, decide_false, d__law_mix, c__law_mix, m1, m2, m3, m4, m5, n1, n2, n3, int_c, hlow]
/-- a for, by what holds at each turn -/
theorem for_inv {src : Src} {b : D → Mj.Env → Mem → R Fl} {I : List D → Mj.Env → Mem → Prop} (hs : ∀ xs σ M, I xs σ M → src.stands M = true) (step : ∀ x xs σ M, I (x :: xs) σ M → ∃ σ1 M1, (b x σ M = .ok (.nx σ1) M1 ∨ b x σ M = .ok (.ct σ1) M1) ∧ I xs σ1 M1) :
    ∀ xs σ M, I xs σ M → ∃ σ' M', forTurns src b xs σ M = .ok (.nx σ') M' ∧ I [] σ' M'
  | [], σ, M, h => ⟨σ, M, for_nil (hs _ _ _ h), h⟩
  | x :: xs, σ, M, h => by
    obtain ⟨σ1, M1, h1, h2⟩ := step x xs σ M h
    obtain ⟨σ', M', h3, h4⟩ := for_inv hs step xs σ1 M1 h2
    refine ⟨σ', M', ?_, h4⟩
    rcases h1 with h1 | h1
    · rw [for_go (hs _ _ _ h) h1, h3]
    · rw [for_ct (hs _ _ _ h) h1, h3]
theorem mem_range {n : Nat} {x : D} {xs : List D} (h : ∀ y ∈ x :: xs, ∃ j : Nat, j < n ∧ y = .int j) : (∃ j : Nat, j < n ∧ x = .int j) ∧ ∀ y ∈ xs, ∃ j : Nat, j < n ∧ y = .int j := ⟨h x List.mem_cons_self, fun y hy => h y (List.mem_cons_of_mem _ hy)⟩
theorem range_ok (n : Nat) : ∀ y ∈ rangeD 0 n, ∃ j : Nat, j < n ∧ y = .int j := by
  intro y hy
  unfold rangeD at hy
  obtain ⟨j, h1, h2⟩ := List.mem_map.mp hy
  exact ⟨j, List.mem_range.mp h1, by rw [← h2]; simp⟩
/-- small numbers in a list -/
def Row (M : Mem) (q : Nat) (most : Nat) : Prop := ∃ ns : List Int, ns.length ≤ most ∧ (∀ n ∈ ns, 0 ≤ n ∧ n < 1000) ∧ M.get q = some (.lst false (ns.map .int))
theorem Row.app {M : Mem} {q most : Nat} {ns : List Int} {v : Int} (hm : most ≤ 1000) (h1 : ns.length < most) (h2 : ∀ n ∈ ns, 0 ≤ n ∧ n < 1000) (h3 : M.get q = some (.lst false (ns.map .int))) (hv : 0 ≤ v ∧ v < 1000) :
    bmD .append (.ref q) [.int v] M = some (.non, M.set q (.lst false ((ns ++ [v]).map .int))) ∧ Row (M.set q (.lst false ((ns ++ [v]).map .int))) q most := by
  refine ⟨by rw [app_lst h3 (by rw [List.length_map, sizeLine_eq]; omega)]; simp, ns ++ [v], by simp; omega, ?_, get_set h3⟩
  intro n hn
  rcases List.mem_append.mp hn with h | h
  · exact h2 n h
  · simp at h; subst h; exact hv
abbrev we (s q : Nat) (most : Int) (k r j : Option D) : Mj.Env := [some (.ref s), some (.int most), some (.ref q), k, r, j]
theorem len_lst {M : Mem} {q : Nat} {lk : Bool} {ds : List D} (h : M.get q = some (.lst lk ds)) : biD .len [.ref q] M = some (.int ds.length, M) := by simp [biD, h]
theorem row_in2 {s q most : Nat} (hm : most ≤ 1000) {k j : Option D} {r : Int} {M M0 : Mem} (hq : M0.size ≤ q) (x : Ext M0 M) (hr : Row M q most) : ∃ r' M', Ext M0 M' ∧ Row M' q most ∧ Mj.exec Γ Gg lb__law_row_2 (we s q most k (some (.int r)) j) M = .ok (.nx (we s q most k (some (.int r')) j)) M' := by
  obtain ⟨ns, h1, h2, h3⟩ := hr
  have hv : 0 ≤ r % 1000 ∧ r % 1000 < 1000 := ⟨Int.emod_nonneg _ (by decide), Int.emod_lt_of_pos _ (by decide)⟩
  have n3 := fun x M => mod_c (a := x) (c := 1000) (by decide) M
  have d3 := fun x M => div_c (a := x) (c := 1000) (by decide) (by decide) M
  by_cases h0 : 0 < r
  · by_cases hl : ns.length < most
    · obtain ⟨e1, e2⟩ := Row.app hm hl h2 h3 hv
      refine ⟨r / 1000, _, x.set hq, e2, ?_⟩
      have hl' : ((ns.length : Int) < (most : Int)) := by omega
      simp only [we, Fd.fm, Mj.exec, ev, evs, evT, R.bind_ok, R.bind_exc, R.bind_bad, R.opt_some, R.lift_some, R.lift_none, List.length_cons, List.length_nil, if_true, List.map_cons, List.map_nil, List.cons_append, List.nil_append, List.append_nil, List.getElem?_cons_zero, List.getElem?_cons_succ, List.set_cons_zero, List.set_cons_succ, List.replicate_succ, List.replicate_zero, Nat.reduceAdd, Nat.reduceSub, Nat.reduceEqDiff, cmpD, thenF, truthD, Bool.false_eq_true, if_false, Bool.not_true, Bool.not_false, Option.map_some, Option.map_none, eq_chr, int_eq, bin_add, bin_sub, decide_true, decide_false, lb__law_row_2, ltD, h0, len_lst h3, List.length_map, hl', isBt_lst h3, bmT, n3, d3, int_c, e1]
    · refine ⟨r, M, x, ⟨ns, h1, h2, h3⟩, ?_⟩
      have hl' : ¬ ((ns.length : Int) < (most : Int)) := by omega
      simp only [we, Fd.fm, Mj.exec, ev, evs, evT, R.bind_ok, R.bind_exc, R.bind_bad, R.opt_some, R.lift_some, R.lift_none, List.length_cons, List.length_nil, if_true, List.map_cons, List.map_nil, List.cons_append, List.nil_append, List.append_nil, List.getElem?_cons_zero, List.getElem?_cons_succ, List.set_cons_zero, List.set_cons_succ, List.replicate_succ, List.replicate_zero, Nat.reduceAdd, Nat.reduceSub, Nat.reduceEqDiff, cmpD, thenF, truthD, Bool.false_eq_true, if_false, Bool.not_true, Bool.not_false, Option.map_some, Option.map_none, eq_chr, int_eq, bin_add, bin_sub, decide_true, decide_false, lb__law_row_2, ltD, h0, len_lst h3, List.length_map, hl']
  · refine ⟨r, M, x, ⟨ns, h1, h2, h3⟩, ?_⟩
    simp only [we, Fd.fm, Mj.exec, ev, evs, evT, R.bind_ok, R.bind_exc, R.bind_bad, R.opt_some, R.lift_some, R.lift_none, List.length_cons, List.length_nil, if_true, List.map_cons, List.map_nil, List.cons_append, List.nil_append, List.append_nil, List.getElem?_cons_zero, List.getElem?_cons_succ, List.set_cons_zero, List.set_cons_succ, List.replicate_succ, List.replicate_zero, Nat.reduceAdd, Nat.reduceSub, Nat.reduceEqDiff, cmpD, thenF, truthD, Bool.false_eq_true, if_false, Bool.not_true, Bool.not_false, Option.map_some, Option.map_none, eq_chr, int_eq, bin_add, bin_sub, decide_true, decide_false, lb__law_row_2, ltD, h0]
theorem row_in3 (hM : HM Γ) {s q most : Nat} (hm : most ≤ 1000) {k j : Nat} {r : Int} {M M0 : Mem} (hq : M0.size ≤ q) (x : Ext M0 M) (hr : Row M q most) : ∃ M', Ext M0 M' ∧ Row M' q most ∧ Mj.exec Γ Gg lb__law_row_3 (we s q most (some (.int k)) (some (.int r)) (some (.int j))) M = .ok (.nx (we s q most (some (.int k)) (some (.int r)) (some (.int j)))) M' := by
  obtain ⟨ns, h1, h2, h3⟩ := hr
  have m1 := fun (x : Int) M => mul_c (a := 64) (c := (j : Int)) (by omega) 
  by_cases hl : ns.length < most
  · obtain ⟨v, v1, v2, v3⟩ := hM r (64 * j + k) M
    obtain ⟨e1, e2⟩ := Row.app hm hl h2 h3 ⟨v1, v2⟩
    refine ⟨_, x.set hq, e2, ?_⟩
    have hl' : ((ns.length : Int) < (most : Int)) := by omega
    have mm : binD .Mult (.int 64) (.int (j : Int)) M = some (.int (64 * j), M) := by
      simp only [binD, intOp, p64]
      rw [if_pos (by omega)]; rfl
    simp only [we, Fd.fm, Mj.exec, ev, evs, evT, R.bind_ok, R.bind_exc, R.bind_bad, R.opt_some, R.lift_some, R.lift_none, List.length_cons, List.length_nil, if_true, List.map_cons, List.map_nil, List.cons_append, List.nil_append, List.append_nil, List.getElem?_cons_zero, List.getElem?_cons_succ, List.set_cons_zero, List.set_cons_succ, List.replicate_succ, List.replicate_zero, Nat.reduceAdd, Nat.reduceSub, Nat.reduceEqDiff, cmpD, thenF, truthD, Bool.false_eq_true, if_false, Bool.not_true, Bool.not_false, Option.map_some, Option.map_none, eq_chr, int_eq, bin_add, bin_sub, decide_true, decide_false, lb__law_row_3, ltD, len_lst h3, List.length_map, hl', isBt_lst h3, bmT, mm, v3, e1]
  · refine ⟨M, x, ⟨ns, h1, h2, h3⟩, ?_⟩
    have hl' : ¬ ((ns.length : Int) < (most : Int)) := by omega
    simp only [we, Fd.fm, Mj.exec, ev, evs, evT, R.bind_ok, R.bind_exc, R.bind_bad, R.opt_some, R.lift_some, R.lift_none, List.length_cons, List.length_nil, if_true, List.map_cons, List.map_nil, List.cons_append, List.nil_append, List.append_nil, List.getElem?_cons_zero, List.getElem?_cons_succ, List.set_cons_zero, List.set_cons_succ, List.replicate_succ, List.replicate_zero, Nat.reduceAdd, Nat.reduceSub, Nat.reduceEqDiff, cmpD, thenF, truthD, Bool.false_eq_true, if_false, Bool.not_true, Bool.not_false, Option.map_some, Option.map_none, eq_chr, int_eq, bin_add, bin_sub, decide_true, decide_false, lb__law_row_3, ltD, len_lst h3, List.length_map, hl']
theorem row_body (hM : HM Γ) {s q most : Nat} (hm : most ≤ 1000) {k : Nat} {r j : Option D} {lk : Bool} {ns : List Int} {M M0 : Mem} (hs : M0.get s = some (.lst lk (ns.map .int))) (hk : k < ns.length) (hq : M0.size ≤ q) (x : Ext M0 M) (hr : Row M q most) :
    ∃ r' j' M', Ext M0 M' ∧ Row M' q most ∧ Mj.exec Γ Gg lb__law_row_1 (we s q most (some (.int k)) r j) M = .ok (.nx (we s q most (some (.int k)) r' j')) M' := by
  have hix : ∀ M, Ext M0 M → ixD (.ref s) (.int (k : Int)) M = some (.int ns[k]) := fun M x => by
    simp only [ixD, x.get hs]
    exact Mj.atI_nat (by rw [List.getElem?_map, List.getElem?_eq_getElem hk]; rfl)
  have pw : binD .Pow (.int 10) (.int 18) M = some (.int 1000000000000000000, M) := rfl
  have st : ∀ (t : Bool), (decide ((1000000000000000000 : Int) ≤ ns[k])) = t → Mj.exec Γ Gg lb__law_row_1 (we s q most (some (.int k)) r j) M = if t then thenF (thenF (forTurns .free (fbd Γ Gg (.n 5) lb__law_row_2) (rangeD 0 60) (we s q most (some (.int k)) (some (.int ns[k])) j) M) (Mj.exec Γ Gg .nil)) (Mj.exec Γ Gg .nil)
      else thenF (thenF (forTurns .free (fbd Γ Gg (.n 5) lb__law_row_3) (rangeD 0 3) (we s q most (some (.int k)) (some (.int ns[k])) j) M) (Mj.exec Γ Gg .nil)) (Mj.exec Γ Gg .nil) := by
    intro t ht
    unfold lb__law_row_1
    have c60 : R.opt (walkD .rng1 (.int 60) .non M) M = .ok (.free, rangeD 0 60) M := rfl
    have c3 : R.opt (walkD .rng1 (.int 3) .non M) M = .ok (.free, rangeD 0 3) M := rfl
    have ul : ∀ (r : R Fl), R.unlock .free r = r := fun r => unlock_free rfl r
    simp only [exec_for, we, Mj.exec, ev, evT, R.bind_ok, List.getElem?_cons_zero, List.getElem?_cons_succ, List.set_cons_zero, List.set_cons_succ, hix M x, R.opt_some, pw, R.lift_some, cmpD, leD, truthD, ht, walkR, c60, c3, ul, Src.lock]
    cases t <;> rfl
  cases ht : decide ((1000000000000000000 : Int) ≤ ns[k]) with
  | true =>
    rw [st true ht]
    obtain ⟨σ', M', h1, h2⟩ := for_inv (src := .free) (b := fbd Γ Gg (.n 5) lb__law_row_2) (I := fun _ σ M => ∃ r j, σ = we s q most (some (.int k)) (some (.int r)) j ∧ Ext M0 M ∧ Row M q most) (fun _ _ _ _ => rfl) (fun y xs σ M ⟨r, j, e1, x1, r1⟩ => by
      subst e1
      obtain ⟨r', M', x2, r2, e2⟩ := row_in2 (Γ := Γ) hm (k := some (.int k)) (j := some y) (r := r) hq x1 r1
      exact ⟨_, M', .inl e2, r', _, rfl, x2, r2⟩) (rangeD 0 60) (we s q most (some (.int k)) (some (.int ns[k])) j) M ⟨_, _, rfl, x, hr⟩
    obtain ⟨r', j', rfl, x2, r2⟩ := h2
    exact ⟨_, j', M', x2, r2, by rw [if_pos rfl, h1]; rfl⟩
  | false =>
    rw [st false ht]
    obtain ⟨σ', M', h1, h2⟩ := for_inv (src := .free) (b := fbd Γ Gg (.n 5) lb__law_row_3) (I := fun xs σ M => (∀ y ∈ xs, ∃ j : Nat, j < 3 ∧ y = .int j) ∧ ∃ j, σ = we s q most (some (.int k)) (some (.int ns[k])) j ∧ Ext M0 M ∧ Row M q most) (fun _ _ _ _ => rfl) (fun y xs σ M ⟨h, j, e1, x1, r1⟩ => by
      subst e1
      obtain ⟨⟨j, hj, rfl⟩, h'⟩ := mem_range h
      obtain ⟨M', x2, r2, e2⟩ := row_in3 hM hm (k := k) (j := j) (r := ns[k]) hq x1 r1
      exact ⟨_, M', .inl e2, h', _, rfl, x2, r2⟩) (rangeD 0 3) (we s q most (some (.int k)) (some (.int ns[k])) j) M ⟨range_ok 3, _, rfl, x, hr⟩
    obtain ⟨_, j', rfl, x2, r2⟩ := h2
    exact ⟨_, j', M', x2, r2, by rw [if_neg (by decide), h1]; rfl⟩
theorem min63 {n : Nat} (hn : n ≤ 63) (M : Mem) : biD .min2 [.int (n : Int), .int 63] M = some (.int (n : Int), M) := by
  simp only [biD]
  by_cases h : (63 : Int) < (n : Int)
  · omega
  · rw [if_neg h]
theorem wk_rng {n : Nat} (hn : n ≤ 1000000) (M : Mem) : R.opt (walkD .rng1 (.int (n : Int)) .non M) M = .ok (.free, rangeD 0 n) M := by
  have h1 : -(2 ^ 62) ≤ (n : Int) ∧ (n : Int) < 2 ^ 62 := by
    have : (2 : Int) ^ 62 = 4611686018427387904 := by decide
    rw [this]; omega
  simp only [walkD]
  rw [if_pos h1, Int.toNat_natCast, R.opt_some]
theorem row_eq {s most : Nat} {lk : Bool} {ns : List Int} {M : Mem} (hs : M.get s = some (.lst lk (ns.map .int))) (hn : ns.length ≤ 63) : d__law_row.fm Gg Γ [.ref s, .int most] M = (thenF (forTurns .free (fbd Γ Gg (.n 3) lb__law_row_1) (rangeD 0 ns.length) (we s M.size most none none none) (M.push (.lst false []))) (Mj.exec Γ Gg (.ret (.v 2)))).bind endF := by
  have x0 : Ext M (M.push (.lst false [])) := Ext.push
  have hl := len_lst (x0.get hs)
  simp only [List.length_map] at hl
  simp only [d__law_row, c__law_row, fm_eq, List.length_cons, List.length_nil, if_true, List.map_cons, List.map_nil, List.cons_append, List.nil_append, List.replicate, Nat.reduceAdd, Nat.reduceSub, x_asg, ev, evs, R.bind_ok, Nat.zero_le, sizeLine_eq, List.set_cons_zero, List.set_cons_succ, exec_for, walkR, List.getElem?_cons_zero, List.getElem?_cons_succ, hl, R.lift_some]
  rw [min63 hn, R.lift_some, R.bind_ok, wk_rng (show ns.length ≤ 1000000 by omega), R.bind_ok, unl]
  rfl
theorem r_row (hM : HM Γ) {s most : Nat} (hm : most ≤ 1000) {lk : Bool} {ns : List Int} {M : Mem} (hs : M.get s = some (.lst lk (ns.map .int))) (hn : ns.length ≤ 63) :
    ∃ q M', Ext M M' ∧ Row M' q most ∧ d__law_row.fm Gg Γ [.ref s, .int most] M = .ok (.ref q) M' := by
  have x0 : Ext M (M.push (.lst false [])) := Ext.push
  have r0 : Row (M.push (.lst false [])) M.size most := ⟨[], by simp, by simp, Mem.get_push_self⟩
  obtain ⟨σ', M', h1, h2⟩ := for_inv (src := .free) (b := fbd Γ Gg (.n 3) lb__law_row_1) (I := fun xs σ M1 => (∀ y ∈ xs, ∃ j : Nat, j < ns.length ∧ y = .int j) ∧ ∃ k r j, σ = we s M.size most k r j ∧ Ext M M1 ∧ Row M1 M.size most) (fun _ _ _ _ => rfl) (fun y xs σ M1 ⟨h, k, r, j, e1, x1, r1⟩ => by
      subst e1
      obtain ⟨⟨k, hk, rfl⟩, h'⟩ := mem_range h
      obtain ⟨r', j', M', x2, r2, e2⟩ := row_body hM hm (r := r) (j := j) hs hk (Nat.le_refl _) x1 r1
      exact ⟨_, M', .inl e2, h', _, _, _, rfl, x2, r2⟩) (rangeD 0 ns.length) (we s M.size most none none none) (M.push (.lst false [])) ⟨range_ok _, _, _, _, rfl, x0, r0⟩
  obtain ⟨_, k', r', j', rfl, x2, r2⟩ := h2
  refine ⟨M.size, M', x2, r2, ?_⟩
  rw [row_eq hs hn, h1]
  simp only [then_nx, R.bind_ok, x_ret, end_rt, ev, we, List.getElem?_cons_zero, List.getElem?_cons_succ]
end K58

set_option Elab.async false
set_option linter.all false
set_option autoImplicit false
set_option maxRecDepth 100000
set_option maxHeartbeats 4000000
namespace K58
open PySem PySem.Spec L2 Mj
variable {Γ : Fns} {l : List Nat}
def L18 : List Nat := [97, 98, 32, 99, 49, 32, 34, 120, 92, 32, 126, 33, 122, 57, 47, 45, 38, 36]
def L6 : List Nat := [32, 97, 34, 92, 98, 99]
def L2' : List Nat := [10, 9]
theorem t18 : ("ab c1 \"x\\ ~!z9/-&$" : Str) = tx L18 := by decide +kernel
theorem t6 : (" a\"\\bc" : Str) = tx L6 := by decide +kernel
theorem t2 : ("\n\t" : Str) = tx L2' := by decide +kernel
theorem g18 : ∀ p, p < 18 → ∃ c, L18[p]? = some c ∧ sgn c = true := by
  intro p hp
  have h : p < L18.length := hp
  refine ⟨L18[p], List.getElem?_eq_getElem h, ?_⟩
  have all : L18.all (fun c => sgn c) = true := by decide
  exact List.all_eq_true.mp all _ (List.getElem_mem h)
theorem g6 : ∀ p, p < 6 → ∃ c, L6[p]? = some c ∧ sgn c = true := by
  intro p hp
  have h : p < L6.length := hp
  refine ⟨L6[p], List.getElem?_eq_getElem h, ?_⟩
  have all : L6.all (fun c => sgn c) = true := by decide
  exact List.all_eq_true.mp all _ (List.getElem_mem h)
abbrev le (s : Nat) (wild : Bool) (g : Nat) (v p : Option D) : Mj.Env := [some (.ref s), some (.bl wild), some (.ref g), v, p]
theorem line_body {s g : Nat} {wild : Bool} {v : Int} (hv : 0 ≤ v) {p : Option D} {M : Mem} {acc : List Nat} (hg : M.get g = some (.lst false (acc.map chr))) (ha : acc.length ≤ 1000) :
    ∃ c p', (wild = false → sgn c = true) ∧ Mj.exec Γ Gg lb__law_line_1 (le s wild g (some (.int v)) p) M = .ok (.nx (le s wild g (some (.int v)) p')) (M.set g (.lst false ((acc ++ [c]).map chr))) := by
  have hA : (acc.map chr).length < sizeLine := by rw [List.length_map, sizeLine_eq]; omega
  have n1 := fun x M => mod_c (a := x) (c := 24) (by decide) M
  obtain ⟨q, hq, hq2⟩ : ∃ q : Nat, v % 24 = (q : Int) ∧ q < 24 := ⟨(v % 24).toNat, by omega, by omega⟩
  have z18 : L18.length ≤ sizeLine := by rw [sizeLine_eq]; decide
  have z6 : L6.length ≤ sizeLine := by rw [sizeLine_eq]; decide
  have z2 : L2'.length ≤ sizeLine := by rw [sizeLine_eq]; decide
  by_cases h18 : q < 18
  · obtain ⟨c, hc, hs⟩ := g18 q h18
    refine ⟨c, some (.int q), fun _ => hs, ?_⟩
    have h18' : ((q : Int) < 18) := by omega
    have hx := ix_tx z18 hc M
    simp only [le, Fd.fm, Mj.exec, ev, evs, evT, R.bind_ok, R.bind_exc, R.bind_bad, R.opt_some, R.lift_some, R.lift_none, List.length_cons, List.length_nil, if_true, List.map_cons, List.map_nil, List.cons_append, List.nil_append, List.append_nil, List.getElem?_cons_zero, List.getElem?_cons_succ, List.set_cons_zero, List.set_cons_succ, List.replicate_succ, List.replicate_zero, Nat.reduceAdd, Nat.reduceSub, Nat.reduceEqDiff, cmpD, thenF, truthD, Bool.false_eq_true, if_false, Bool.not_true, Bool.not_false, Option.map_some, Option.map_none, eq_chr, int_eq, bin_add, bin_sub, decide_true, decide_false, lb__law_line_1, n1, int_c, hq, ltD, h18', t18, hx, isBt_lst hg, bmT, app_lst hg hA]
    simp
  · have h18' : ¬ ((q : Int) < 18) := by omega
    by_cases h22 : q < 22 ∨ wild = false
    · obtain ⟨c, hc, hs⟩ := g6 (q - 18) (by omega)
      refine ⟨c, some (.int q), fun _ => hs, ?_⟩
      have hx := ix_tx z6 hc M
      have e1 : ((q : Int) - 18) = ((q - 18 : Nat) : Int) := by omega
      rcases h22 with h | h
      · have h22' : ((q : Int) < 22) := by omega
        simp only [le, Fd.fm, Mj.exec, ev, evs, evT, R.bind_ok, R.bind_exc, R.bind_bad, R.opt_some, R.lift_some, R.lift_none, List.length_cons, List.length_nil, if_true, List.map_cons, List.map_nil, List.cons_append, List.nil_append, List.append_nil, List.getElem?_cons_zero, List.getElem?_cons_succ, List.set_cons_zero, List.set_cons_succ, List.replicate_succ, List.replicate_zero, Nat.reduceAdd, Nat.reduceSub, Nat.reduceEqDiff, cmpD, thenF, truthD, Bool.false_eq_true, if_false, Bool.not_true, Bool.not_false, Option.map_some, Option.map_none, eq_chr, int_eq, bin_add, bin_sub, decide_true, decide_false, lb__law_line_1, n1, int_c, hq, ltD, h18', h22', t6, e1, hx, isBt_lst hg, bmT, app_lst hg hA]
        simp
      · subst h
        by_cases h22' : ((q : Int) < 22)
        · simp only [le, Fd.fm, Mj.exec, ev, evs, evT, R.bind_ok, R.bind_exc, R.bind_bad, R.opt_some, R.lift_some, R.lift_none, List.length_cons, List.length_nil, if_true, List.map_cons, List.map_nil, List.cons_append, List.nil_append, List.append_nil, List.getElem?_cons_zero, List.getElem?_cons_succ, List.set_cons_zero, List.set_cons_succ, List.replicate_succ, List.replicate_zero, Nat.reduceAdd, Nat.reduceSub, Nat.reduceEqDiff, cmpD, thenF, truthD, Bool.false_eq_true, if_false, Bool.not_true, Bool.not_false, Option.map_some, Option.map_none, eq_chr, int_eq, bin_add, bin_sub, decide_true, decide_false, lb__law_line_1, n1, int_c, hq, ltD, h18', h22', t6, e1, hx, isBt_lst hg, bmT, app_lst hg hA]
          simp
        · simp only [le, Fd.fm, Mj.exec, ev, evs, evT, R.bind_ok, R.bind_exc, R.bind_bad, R.opt_some, R.lift_some, R.lift_none, List.length_cons, List.length_nil, if_true, List.map_cons, List.map_nil, List.cons_append, List.nil_append, List.append_nil, List.getElem?_cons_zero, List.getElem?_cons_succ, List.set_cons_zero, List.set_cons_succ, List.replicate_succ, List.replicate_zero, Nat.reduceAdd, Nat.reduceSub, Nat.reduceEqDiff, cmpD, thenF, truthD, Bool.false_eq_true, if_false, Bool.not_true, Bool.not_false, Option.map_some, Option.map_none, eq_chr, int_eq, bin_add, bin_sub, decide_true, decide_false, lb__law_line_1, n1, int_c, hq, ltD, h18', h22', t6, e1, hx, isBt_lst hg, bmT, app_lst hg hA]
          simp
    · have hw : wild = true := by cases wild <;> simp at h22 ⊢
      subst hw
      have h22' : ¬ ((q : Int) < 22) := by omega
      obtain ⟨c, hc⟩ : ∃ c, L2'[q - 22]? = some c := ⟨_, List.getElem?_eq_getElem (show q - 22 < 2 by omega)⟩
      refine ⟨c, some (.int q), (fun z => by cases z), ?_⟩
      have hx := ix_tx z2 hc M
      have e1 : ((q : Int) - 22) = ((q - 22 : Nat) : Int) := by omega
      simp only [le, Fd.fm, Mj.exec, ev, evs, evT, R.bind_ok, R.bind_exc, R.bind_bad, R.opt_some, R.lift_some, R.lift_none, List.length_cons, List.length_nil, if_true, List.map_cons, List.map_nil, List.cons_append, List.nil_append, List.append_nil, List.getElem?_cons_zero, List.getElem?_cons_succ, List.set_cons_zero, List.set_cons_succ, List.replicate_succ, List.replicate_zero, Nat.reduceAdd, Nat.reduceSub, Nat.reduceEqDiff, cmpD, thenF, truthD, Bool.false_eq_true, if_false, Bool.not_true, Bool.not_false, Option.map_some, Option.map_none, eq_chr, int_eq, bin_add, bin_sub, decide_true, decide_false, lb__law_line_1, n1, int_c, hq, ltD, h18', h22', t2, e1, hx, isBt_lst hg, bmT, app_lst hg hA]
      simp
theorem line_eq {s : Nat} {wild : Bool} {ns : List Int} {M : Mem} (hs : M.get s = some (.lst false (ns.map .int))) : d__law_line.fm Gg Γ [.ref s, .bl wild] M = (thenF (forTurns (.list s (ns.map .int)) (fbd Γ Gg (.n 3) lb__law_line_1) (ns.map .int) (le s wild M.size none none) (M.push (.lst false []))) (Mj.exec Γ Gg (.ret (.bm .join (.c (.str "")) (.cons (.v 2) .nil))))).bind endF := by
  have x0 : Ext M (M.push (.lst false [])) := Ext.push
  have wk : R.opt (walkD .seqL (.ref s) .non (M.push (.lst false []))) (M.push (.lst false [])) = .ok (.list s (ns.map .int), ns.map .int) (M.push (.lst false [])) := by
    simp only [walkD, x0.get hs, R.opt_some]
  simp only [d__law_line, c__law_line, fm_eq, List.length_cons, List.length_nil, if_true, List.map_cons, List.map_nil, List.cons_append, List.nil_append, List.replicate, Nat.reduceAdd, Nat.reduceSub, x_asg, ev, evs, R.bind_ok, Nat.zero_le, sizeLine_eq, List.set_cons_zero, List.set_cons_succ, exec_for, walkR, List.getElem?_cons_zero, List.getElem?_cons_succ]
  rw [wk, R.bind_ok, unlL]
  rfl
theorem r_line {s most : Nat} (hm : most ≤ 900) {wild : Bool} {ns : List Int} {M : Mem} (hs : M.get s = some (.lst false (ns.map .int))) (hl : ns.length ≤ most) (hn : ∀ n ∈ ns, 0 ≤ n ∧ n < 1000) :
    ∃ (l : List Nat) (M' : Mem), Ext M M' ∧ l.length ≤ most ∧ (wild = false → ∀ c ∈ l, sgn c = true) ∧ d__law_line.fm Gg Γ [.ref s, .bl wild] M = .ok (.str (tx l)) M' := by
  have x0 : Ext M (M.push (.lst false [])) := Ext.push
  obtain ⟨σ', M', h1, h2⟩ := for_inv (src := .list s (ns.map .int)) (b := fbd Γ Gg (.n 3) lb__law_line_1) (I := fun xs σ M1 => ∃ (vs : List Int) (acc : List Nat) (v p : Option D), xs = vs.map .int ∧ (∀ n ∈ vs, 0 ≤ n) ∧ acc.length + vs.length ≤ most ∧ (wild = false → ∀ c ∈ acc, sgn c = true) ∧ σ = le s wild M.size v p ∧ Ext M M1 ∧ M1.get M.size = some (.lst false (acc.map chr)))
    (fun xs σ M1 ⟨vs, acc, v, p, _, _, _, _, _, x1, _⟩ => by simp [Src.stands, x1.get hs]) (fun y xs σ M1 ⟨vs, acc, v, p, e1, h0, hl, hw, e2, x1, g1⟩ => by
      subst e2
      cases vs with
      | nil => cases e1
      | cons v0 vs =>
        simp only [List.map_cons, List.cons.injEq] at e1
        obtain ⟨rfl, rfl⟩ := e1
        obtain ⟨c, p', hc, e2⟩ := line_body (Γ := Γ) (s := s) (g := M.size) (wild := wild) (h0 v0 List.mem_cons_self) (p := p) g1 (by simp at hl; omega)
        refine ⟨_, _, .inl e2, vs, acc ++ [c], _, p', rfl, fun n hn => h0 n (List.mem_cons_of_mem _ hn), by simp at hl ⊢; omega, fun hwf d hd => ?_, rfl, x1.set (Nat.le_refl _), get_set g1⟩
        rcases List.mem_append.mp hd with h | h
        · exact hw hwf d h
        · simp at h; subst h; exact hc hwf) (ns.map .int) (le s wild M.size none none) (M.push (.lst false [])) ⟨ns, [], none, none, rfl, fun n h => (hn n h).1, by simpa using hl, by simp, rfl, x0, Mem.get_push_self⟩
  obtain ⟨vs, acc, v, p, e1, _, hl', hw, rfl, x2, g2⟩ := h2
  refine ⟨acc, M', x2, by omega, hw, ?_⟩
  rw [line_eq hs, h1]
  have hj := join1 g2 (by omega)
  simp only [then_nx, x_ret, le, ev, evs, R.bind_ok, List.getElem?_cons_zero, List.getElem?_cons_succ, lx l_em, bmT, isBt_str, if_true, hj, R.lift_some, end_rt]
/-! words of a line -/
abbrev oe (l : List Nat) (s g a : Nat) (k z : Option D) : Mj.Env := [some (.str (tx l)), some (.ref s), some (.ref g), some (.int a), k, z]
theorem words_body (hz : l.length ≤ 900) {s g a k : Nat} {z : Option D} {ns : List Int} {ws : List (List Nat)} {M : Mem} (hs : M.get s = some (.lst false (ns.map .int))) (hn : ∀ n ∈ ns, 0 ≤ n ∧ n < 1000) (hg : M.get g = some (.lst false (ws.map fun w => D.str (tx w)))) (hw : ws.length ≤ 8) :
    ∃ a' z' M' ws', Ext M M ∧ (M' = M ∨ M' = M.set g (.lst false (ws'.map fun w => D.str (tx w)))) ∧ M'.get g = some (.lst false (ws'.map fun w => D.str (tx w))) ∧ (ws' = ws ∨ ∃ w, ws' = ws ++ [w] ∧ w.length ≤ 11 ∧ ∀ c ∈ w, c ∈ l) ∧ Mj.exec Γ Gg lb__law_words_1 (oe l s g a (some (.int k)) z) M = .ok (.nx (oe l s g a' (some (.int k)) z')) M' := by
  have hA : (ws.map fun w => D.str (tx w)).length < sizeLine := by rw [List.length_map, sizeLine_eq]; omega
  have n1 := fun x M => mod_c (a := x) (c := 12) (by decide) M
  -- the size
  have key : ∀ q : Nat, q < 12 → ∃ a' M' ws', Ext M M ∧ (M' = M ∨ M' = M.set g (.lst false (ws'.map fun w => D.str (tx w)))) ∧ M'.get g = some (.lst false (ws'.map fun w => D.str (tx w))) ∧ (ws' = ws ∨ ∃ w, ws' = ws ++ [w] ∧ w.length ≤ 11 ∧ ∀ c ∈ w, c ∈ l) ∧
      Mj.exec Γ Gg (.iff (.cmp .LtE (.bin .Add (.v 3) (.v 5)) (.bi .len (.cons (.v 0) .nil))) (.drop (.bm .append (.v 2) (.cons (.sl (.v 0) (.v 3) (.bin .Add (.v 3) (.v 5))) .nil)) .nil) .nil (.asg 3 (.bin .Add (.v 3) (.v 5)) .nil)) (oe l s g a (some (.int k)) (some (.int q))) M = .ok (.nx (oe l s g a' (some (.int k)) (some (.int q)))) M' := by
    intro q hq
    have e1 : ((a : Int) + (q : Int)) = ((a + q : Nat) : Int) := by omega
    by_cases h : a + q ≤ l.length
    · have h' : (((a + q : Nat) : Int) ≤ (l.length : Int)) := by omega
      have hsl := sl_tx (l := l) (i := a) (e := a + q) (sz (by omega)) (by omega) h M
      refine ⟨a + q, _, ws ++ [(l.drop a).take (a + q - a)], Ext.refl, .inr rfl, get_set hg, .inr ⟨_, rfl, by simp; omega, fun c hc => List.mem_of_mem_drop (List.mem_of_mem_take hc)⟩, ?_⟩
      simp only [oe, Fd.fm, Mj.exec, ev, evs, evT, R.bind_ok, R.bind_exc, R.bind_bad, R.opt_some, R.lift_some, R.lift_none, List.length_cons, List.length_nil, if_true, List.map_cons, List.map_nil, List.cons_append, List.nil_append, List.append_nil, List.getElem?_cons_zero, List.getElem?_cons_succ, List.set_cons_zero, List.set_cons_succ, List.replicate_succ, List.replicate_zero, Nat.reduceAdd, Nat.reduceSub, Nat.reduceEqDiff, cmpD, thenF, truthD, Bool.false_eq_true, if_false, Bool.not_true, Bool.not_false, Option.map_some, Option.map_none, eq_chr, int_eq, bin_add, bin_sub, decide_true, decide_false, e1, len_tx (sz (show l.length ≤ 1000 by omega)), leD, h', partD, hsl, isBt_lst hg, bmT, app_lst hg hA]
      simp
    · have h' : ¬ (((a + q : Nat) : Int) ≤ (l.length : Int)) := by omega
      refine ⟨a + q, M, ws, Ext.refl, .inl rfl, hg, .inl rfl, ?_⟩
      simp only [oe, Fd.fm, Mj.exec, ev, evs, evT, R.bind_ok, R.bind_exc, R.bind_bad, R.opt_some, R.lift_some, R.lift_none, List.length_cons, List.length_nil, if_true, List.map_cons, List.map_nil, List.cons_append, List.nil_append, List.append_nil, List.getElem?_cons_zero, List.getElem?_cons_succ, List.set_cons_zero, List.set_cons_succ, List.replicate_succ, List.replicate_zero, Nat.reduceAdd, Nat.reduceSub, Nat.reduceEqDiff, cmpD, thenF, truthD, Bool.false_eq_true, if_false, Bool.not_true, Bool.not_false, Option.map_some, Option.map_none, eq_chr, int_eq, bin_add, bin_sub, decide_true, decide_false, e1, len_tx (sz (show l.length ≤ 1000 by omega)), leD, h']
  have hlen := len_lst hs
  simp only [List.length_map] at hlen
  by_cases hk : k < ns.length
  · have hk' : ((k : Int) < (ns.length : Int)) := by omega
    have hix : ixD (.ref s) (.int (k : Int)) M = some (.int ns[k]) := by
      simp only [ixD, hs]
      exact Mj.atI_nat (by rw [List.getElem?_map, List.getElem?_eq_getElem hk]; rfl)
    have h0 := (hn _ (List.getElem_mem hk)).1
    obtain ⟨q, hq, hq2⟩ : ∃ q : Nat, ns[k] % 12 = (q : Int) ∧ q < 12 := ⟨(ns[k] % 12).toNat, by omega, by omega⟩
    obtain ⟨a', M', ws', h1, h2, h3, h4, h5⟩ := key q hq2
    refine ⟨a', some (.int q), M', ws', h1, h2, h3, h4, ?_⟩
    rw [← h5]
    simp only [oe, Fd.fm, Mj.exec, ev, evs, evT, R.bind_ok, R.bind_exc, R.bind_bad, R.opt_some, R.lift_some, R.lift_none, List.length_cons, List.length_nil, if_true, List.map_cons, List.map_nil, List.cons_append, List.nil_append, List.append_nil, List.getElem?_cons_zero, List.getElem?_cons_succ, List.set_cons_zero, List.set_cons_succ, List.replicate_succ, List.replicate_zero, Nat.reduceAdd, Nat.reduceSub, Nat.reduceEqDiff, cmpD, thenF, truthD, Bool.false_eq_true, if_false, Bool.not_true, Bool.not_false, Option.map_some, Option.map_none, eq_chr, int_eq, bin_add, bin_sub, decide_true, decide_false, lb__law_words_1, hlen, ltD, hk', hix, int_c, n1, hq]
  · have hk' : ¬ ((k : Int) < (ns.length : Int)) := by omega
    obtain ⟨a', M', ws', h1, h2, h3, h4, h5⟩ := key 0 (by omega)
    refine ⟨a', some (.int ((0 : Nat) : Int)), M', ws', h1, h2, h3, h4, ?_⟩
    rw [← h5]
    simp only [oe, Fd.fm, Mj.exec, ev, evs, evT, R.bind_ok, R.bind_exc, R.bind_bad, R.opt_some, R.lift_some, R.lift_none, List.length_cons, List.length_nil, if_true, List.map_cons, List.map_nil, List.cons_append, List.nil_append, List.append_nil, List.getElem?_cons_zero, List.getElem?_cons_succ, List.set_cons_zero, List.set_cons_succ, List.replicate_succ, List.replicate_zero, Nat.reduceAdd, Nat.reduceSub, Nat.reduceEqDiff, cmpD, thenF, truthD, Bool.false_eq_true, if_false, Bool.not_true, Bool.not_false, Option.map_some, Option.map_none, eq_chr, int_eq, bin_add, bin_sub, decide_true, decide_false, lb__law_words_1, hlen, ltD, hk']
    rfl
theorem words_eq {s : Nat} {M : Mem} : d__law_words.fm Gg Γ [.str (tx l), .ref s] M = (thenF (forTurns .free (fbd Γ Gg (.n 4) lb__law_words_1) (rangeD 0 8) (oe l s M.size (0 : Nat) none none) (M.push (.lst false []))) (Mj.exec Γ Gg (.ret (.v 2)))).bind endF := by
  simp only [d__law_words, c__law_words, fm_eq, List.length_cons, List.length_nil, if_true, List.map_cons, List.map_nil, List.cons_append, List.nil_append, List.replicate, Nat.reduceAdd, Nat.reduceSub, x_asg, ev, evs, R.bind_ok, Nat.zero_le, sizeLine_eq, List.set_cons_zero, List.set_cons_succ, exec_for, walkR, List.getElem?_cons_zero, List.getElem?_cons_succ]
  have wk := wk_rng (n := 8) (by decide) (M.push (.lst false []))
  rw [show (D.int 8) = D.int ((8 : Nat) : Int) from rfl, wk, R.bind_ok, unl]
  rfl
/-- words of good signs -/
def Ws (M : Mem) (g : Nat) (l : List Nat) (ws : List (List Nat)) : Prop := ws.length ≤ 8 ∧ (∀ w ∈ ws, w.length ≤ 11 ∧ ∀ c ∈ w, c ∈ l) ∧ M.get g = some (.lst false (ws.map fun w => D.str (tx w)))
theorem r_words (hz : l.length ≤ 900) {s : Nat} {ns : List Int} {M : Mem} (hs : M.get s = some (.lst false (ns.map .int))) (hn : ∀ n ∈ ns, 0 ≤ n ∧ n < 1000) :
    ∃ g M' ws, Ext M M' ∧ Ws M' g l ws ∧ d__law_words.fm Gg Γ [.str (tx l), .ref s] M = .ok (.ref g) M' := by
  have x0 : Ext M (M.push (.lst false [])) := Ext.push
  obtain ⟨σ', M', h1, h2⟩ := for_inv (src := .free) (b := fbd Γ Gg (.n 4) lb__law_words_1) (I := fun xs σ M1 => (∀ y ∈ xs, ∃ j : Nat, j < 8 ∧ y = .int j) ∧ ∃ a k z ws, σ = oe l s M.size a k z ∧ Ext M M1 ∧ ws.length + xs.length ≤ 8 ∧ Ws M1 M.size l ws) (fun _ _ _ _ => rfl) (fun y xs σ M1 ⟨h, a, k, z, ws, e1, x1, hc, w1, w2, w3⟩ => by
      subst e1
      obtain ⟨⟨k, hk, rfl⟩, h'⟩ := mem_range h
      obtain ⟨a', z', M', ws', _, e2, g2, e3, e4⟩ := words_body (Γ := Γ) (a := a) (k := k) (z := z) hz (x1.get hs) hn w3 w1
      have x2 : Ext M M' := by
        rcases e2 with rfl | rfl
        · exact x1
        · exact x1.set (Nat.le_refl _)
      refine ⟨_, M', .inl e4, h', a', _, z', ws', rfl, x2, ?_, ?_, ?_, g2⟩
      · rcases e3 with rfl | ⟨w, rfl, _⟩
        · simp at hc; omega
        · simp at hc ⊢; omega
      · rcases e3 with rfl | ⟨w, rfl, _⟩
        · exact w1
        · simp at hc ⊢; omega
      · rcases e3 with rfl | ⟨w, rfl, h11, hin⟩
        · exact w2
        · intro v hv
          rcases List.mem_append.mp hv with h | h
          · exact w2 v h
          · simp at h; subst h; exact ⟨h11, hin⟩) (rangeD 0 8) (oe l s M.size (0 : Nat) none none) (M.push (.lst false [])) ⟨range_ok 8, 0, none, none, [], rfl, x0, by simp [rangeD], by simp, by simp, Mem.get_push_self⟩
  obtain ⟨_, a, k, z, ws, rfl, x2, _, w⟩ := h2
  refine ⟨M.size, M', ws, x2, w, ?_⟩
  rw [words_eq, h1]
  simp only [then_nx, x_ret, oe, ev, R.bind_ok, List.getElem?_cons_zero, List.getElem?_cons_succ, end_rt]
end K58

set_option Elab.async false
set_option linter.all false
set_option autoImplicit false
set_option maxRecDepth 100000
set_option maxHeartbeats 4000000
namespace K58
open PySem PySem.Spec L2 Mj
variable {Γ : Fns} {l : List Nat}
theorem esc_cons (c : Nat) (w : List Nat) : esc (c :: w) = (if c = 92 then [92, 92] else if c = 34 then [92, 34] else [c]) ++ esc w := rfl
theorem qu_esc (st : Nat) (rest : List Nat) : ∀ (w : List Nat) (e : Nat) (acc : List Nat), (∀ c ∈ w, sgn c = true) → qu st (esc w ++ 34 :: rest) e acc = .inr (acc ++ w, e + (esc w).length + 1)
  | [], e, acc, _ => by
    show qu st (34 :: rest) e acc = _
    unfold qu
    simp [esc]
  | c :: w, e, acc, h => by
    have hc := h c List.mem_cons_self
    have hw := fun d hd => h d (List.mem_cons_of_mem c hd)
    rw [esc_cons]
    by_cases h92 : c = 92
    · subst h92
      have := qu_esc st rest w (e + 2) (acc ++ [92]) hw
      simp [qu, this]; omega
    · by_cases h34 : c = 34
      · subst h34
        have := qu_esc st rest w (e + 2) (acc ++ [34]) hw
        simp [qu, this]; omega
      · have := qu_esc st rest w (e + 1) (acc ++ [c]) hw
        rw [if_neg h92, if_neg h34]
        show qu st (c :: (esc w ++ 34 :: rest)) e acc = _
        unfold qu
        rw [if_neg h34, if_neg h92, if_neg (by rw [hc]; decide), this]
        congr 2
        · simp
        · simp; omega
theorem pl_plain (rest : List Nat) (hr : rest = [] ∨ ∃ r, rest = 32 :: r) : ∀ (w : List Nat) (e : Nat), (∀ c ∈ w, sgn c = true ∧ c ≠ 32 ∧ c ≠ 34 ∧ c ≠ 92) → pl (w ++ rest) e = .inr (e + w.length)
  | [], e, _ => by rcases hr with rfl | ⟨r, rfl⟩ <;> simp [pl]
  | c :: w, e, h => by
    obtain ⟨h1, h2, h3, h4⟩ := h c List.mem_cons_self
    have := pl_plain rest hr w (e + 1) fun d hd => h d (List.mem_cons_of_mem c hd)
    show pl (c :: (w ++ rest)) e = _
    unfold pl
    rw [if_neg h2, if_neg (by simp [h1, h3, h4]), this]
    congr 1
    simp; omega
/-- a word written -/
def OkF (f w : List Nat) : Prop := (∀ c ∈ w, sgn c = true) ∧ (f = qt w ∨ (f = w ∧ w ≠ [] ∧ 32 ∉ w ∧ 34 ∉ w ∧ 92 ∉ w))
theorem OkF.ne {f w : List Nat} (h : OkF f w) : f ≠ [] := by
  rcases h.2 with rfl | ⟨rfl, h, _⟩
  · simp [qt]
  · exact h
theorem okf_wr {w : List Nat} (h : ∀ c ∈ w, sgn c = true) : OkF (wr w) w := by
  refine ⟨h, ?_⟩
  unfold wr
  by_cases hc : w = [] ∨ 32 ∈ w ∨ 34 ∈ w ∨ 92 ∈ w
  · rw [if_pos hc]; exact .inl rfl
  · rw [if_neg hc]
    simp only [not_or] at hc
    exact .inr ⟨rfl, hc.1, hc.2.1, hc.2.2.1, hc.2.2.2⟩
theorem head_drop {i c : Nat} {r : List Nat} (h : l.drop i = c :: r) : l[i]? = some c := (drop_get h).1
theorem wd_form {i : Nat} {f w rest : List Nat} (h : l.drop i = f ++ rest) (ok : OkF f w) (hr : rest = [] ∨ ∃ r, rest = 32 :: r) : wd l i = .inr (w, i + f.length) := by
  obtain ⟨hs, hf⟩ := ok
  rcases hf with rfl | ⟨rfl, hne, h32, h34, h92⟩
  · have h' : l.drop i = 34 :: (esc w ++ 34 :: rest) := by rw [h]; simp [qt]
    obtain ⟨g1, g2, _⟩ := drop_get h'
    unfold wd
    rw [if_pos g1, g2, qu_esc i rest w (i + 1) [] hs]
    simp [qt]; omega
  · obtain ⟨c, w', rfl⟩ : ∃ c w', f = c :: w' := by
      cases f with
      | nil => exact absurd rfl hne
      | cons c w' => exact ⟨c, w', rfl⟩
    have g1 := head_drop (l := l) (i := i) (c := c) (r := w' ++ rest) (by rw [h]; rfl)
    have hc34 : c ≠ 34 := fun z => h34 (by rw [z]; exact List.mem_cons_self)
    have hp := pl_plain rest hr (c :: w') i fun d hd => ⟨hs d hd, fun z => h32 (by rw [← z]; exact hd), fun z => h34 (by rw [← z]; exact hd), fun z => h92 (by rw [← z]; exact hd)⟩
    unfold wd
    rw [if_neg (by rw [g1]; simpa using hc34), h, hp]
    dsimp only
    rw [if_neg (by simp)]
    congr 2
    rw [show i + (c :: w').length - i = (c :: w').length by omega]
    simp
def tot : List (List Nat × List Nat) → Nat
  | [] => 0
  | p :: r => p.1.length + 1 + tot r
def cols : List (List Nat × List Nat) → Nat → List (List Nat × Nat)
  | [], _ => []
  | p :: r, i => (p.2, i + 1) :: cols r (i + p.1.length + 1)
theorem cols_app (p : List Nat × List Nat) : ∀ (fs : List (List Nat × List Nat)) (i : Nat), cols (fs ++ [p]) i = cols fs i ++ [(p.2, i + tot fs + 1)]
  | [], i => by simp [cols, tot]
  | q :: r, i => by
    simp only [List.cons_append, cols, cols_app p r, tot]
    congr 4
    omega
theorem tot_app (p : List Nat × List Nat) : ∀ fs : List (List Nat × List Nat), tot (fs ++ [p]) = tot fs + p.1.length + 1
  | [] => by simp [tot]
  | q :: r => by simp only [List.cons_append, tot, tot_app p r]; omega
theorem glue_cons (p q : List Nat) (r : List (List Nat)) : glueN [32] (p :: q :: r) = p ++ 32 :: glueN [32] (q :: r) := by simp [glueN]
theorem sw_forms : ∀ (fs : List (List Nat × List Nat)) (p : List Nat × List Nat) (i n : Nat) (ws : List (List Nat × Nat)), (∀ q ∈ p :: fs, OkF q.1 q.2) → l.drop i = glueN [32] ((p :: fs).map (·.1)) → fs.length + 1 < n → sw l n i ws = .inr (ws ++ cols (p :: fs) i)
  | [], p, i, n, ws, h, hd, hn => by
    obtain ⟨m, rfl⟩ : ∃ m, n = m + 2 := ⟨n - 2, by simp at hn; omega⟩
    have ok := h p List.mem_cons_self
    have hd' : l.drop i = p.1 ++ [] := by rw [hd]; simp [glueN]
    have hl : l.length = i + p.1.length := by
      have h1 := congrArg List.length hd'
      have h2 : p.1.length ≠ 0 := fun z => ok.ne (List.length_eq_zero_iff.mp z)
      simp at h1; omega
    have h2 : p.1.length ≠ 0 := fun z => ok.ne (List.length_eq_zero_iff.mp z)
    have hw := wd_form hd' ok (.inl rfl)
    unfold sw
    rw [if_pos (by omega), hw]
    dsimp only
    have hb : bdE l (i + p.1.length) = false := by unfold bdE; rw [← hl]; simp
    rw [hb, if_neg (by decide)]
    unfold sw
    rw [if_neg (by omega)]
    rfl
  | q :: fs, p, i, n, ws, h, hd, hn => by
    obtain ⟨m, rfl⟩ : ∃ m, n = m + 1 := ⟨n - 1, by omega⟩
    have ok := h p List.mem_cons_self
    have okq := h q (List.mem_cons_of_mem _ List.mem_cons_self)
    have hd' : l.drop i = p.1 ++ 32 :: glueN [32] ((q :: fs).map (·.1)) := by rw [hd]; exact glue_cons _ _ _
    have hw := wd_form hd' ok (.inr ⟨_, rfl⟩)
    have hd2 : l.drop (i + p.1.length) = 32 :: glueN [32] ((q :: fs).map (·.1)) := by
      rw [← List.drop_drop, hd']; simp
    obtain ⟨g1, g2, g3⟩ := drop_get hd2
    have hi : i < l.length := by omega
    have hgl : (glueN [32] ((q :: fs).map (·.1))).length ≠ 0 := fun z => okq.ne (by
      have := List.length_eq_zero_iff.mp z
      simp [glueN] at this; exact this.1)
    have hlen : l.length = i + p.1.length + 1 + (glueN [32] ((q :: fs).map (·.1))).length := by
      have := congrArg List.length g2
      simp only [List.length_drop] at this; omega
    have hb : bdE l (i + p.1.length) = false := by
      unfold bdE
      rw [g1]
      simp; omega
    unfold sw
    rw [if_pos hi, hw]
    dsimp only
    rw [hb, if_neg (by decide), sw_forms fs q (i + p.1.length + 1) m _ (fun r hr => h r (List.mem_cons_of_mem _ hr)) g2 (by simp at hn ⊢; omega)]
    simp [cols]
theorem sw_all {fs : List (List Nat × List Nat)} {n : Nat} (h : ∀ q ∈ fs, OkF q.1 q.2) (hn : fs.length + 1 < n) : sw (glueN [32] (fs.map (·.1))) n 0 [] = .inr (cols fs 0) := by
  cases fs with
  | nil =>
    obtain ⟨m, rfl⟩ : ∃ m, n = m + 1 := ⟨n - 1, by omega⟩
    simp [sw, glueN, cols]
  | cons p r =>
    rw [sw_forms r p 0 n [] h (by simp) (by simp at hn; omega)]; simp
theorem plains_wD (ws : List (List Nat × Nat)) : D.plains (ws.map wD) = true ∧ D.depths (ws.map wD) < 60 := by
  induction ws with
  | nil => exact ⟨rfl, by decide⟩
  | cons p r ih => exact ⟨by simp [D.plains, D.plain, wD, ih.1], by simp [D.depths, D.depth, wD]; omega⟩
/-- two lists of words -/
theorem eq_ws {M : Mem} {a b : Nat} {ws vs : List (List Nat × Nat)} (ha : M.get a = some (.lst false (ws.map wD))) (hb : M.get b = some (.lst false (vs.map wD))) (h : ws = vs) : eqD (.ref a) (.ref b) M = some true := by
  subst h
  obtain ⟨h1, h2⟩ := plains_wD ws
  simp [eqD, ha, hb, h1, h2]
theorem qt_len (w : List Nat) : (qt w).length ≤ 2 * w.length + 2 := by
  have : (esc w).length ≤ 2 * w.length := by
    induction w with
    | nil => simp [esc]
    | cons c r ih =>
      rw [esc_cons, List.length_append]
      by_cases h : c = 92
      · simp [h]; omega
      · by_cases h2 : c = 34 <;> simp [h, h2] <;> omega
  simp [qt]; omega
theorem wr_len (w : List Nat) : (wr w).length ≤ 2 * w.length + 2 := by
  unfold wr
  split
  · exact qt_len w
  · omega
/-! ### the joined line -/
def HW (Γ : Fns) : Prop := ∀ w M, w.length ≤ 100 → Γ 12 [.str (tx w)] M = .ok (.str (tx (wr w))) M
def HU (Γ : Fns) : Prop := ∀ w M, w.length ≤ 100 → Γ 11 [.str (tx w)] M = .ok (.str (tx (qt w))) M
def HT (Γ : Fns) : Prop := ∀ l M, l.length ≤ 900 → ∃ M', Ext M M' ∧ Rd2 (Γ 10 [.str (tx l)] M) l M'
abbrev je (s t a b : Nat) (c : Int) (k f z : Option D) : Mj.Env := [some (.ref s), some (.ref t), some (.ref a), some (.ref b), some (.int c), k, f, z]
theorem joined_body (hW : HW Γ) (hU : HU Γ) {s t a b k : Nat} {f z : Option D} {ns : List Int} {ws : List (List Nat)} {M : Mem} {fs : List (List Nat × List Nat)} (hs : M.get s = some (.lst false (ws.map fun w => D.str (tx w)))) (ht : M.get t = some (.lst false (ns.map .int)))
    (hw8 : ws.length ≤ 8) (hws : ∀ w ∈ ws, w.length ≤ 11 ∧ ∀ c ∈ w, sgn c = true) (hk : k < ws.length) (ha : M.get a = some (.lst false (fs.map fun p => D.str (tx p.1)))) (hb : M.get b = some (.lst false ((cols fs 0).map wD))) (hab : a ≠ b) (hl1 : fs.length ≤ 8) (hl2 : (cols fs 0).length ≤ 8) (hsa : s ≠ a) :
    ∃ g, (g = wr ws[k] ∨ g = qt ws[k]) ∧ Mj.exec Γ Gg lb__law_joined_1 (je s t a b (tot fs + 1 : Nat) (some (.int k)) f z) M =
      .ok (.nx (je s t a b (tot (fs ++ [(g, ws[k])]) + 1 : Nat) (some (.int k)) (some (.str (tx g))) z)) ((M.set a (.lst false ((fs ++ [(g, ws[k])]).map fun p => D.str (tx p.1)))).set b (.lst false ((cols (fs ++ [(g, ws[k])]) 0).map wD))) := by
  have hA : (fs.map fun p => D.str (tx p.1)).length < sizeLine := by rw [List.length_map, sizeLine_eq]; omega
  have hB : ((cols fs 0).map wD).length < sizeLine := by rw [List.length_map, sizeLine_eq]; omega
  have h2z : (2 : Nat) ≤ sizeLine := by rw [sizeLine_eq]; omega
  have hixS : ∀ M' : Mem, M'.get s = some (.lst false (ws.map fun w => D.str (tx w))) → ixD (.ref s) (.int (k : Int)) M' = some (.str (tx ws[k])) := fun M' h => by
    simp only [ixD, h]
    exact Mj.atI_nat (by rw [List.getElem?_map, List.getElem?_eq_getElem hk]; rfl)
  have hwk := hws _ (List.getElem_mem hk)
  have hix := hixS M hs
  have hWk := hW ws[k] M (by omega)
  have hUk := hU ws[k] M (by omega)
  have n1 := fun x M => mod_c (a := x) (c := 3) (by decide) M
  have hlen := len_lst ht
  simp only [List.length_map] at hlen
  have tail : ∀ g : List Nat, g.length ≤ 100 → Mj.exec Γ Gg (.drop (.bm .append (.v 2) (.cons (.v 6) .nil)) (.drop (.bm .append (.v 3) (.cons (.tup (.cons (.ix (.v 0) (.v 5)) (.cons (.v 4) .nil))) .nil)) (.asg 4 (.bin .Add (.bin .Add (.v 4) (.bi .len (.cons (.v 6) .nil))) (.c (.int 1))) .nil)))
      (je s t a b (tot fs + 1 : Nat) (some (.int k)) (some (.str (tx g))) z) M = .ok (.nx (je s t a b (tot (fs ++ [(g, ws[k])]) + 1 : Nat) (some (.int k)) (some (.str (tx g))) z)) ((M.set a (.lst false ((fs ++ [(g, ws[k])]).map fun p => D.str (tx p.1)))).set b (.lst false ((cols (fs ++ [(g, ws[k])]) 0).map wD))) := by
    intro g hg
    have hb2 : (M.set a (.lst false ((fs.map fun p => D.str (tx p.1)) ++ [D.str (tx g)]))).get b = some (.lst false ((cols fs 0).map wD)) := by rw [Mem.get_set_ne (Ne.symm hab)]; exact hb
    have hs2 := hixS (M.set a (.lst false ((fs.map fun p => D.str (tx p.1)) ++ [D.str (tx g)]))) (by rw [Mem.get_set_ne hsa]; exact hs)
    have hc : ((tot fs + 1 : Nat) : Int) + (g.length : Int) + 1 = ((tot (fs ++ [(g, ws[k])]) + 1 : Nat) : Int) := by rw [tot_app]; simp; omega
    simp only [je, Fd.fm, Mj.exec, ev, evs, evT, R.bind_ok, R.bind_exc, R.bind_bad, R.opt_some, R.lift_some, R.lift_none, List.length_cons, List.length_nil, if_true, List.map_cons, List.map_nil, List.cons_append, List.nil_append, List.append_nil, List.getElem?_cons_zero, List.getElem?_cons_succ, List.set_cons_zero, List.set_cons_succ, List.replicate_succ, List.replicate_zero, Nat.reduceAdd, Nat.reduceSub, Nat.reduceEqDiff, cmpD, thenF, truthD, Bool.false_eq_true, if_false, Bool.not_true, Bool.not_false, Option.map_some, Option.map_none, eq_chr, int_eq, bin_add, bin_sub, decide_true, decide_false, isBt_lst ha, bmT, app_lst ha hA, isBt_lst hb2, hs2, h2z, app_lst hb2 hB, len_tx (sz (show g.length ≤ 1000 by omega)), hc, List.map_append, cols_app, wD, Nat.zero_add]
  have hq1 := qt_len ws[k]
  have hq2 := wr_len ws[k]
  by_cases hkn : k < ns.length
  · have hk' : ((k : Int) < (ns.length : Int)) := by omega
    have hixN : ixD (.ref t) (.int (k : Int)) M = some (.int ns[k]) := by
      simp only [ixD, ht]
      exact Mj.atI_nat (by rw [List.getElem?_map, List.getElem?_eq_getElem hkn]; rfl)
    by_cases h3 : ns[k] % 3 = 0
    · refine ⟨qt ws[k], .inr rfl, ?_⟩
      rw [← tail (qt ws[k]) (by omega)]
      simp only [je, Fd.fm, Mj.exec, ev, evs, evT, R.bind_ok, R.bind_exc, R.bind_bad, R.opt_some, R.lift_some, R.lift_none, List.length_cons, List.length_nil, if_true, List.map_cons, List.map_nil, List.cons_append, List.nil_append, List.append_nil, List.getElem?_cons_zero, List.getElem?_cons_succ, List.set_cons_zero, List.set_cons_succ, List.replicate_succ, List.replicate_zero, Nat.reduceAdd, Nat.reduceSub, Nat.reduceEqDiff, cmpD, thenF, truthD, Bool.false_eq_true, if_false, Bool.not_true, Bool.not_false, Option.map_some, Option.map_none, eq_chr, int_eq, bin_add, bin_sub, decide_true, decide_false, lb__law_joined_1, hix, hWk, hlen, ltD, hk', hixN, int_c, n1, h3, hUk]
    · refine ⟨wr ws[k], .inl rfl, ?_⟩
      rw [← tail (wr ws[k]) (by omega)]
      simp only [je, Fd.fm, Mj.exec, ev, evs, evT, R.bind_ok, R.bind_exc, R.bind_bad, R.opt_some, R.lift_some, R.lift_none, List.length_cons, List.length_nil, if_true, List.map_cons, List.map_nil, List.cons_append, List.nil_append, List.append_nil, List.getElem?_cons_zero, List.getElem?_cons_succ, List.set_cons_zero, List.set_cons_succ, List.replicate_succ, List.replicate_zero, Nat.reduceAdd, Nat.reduceSub, Nat.reduceEqDiff, cmpD, thenF, truthD, Bool.false_eq_true, if_false, Bool.not_true, Bool.not_false, Option.map_some, Option.map_none, eq_chr, int_eq, bin_add, bin_sub, decide_true, decide_false, lb__law_joined_1, hix, hWk, hlen, ltD, hk', hixN, int_c, n1, h3]
  · have hk' : ¬ ((k : Int) < (ns.length : Int)) := by omega
    refine ⟨wr ws[k], .inl rfl, ?_⟩
    rw [← tail (wr ws[k]) (by omega)]
    simp only [je, Fd.fm, Mj.exec, ev, evs, evT, R.bind_ok, R.bind_exc, R.bind_bad, R.opt_some, R.lift_some, R.lift_none, List.length_cons, List.length_nil, if_true, List.map_cons, List.map_nil, List.cons_append, List.nil_append, List.append_nil, List.getElem?_cons_zero, List.getElem?_cons_succ, List.set_cons_zero, List.set_cons_succ, List.replicate_succ, List.replicate_zero, Nat.reduceAdd, Nat.reduceSub, Nat.reduceEqDiff, cmpD, thenF, truthD, Bool.false_eq_true, if_false, Bool.not_true, Bool.not_false, Option.map_some, Option.map_none, eq_chr, int_eq, bin_add, bin_sub, decide_true, decide_false, lb__law_joined_1, hix, hWk, hlen, ltD, hk']
end K58

set_option Elab.async false
set_option linter.all false
set_option autoImplicit false
set_option maxRecDepth 100000
set_option maxHeartbeats 4000000
namespace K58
open PySem PySem.Spec L2 Mj
variable {Γ : Fns} {l : List Nat}
theorem joined_eq {s t : Nat} {ws : List (List Nat)} {M : Mem} (hs : M.get s = some (.lst false (ws.map fun w => D.str (tx w)))) (hw8 : ws.length ≤ 8) :
    d__law_joined.fm Gg Γ [.ref s, .ref t] M = (thenF (forTurns .free (fbd Γ Gg (.n 5) lb__law_joined_1) (rangeD 0 ws.length) (je s t M.size (M.size + 1) ((0 + 1 : Nat) : Int) none none none) ((M.push (.lst false [])).push (.lst false [])))
      (Mj.exec Γ Gg (.asg 7 (.call 10 (.cons (.bm .join (.c (.str " ")) (.cons (.v 2) .nil)) .nil) []) (.ret (.and (.isi .list (.v 7)) (.cmp .Eq (.v 7) (.v 3))))))).bind endF := by
  have x1 : Ext M ((M.push (.lst false [])).push (.lst false [])) := Ext.push.trans Ext.push
  have hl := len_lst (x1.get hs)
  simp only [List.length_map] at hl
  have hsz : (M.push (.lst false [])).size = M.size + 1 := Mem.size_push
  simp only [d__law_joined, c__law_joined, fm_eq, List.length_cons, List.length_nil, if_true, List.map_cons, List.map_nil, List.cons_append, List.nil_append, List.replicate, Nat.reduceAdd, Nat.reduceSub, x_asg, ev, evs, R.bind_ok, Nat.zero_le, sizeLine_eq, List.set_cons_zero, List.set_cons_succ, exec_for, walkR, List.getElem?_cons_zero, List.getElem?_cons_succ]
  have wk := wk_rng (n := ws.length) (by omega) ((M.push (.lst false [])).push (.lst false []))
  rw [hl, R.lift_some, R.bind_ok, wk, R.bind_ok, unl, hsz]
  rfl
theorem glue_len : ∀ fs : List (List Nat × List Nat), (∀ q ∈ fs, q.1.length ≤ 24) → (glueN [32] (fs.map (·.1))).length ≤ 25 * fs.length
  | [], _ => by simp [glueN]
  | [p], h => by have := h p (by simp); simp [glueN]; omega
  | p :: q :: r, h => by
    have h1 := h p (by simp)
    have := glue_len (q :: r) fun x hx => h x (List.mem_cons_of_mem _ hx)
    show (glueN [32] (p.1 :: q.1 :: r.map (·.1))).length ≤ _
    rw [glue_cons]
    simp only [List.map_cons, List.length_cons, List.length_append] at this ⊢
    omega
theorem sum_len : ∀ fs : List (List Nat × List Nat), (∀ q ∈ fs, q.1.length ≤ 24) → ((fs.map (·.1)).map (·.length)).sum ≤ 24 * fs.length
  | [], _ => by simp
  | p :: r, h => by
    have h1 := h p (by simp)
    have := sum_len r fun x hx => h x (List.mem_cons_of_mem _ hx)
    simp only [List.map_cons, List.sum_cons, List.length_cons]; omega
theorem cols_len : ∀ (fs : List (List Nat × List Nat)) (i : Nat), (cols fs i).length = fs.length
  | [], _ => rfl
  | p :: r, i => by simp [cols, cols_len r]
theorem r_joined (hW : HW Γ) (hU : HU Γ) (hT : HT Γ) {s t : Nat} {ns : List Int} {ws : List (List Nat)} {M : Mem} (hs : M.get s = some (.lst false (ws.map fun w => D.str (tx w)))) (ht : M.get t = some (.lst false (ns.map .int)))
    (hw8 : ws.length ≤ 8) (hws : ∀ w ∈ ws, w.length ≤ 11 ∧ ∀ c ∈ w, sgn c = true) : ∃ M', Ext M M' ∧ d__law_joined.fm Gg Γ [.ref s, .ref t] M = .ok (.bl true) M' := by
  have hsM : s < M.size := Mem.lt_of_get hs
  have x1 : Ext M ((M.push (.lst false [])).push (.lst false [])) := Ext.push.trans Ext.push
  have ga : ((M.push (.lst false [])).push (.lst false [])).get M.size = some (.lst false []) := by
    rw [Mem.get_push_ne (by rw [Mem.size_push]; omega)]; exact Mem.get_push_self
  have gb : ((M.push (.lst false [])).push (.lst false [])).get (M.size + 1) = some (.lst false []) := by
    have := Mem.get_push_self (M := M.push (.lst false [])) (o := .lst false [])
    rwa [Mem.size_push] at this
  obtain ⟨σ', M', h1, h2⟩ := for_inv (src := .free) (b := fbd Γ Gg (.n 5) lb__law_joined_1) (I := fun xs σ M1 => (∀ y ∈ xs, ∃ j : Nat, j < ws.length ∧ y = .int j) ∧ ∃ (fs : List (List Nat × List Nat)) (k f z : Option D), σ = je s t M.size (M.size + 1) ((tot fs + 1 : Nat) : Int) k f z ∧ fs.length + xs.length ≤ 8 ∧ (∀ q ∈ fs, OkF q.1 q.2 ∧ q.1.length ≤ 24) ∧ Ext M M1 ∧ M1.get M.size = some (.lst false (fs.map fun p => D.str (tx p.1))) ∧ M1.get (M.size + 1) = some (.lst false ((cols fs 0).map wD)))
    (fun _ _ _ _ => rfl) (fun y xs σ M1 ⟨h, fs, k, f, z, e1, hc, ok, x, g1, g2⟩ => by
      subst e1
      obtain ⟨⟨k, hk, rfl⟩, h'⟩ := mem_range h
      simp only [List.length_cons] at hc
      obtain ⟨g, hg, e2⟩ := joined_body (f := f) (z := z) hW hU (x.get hs) (x.get ht) hw8 hws hk g1 g2 (by omega) (by omega) (by rw [cols_len]; omega) (by omega)
      have hwk := hws _ (List.getElem_mem hk)
      have l1 := qt_len ws[k]
      have l2 := wr_len ws[k]
      have okg : OkF g ws[k] ∧ g.length ≤ 24 := by
        rcases hg with rfl | rfl
        · exact ⟨okf_wr hwk.2, by omega⟩
        · exact ⟨⟨hwk.2, .inl rfl⟩, by omega⟩
      refine ⟨_, _, .inl e2, h', fs ++ [(g, ws[k])], some (.int k), some (.str (tx g)), z, rfl, by simp; omega, fun q hq => ?_, (x.set (Nat.le_refl _)).set (by omega), ?_, ?_⟩
      · rcases List.mem_append.mp hq with h | h
        · exact ok q h
        · simp at h; subst h; exact okg
      · rw [Mem.get_set_ne (by omega)]; exact get_set g1
      · exact get_set (by rw [Mem.get_set_ne (by omega)]; exact g2)) (rangeD 0 ws.length) (je s t M.size (M.size + 1) ((0 + 1 : Nat) : Int) none none none) _ ⟨range_ok _, [], none, none, none, rfl, by simp [rangeD]; omega, by simp, x1, ga, gb⟩
  obtain ⟨_, fs, k, f, z, rfl, hc, ok, x2, g1, g2⟩ := h2
  have ok24 : ∀ q ∈ fs, q.1.length ≤ 24 := fun q hq => (ok q hq).2
  have hgl := glue_len fs ok24
  have hsum := sum_len fs ok24
  simp only [List.length_nil, Nat.add_zero] at hc
  have g1' : M'.get M.size = some (.lst false ((fs.map (·.1)).map fun p => D.str (tx p))) := by rw [List.map_map]; exact g1
  have hj := bm_join_tx (sep := [32]) g1' (by simp at hsum ⊢; omega)
  obtain ⟨M2, x3, r⟩ := hT (glueN [32] (fs.map (·.1))) M' (by omega)
  unfold Rd2 at r
  rw [sw_all (fun q hq => (ok q hq).1) (by unfold fuel; omega)] at r
  obtain ⟨q, r1, r2⟩ := r
  refine ⟨M2, x2.trans x3, ?_⟩
  rw [joined_eq hs hw8, h1]
  have he := eq_ws r2 (x3.get g2) rfl
  have hi : isiD .list (.ref q) M2 = some true := by simp [isiD, r2]
  simp only [then_nx, x_asg, x_ret, je, ev, evs, R.bind_ok, List.getElem?_cons_zero, List.getElem?_cons_succ, List.set_cons_zero, List.set_cons_succ, lx q5, bmT, isBt_str, if_true, hj, R.lift_some, List.append_nil, r1, hi, R.opt_some, truthD, cmpD, he, end_rt]
end K58

set_option Elab.async false
set_option linter.all false
set_option autoImplicit false
set_option maxRecDepth 100000
set_option maxHeartbeats 4000000
namespace K58
open PySem PySem.Spec L2 Mj
variable {Γ : Fns} {l : List Nat}
abbrev rt (j : Nat) : Fns := Mj.run tab j
theorem sg_at (j : Nat) (c : Nat) (M : Mem) : rt (j + 1) 0 [chr c] M = .ok (.bl (sgn c)) M := by
  rw [rt, run_at (i := 0) j rfl]; exact r_sign
theorem HG_at (j : Nat) : HG (rt (j + 1)) := fun c M => by rw [rt, run_at (i := 7) j rfl]; exact r_good
theorem HP_at (j : Nat) : HP (rt (j + 2)) := fun l i M hz hi => by rw [rt, run_at (i := 1) (j + 1) rfl]; exact r_plain hz (sg_at j) hi
theorem HQ_at (j : Nat) : HQ (rt (j + 2)) := fun l i M hz hi => by rw [rt, run_at (i := 2) (j + 1) rfl]; exact r_quoted hz (sg_at j) hi
theorem HS_at (j : Nat) : HS (rt (j + 3)) := fun l M hz => by rw [rt, run_at (i := 3) (j + 2) rfl]; exact r_split hz (HQ_at j) (HP_at j) M
theorem HT_at (j : Nat) : HT (rt (j + 4)) := fun l M hz => by rw [rt, run_at (i := 10) (j + 3) rfl]; exact r_told hz (HS_at j) M
theorem HU_at (j : Nat) : HU (rt (j + 1)) := fun w M hw => by rw [rt, run_at (i := 11) j rfl]; exact r_quot w hw M
theorem HW_at (j : Nat) : HW (rt (j + 2)) := fun w M hw => by rw [rt, run_at (i := 12) (j + 1) rfl]; exact r_written w hw (HU_at j) M
theorem HM_at (j : Nat) : HM (rt (j + 1)) := fun a b M => by rw [rt, run_at (i := 5) j rfl]; exact r_mix a b M
abbrev fe (s q : Nat) (b : Bool) (li du to wo w : Option D) : Mj.Env := [some (.ref s), some (.ref q), some (.bl b), li, du, to, wo, w]
def tst : Ex := .or (.cmp .NotEq (.v 5) (.v 4)) (.or (.cmp .NotEq (.isi .list (.v 5)) (.isi .list (.v 4))) (.isi .bool (.v 5)))
theorem eq_bl (a b : Bool) (M : Mem) : eqD (.bl a) (.bl b) M = some (decide (a = b)) := rfl
theorem test_ok {s q : Nat} {b : Bool} {li wo w : Option D} {M3 M4 : Mem} {x y : D} {ra rb : R D} (x34 : Ext M3 M4) (h1 : Rd2 ra l M3) (h2 : Rd2 rb l M4) (e1 : ra = .ok x M3) (e2 : rb = .ok y M4) : evT Γ Gg tst (fe s q b li (some x) (some y) wo w) M4 = .ok false M4 := by
  unfold Rd2 at h1 h2
  cases hs : sw l fuel 0 [] with
  | inl k =>
    rw [hs] at h1 h2
    dsimp only at h1 h2
    rw [e1] at h1; rw [e2] at h2
    cases h1; cases h2
    simp only [tst, fe, evT, ev, R.bind_ok, List.getElem?_cons_zero, List.getElem?_cons_succ, cmpD, int_eq, decide_true, Option.map_some, Bool.not_true, R.opt_some, truthD, Bool.false_eq_true, if_false, isiD, eq_bl]
    rfl
  | inr ws =>
    rw [hs] at h1 h2
    obtain ⟨d, g1, k1⟩ := h1
    obtain ⟨t, g2, k2⟩ := h2
    rw [e1] at g1; rw [e2] at g2
    cases g1; cases g2
    have he := eq_ws k2 (x34.get k1) rfl
    have hi : ∀ ty, isiD ty (.ref t) M4 = some (decide (ty = .list)) := fun ty => by simp [isiD, k2]
    have hj : ∀ ty, isiD ty (.ref d) M4 = some (decide (ty = .list)) := fun ty => by simp [isiD, x34.get k1]
    simp only [tst, fe, evT, ev, R.bind_ok, List.getElem?_cons_zero, List.getElem?_cons_succ, cmpD, he, Option.map_some, Bool.not_true, R.opt_some, truthD, Bool.false_eq_true, if_false, hi, hj, eq_bl, decide_true]
    rfl
theorem word_body (hWr : ∀ w M, w.length ≤ 100 → Γ 4 [.str (tx w)] M = .ok (.str (tx (wr w))) M) (hW : HW Γ) (hT : HT Γ) {s q : Nat} {b : Bool} {li du to wo : Option D} {w : List Nat} (hw : w.length ≤ 11) (hs : ∀ c ∈ w, sgn c = true) {M : Mem} :
    ∃ M', Ext M M' ∧ Mj.exec Γ Gg lb_law_1 (fe s q b li du to wo (some (.str (tx w)))) M = .ok (.nx (fe s q b li du to wo (some (.str (tx w))))) M' := by
  have l2 := wr_len w
  obtain ⟨M1, x1, r⟩ := hT (wr w) M (by omega)
  unfold Rd2 at r
  have hsw := sw_all (fs := [(wr w, w)]) (n := fuel) (by intro p hp; simp at hp; subst hp; exact okf_wr hs) (by unfold fuel; simp)
  have hg1 : glueN [32] ([(wr w, w)].map (·.1)) = wr w := by simp [glueN]
  rw [hg1] at hsw
  rw [hsw] at r
  obtain ⟨t, r1, r2⟩ := r
  have x2 : Ext M1 (M1.push (.lst false [.tup [.str (tx w), .int 1]])) := Ext.push
  have gn : (M1.push (.lst false [.tup [.str (tx w), .int 1]])).get M1.size = some (.lst false ([(w, 0 + 1)].map wD)) := Mem.get_push_self
  have he := eq_ws (x2.get r2) gn rfl
  refine ⟨_, x1.trans x2, ?_⟩
  have h1z : (1 : Nat) ≤ sizeLine := by rw [sizeLine_eq]; omega
  have h2z : (2 : Nat) ≤ sizeLine := by rw [sizeLine_eq]; omega
  simp only [fe, lb_law_1, x_iff, x_nil, evT, ev, evs, R.bind_ok, List.getElem?_cons_zero, List.getElem?_cons_succ, List.append_nil, hWr w M (by omega), hW w M (by omega), cmpD, eq_tx, decide_true, Option.map_some, Bool.not_true, R.opt_some, truthD, Bool.false_eq_true, if_false, r1, List.length_cons, List.length_nil, Nat.zero_add, Nat.reduceAdd, h1z, h2z, if_true, he, then_nx]
theorem q6 : ("\"\"" : Str) = tx [34, 34] := by decide +kernel
theorem words_loop (hWr : ∀ w M, w.length ≤ 100 → Γ 4 [.str (tx w)] M = .ok (.str (tx (wr w))) M) (hW : HW Γ) (hT : HT Γ) {s q g : Nat} {b : Bool} {li du to : Option D} {ws : List (List Nat)} {M : Mem} (hg : M.get g = some (.lst false (ws.map fun w => D.str (tx w)))) (hws : ∀ w ∈ ws, w.length ≤ 11 ∧ ∀ c ∈ w, sgn c = true) :
    ∃ M' z, Ext M M' ∧ forTurns (.list g (ws.map fun w => D.str (tx w))) (fbd Γ Gg (.n 7) lb_law_1) (ws.map fun w => D.str (tx w)) (fe s q b li du to (some (.ref g)) none) M = .ok (.nx (fe s q b li du to (some (.ref g)) z)) M' := by
  obtain ⟨σ', M', h1, h2⟩ := for_inv (src := .list g (ws.map fun w => D.str (tx w))) (b := fbd Γ Gg (.n 7) lb_law_1) (I := fun xs σ M1 => ∃ (vs : List (List Nat)) (z : Option D), xs = vs.map (fun w => D.str (tx w)) ∧ (∀ w ∈ vs, w.length ≤ 11 ∧ ∀ c ∈ w, sgn c = true) ∧ σ = fe s q b li du to (some (.ref g)) z ∧ Ext M M1)
    (fun xs σ M1 ⟨vs, z, _, _, _, x1⟩ => by simp [Src.stands, x1.get hg]) (fun y xs σ M1 ⟨vs, z, e1, hv, e2, x1⟩ => by
      subst e2
      cases vs with
      | nil => cases e1
      | cons v vs =>
        simp only [List.map_cons, List.cons.injEq] at e1
        obtain ⟨rfl, rfl⟩ := e1
        obtain ⟨M', x2, e⟩ := word_body (s := s) (q := q) (b := b) (li := li) (du := du) (to := to) (wo := some (.ref g)) (M := M1) hWr hW hT (hv v List.mem_cons_self).1 (hv v List.mem_cons_self).2
        exact ⟨_, M', .inl e, vs, _, rfl, fun w hw => hv w (List.mem_cons_of_mem _ hw), rfl, x1.trans x2⟩) (ws.map fun w => D.str (tx w)) (fe s q b li du to (some (.ref g)) none) M ⟨ws, none, rfl, hws, rfl, Ext.refl⟩
  obtain ⟨_, z, _, _, rfl, x2⟩ := h2
  exact ⟨M', z, x2, h1⟩
def retE : Ex := .and (.call 14 (.cons (.v 6) (.cons (.v 1) .nil)) []) (.and (.cmp .Eq (.call 3 (.cons (.c (.str "")) .nil) []) (.lst .nil)) (.cmp .Eq (.call 4 (.cons (.c (.str "")) .nil) []) (.c (.str "\"\""))))
theorem plain (ns : List Int) (lk : Bool) (h : ns.length ≤ 63) : ∃ M', d_law.fm Gg (Mj.run tab 8) [.ref 0] ⟨[.lst lk (ns.map .int)]⟩ = .ok (.bl true) M' := by
  have hs : (⟨[.lst lk (ns.map .int)]⟩ : Mem).get 0 = some (.lst lk (ns.map .int)) := rfl
  generalize (⟨[.lst lk (ns.map .int)]⟩ : Mem) = M0 at hs ⊢
  -- the row
  obtain ⟨q, M1, x1, ⟨nv, n1, n2, n3⟩, e1⟩ : ∃ q M', Ext M0 M' ∧ Row M' q 120 ∧ rt 8 6 [.ref 0, .int 120] M0 = .ok (.ref q) M' := by
    obtain ⟨q, M', a, b, c⟩ := r_row (Γ := rt 7) (HM_at 6) (most := 120) (by omega) hs h
    exact ⟨q, M', a, b, by rw [rt, run_at (i := 6) 7 rfl]; exact c⟩
  -- the line
  have line : ∀ (b : Bool) (M : Mem), M.get q = some (.lst false (nv.map .int)) → ∃ (l : List Nat) (M' : Mem), Ext M M' ∧ l.length ≤ 120 ∧ (b = false → ∀ c ∈ l, sgn c = true) ∧ rt 8 8 [.ref q, .bl b] M = .ok (.str (tx l)) M' := fun b M hq => by
    rw [rt, run_at (i := 8) 7 rfl]; exact r_line (by omega) hq n1 n2
  obtain ⟨b, hb⟩ : ∃ b : Bool, decide ((ns.length : Int) % 3 = 1) = b := ⟨_, rfl⟩
  obtain ⟨l, M2, x2, hl, _, e2⟩ := line b M1 n3
  obtain ⟨M3, x3, r3⟩ : ∃ M', Ext M2 M' ∧ Rd2 (rt 8 9 [.str (tx l)] M2) l M' := by
    rw [rt, run_at (i := 9) 7 rfl]; exact r_read (by omega) (HG_at 6) M2
  obtain ⟨M4, x4, r4⟩ := HT_at 4 l M3 (by omega)
  obtain ⟨x, ex⟩ : ∃ x, rt 8 9 [.str (tx l)] M2 = .ok x M3 := by
    have := r3
    unfold Rd2 at this
    cases hsw : sw l fuel 0 [] with
    | inl k => rw [hsw] at this; exact ⟨_, this⟩
    | inr ws => rw [hsw] at this; obtain ⟨d, g, _⟩ := this; exact ⟨_, g⟩
  obtain ⟨y, ey⟩ : ∃ y, rt 8 10 [.str (tx l)] M3 = .ok y M4 := by
    have := r4
    unfold Rd2 at this
    cases hsw : sw l fuel 0 [] with
    | inl k => rw [hsw] at this; exact ⟨_, this⟩
    | inr ws => rw [hsw] at this; obtain ⟨d, g, _⟩ := this; exact ⟨_, g⟩
  have htest := fun wo w => test_ok (Γ := rt 8) (s := 0) (q := q) (b := b) (li := some (.str (tx l))) (wo := wo) (w := w) x4 r3 r4 ex ey
  have n4 := x4.get (x3.get (x2.get n3))
  obtain ⟨l2, M5, x5, hl2, hg2, e5⟩ := line false M4 n4
  obtain ⟨g, M6, ws, x6, ⟨w1, w2, w3⟩, e6⟩ : ∃ g M' ws, Ext M5 M' ∧ Ws M' g l2 ws ∧ rt 8 13 [.str (tx l2), .ref q] M5 = .ok (.ref g) M' := by
    rw [rt, run_at (i := 13) 7 rfl]; exact r_words (by omega) (x5.get n4) n2
  have hws : ∀ w ∈ ws, w.length ≤ 11 ∧ ∀ c ∈ w, sgn c = true := fun w hw => ⟨(w2 w hw).1, fun c hc => hg2 rfl c ((w2 w hw).2 c hc)⟩
  have hWr : ∀ w M, w.length ≤ 100 → rt 8 4 [.str (tx w)] M = .ok (.str (tx (wr w))) M := fun w M hw => by
    rw [rt, run_at (i := 4) 7 rfl]; exact r_write w hw M
  obtain ⟨M7, z, x7, e7⟩ := words_loop (Γ := rt 8) (s := 0) (q := q) (b := b) (li := some (.str (tx l))) (du := some x) (to := some y) hWr (HW_at 6) (HT_at 4) w3 hws
  obtain ⟨M8, x8, e8⟩ : ∃ M', Ext M7 M' ∧ rt 8 14 [.ref g, .ref q] M7 = .ok (.bl true) M' := by
    rw [rt, run_at (i := 14) 7 rfl]; exact r_joined (HW_at 5) (HU_at 6) (HT_at 3) (x7.get w3) (x7.get (x6.get (x5.get n4))) w1 hws
  obtain ⟨M9, x9, r9⟩ := HS_at 5 [] M8 (by simp)
  have hsw0 : sw [] fuel 0 [] = .inr [] := sw_all (fs := []) (by simp) (by unfold fuel; simp)
  rw [hsw0] at r9
  obtain ⟨t, e9, k9⟩ := r9
  have xa : Ext M9 (M9.push (.lst false [])) := Ext.push
  have heq := eq_ws (ws := []) (vs := []) (xa.get k9) (Mem.get_push_self (M := M9) (o := .lst false [])) rfl
  have e10 := hWr [] (M9.push (.lst false [])) (by simp)
  have hwr0 : wr [] = [34, 34] := by decide
  refine ⟨M9.push (.lst false []), ?_⟩
  have hlen := len_lst hs
  simp only [List.length_map] at hlen
  have m3 := mod_c (a := (ns.length : Int)) (c := 3) (by decide) M1
  have hlen1 := len_lst (x1.get hs)
  simp only [List.length_map] at hlen1
  have wk : R.opt (walkD .seqL (.ref g) .non M6) M6 = .ok (.list g (ws.map fun w => D.str (tx w)), ws.map fun w => D.str (tx w)) M6 := by simp only [walkD, w3, R.opt_some]
  rw [show d_law = ⟨1, 8, .asg 1 (.call 6 (.cons (.v 0) (.cons (.c (.int 120)) .nil)) []) (.asg 2 (.cmp .Eq (.bin .Mod (.bi .len (.cons (.v 0) .nil)) (.c (.int 3))) (.c (.int 1))) (.asg 3 (.call 8 (.cons (.v 1) (.cons (.v 2) .nil)) []) (.asg 4 (.call 9 (.cons (.v 3) .nil) []) (.asg 5 (.call 10 (.cons (.v 3) .nil) []) (.iff tst (.ret (.c (.bl false))) .nil (.asg 6 (.call 13 (.cons (.call 8 (.cons (.v 1) (.cons (.c (.bl false)) .nil)) []) (.cons (.v 1) .nil)) []) (.for (.n 7) .seqL (.v 6) .no lb_law_1 (.ret retE))))))))⟩ from rfl]
  have e1' : Mj.run tab 8 6 [.ref 0, .int 120] M0 = .ok (.ref q) M1 := e1
  have e2' : Mj.run tab 8 8 [.ref q, .bl b] M1 = .ok (.str (tx l)) M2 := e2
  have ex' : Mj.run tab 8 9 [.str (tx l)] M2 = .ok x M3 := ex
  have ey' : Mj.run tab 8 10 [.str (tx l)] M3 = .ok y M4 := ey
  have e5' : Mj.run tab 8 8 [.ref q, .bl false] M4 = .ok (.str (tx l2)) M5 := e5
  have e6' : Mj.run tab 8 13 [.str (tx l2), .ref q] M5 = .ok (.ref g) M6 := e6
  have ht' : evT (Mj.run tab 8) Gg tst [some (.ref 0), some (.ref q), some (.bl b), some (.str (tx l)), some x, some y, none, none] M4 = .ok false M4 := htest none none
  simp only [fm_eq, List.length_cons, List.length_nil, Nat.zero_add, if_true, List.map_cons, List.map_nil, List.cons_append, List.nil_append, List.replicate, Nat.reduceSub, x_asg, x_iff, x_nil, ev, evs, R.bind_ok, List.append_nil, List.getElem?_cons_zero, List.getElem?_cons_succ, List.set_cons_zero, List.set_cons_succ, e1', hlen1, R.lift_some, m3, cmpD, int_eq, hb, R.opt_some, e2', ex', ey', ht', Bool.false_eq_true, if_false, then_nx, e5', e6', exec_for, walkR]
  rw [wk, R.bind_ok, unlL]
  show (thenF (forTurns (.list g (ws.map fun w => D.str (tx w))) (fbd (rt 8) Gg (.n 7) lb_law_1) (ws.map fun w => D.str (tx w)) (fe 0 q b (some (.str (tx l))) (some x) (some y) (some (.ref g)) none) M6) (Mj.exec (rt 8) Gg (.ret retE))).bind endF = _
  rw [e7, then_nx]
  have e8' : Mj.run tab 8 14 [.ref g, .ref q] M7 = .ok (.bl true) M8 := e8
  have e9' : Mj.run tab 8 3 [.str (tx [])] M8 = .ok (.ref t) M9 := e9
  have e10' : Mj.run tab 8 4 [.str (tx [])] (M9.push (.lst false [])) = .ok (.str (tx [34, 34])) (M9.push (.lst false [])) := by rw [← hwr0]; exact e10
  simp only [x_ret, retE, fe, ev, evs, R.bind_ok, List.append_nil, List.getElem?_cons_zero, List.getElem?_cons_succ, e8', truthD, R.opt_some, if_true, lx l_em, lx q6, e9', List.length_nil, sizeLine_eq, Nat.zero_le, cmpD, heq, e10', eq_tx, decide_true, end_rt]
end K58

namespace K58
open PySem PySem.Spec L2 PyProof.Rows Mj
theorem walk {l : PySem.W.OpenLaw} {q : Program} {loose : List Str} {XP : (Str → Option Value) → Heap → Prop} {YP : World → Heap → Prop} {d : DefRec} {K : Params → PySem.W.Frag} (hn : l.most = some 63) (hdf : d.params.defaults = [])
    (hY : ∀ (w : World) (h : Heap), YP w h → (K w.params).In h) (hl : ∀ w : World, noList (K w.params) = true)
    (F : ∀ (w : World) (mg : Str → Option Value) (fa : Addr) (h : Heap), (K w.params).In h → h.Ns mainGlobals mg → mg d.name = some (.ref fa) →
      ∃ fd : FuncData, (∀ (s : Shared) (u : Value), BindsTo s fd ⟨[u], []⟩ [("_law_script", u)]) ∧ ∀ base : Heap, (K w.params).In base → base.Ns mainGlobals mg → FnOk l.prog w (K w.params) mg base (L2.CX l.prog w) (2 * 8 + 4) fa fd ["_law_script"] (fun vs H Q _ => ∃ (a : Addr) (ns : List Int), vs = [.ref a] ∧ Rd H a (.lst (ns.map V.int)) ∧ ns.length ≤ 63 ∧ ∀ H', Q (.bl true) H')) :
    PySem.W.WalkO q loose XP YP l.row.toRowW d [] (fun f vs => PySem.call f vs) :=
  L2.walk_of (n := 63) (k := 2 * 8 + 4) (x := "_law_script") (CX := fun w => L2.CX l.prog w) (sp := fun w vs H Q _ => ∃ (a : Addr) (ns : List Int), vs = [.ref a] ∧ Rd H a (.lst (ns.map V.int)) ∧ ns.length ≤ 63 ∧ ∀ H', Q (.bl true) H') hn (by decide) hdf ⟨rfl, by decide, by decide⟩ hY F
    (fun w _ a ns hle _ hS => ⟨a, ns, rfl, rd_of (hl w) hS, hle, fun _ => rfl⟩) fun _ _ _ _ _ ⟨_, _, _, _, _, _, _, _, _, _, _, _, z⟩ => z
end K58
open PySem PySem.W PyProof.Rows
set_option maxRecDepth 100000 in
set_option maxHeartbeats 0 in
theorem PySem.Challenge.cw_majordomo_k58_words_of_a_line_holds : PySem.Challenge.rw_majordomo_k58_words_of_a_line.Holds := by
  w_on; o_law; k_head; (case hw => w_witness2)
  k_fill
  refine K58.walk (l := PySem.Challenge.rw_majordomo_k58_words_of_a_line) rfl rfl (fun w h Y => PySem.W.kIn_of Y) ?L ?F
  case L => intro w; first | rfl | decide +kernel | kernel_rfl
  case F =>
    intro w mg fa h KX G hmg
    refine' K58.all_mk KX G hmg ?a0 ?l0 ?c0 ?k0 ?a1 ?l1 ?c1 ?k1 ?a2 ?l2 ?c2 ?k2 ?a3 ?l3 ?c3 ?k3 ?a4 ?l4 ?c4 ?k4 ?a5 ?l5 ?c5 ?k5 ?a6 ?l6 ?c6 ?k6 ?a7 ?l7 ?c7 ?k7 ?a8 ?l8 ?c8 ?k8 ?a9 ?l9 ?c9 ?k9 ?a10 ?l10 ?c10 ?k10 ?a11 ?l11 ?c11 ?k11 ?a12 ?l12 ?c12 ?k12 ?a13 ?l13 ?c13 ?k13 ?a14 ?l14 ?c14 ?k14 ?a15 ?l15 ?c15 ?k15 ?z_bool ?z_int ?z_isinstance ?z_len ?z_list ?z_min ?z_ord ?z_range ?g1 ?g2 ?g3 ?g4 ?xL ?sa ?ex4 ?ty4 ?kp4 ?no4 ?ai ?ti ?li ?ci ?ki ?gaB ?rdB ?fcB ?ic4 ?ga4 ?gg4 ?cl4 ?sp4 ?tk4 ?mr4 ?hd4 ?em4 ?kc4 ?km4 K58.plain
    (case a0 => first | k_is | rfl)
    (case l0 => first | k_is | rfl)
    (case c0 => first | k_is | rfl)
    (case k0 => first | k_is | rfl)
    (case a1 => first | k_is | rfl)
    (case l1 => first | k_is | rfl)
    (case c1 => first | k_is | rfl)
    (case k1 => first | k_is | rfl)
    (case a2 => first | k_is | rfl)
    (case l2 => first | k_is | rfl)
    (case c2 => first | k_is | rfl)
    (case k2 => first | k_is | rfl)
    (case a3 => first | k_is | rfl)
    (case l3 => first | k_is | rfl)
    (case c3 => first | k_is | rfl)
    (case k3 => first | k_is | rfl)
    (case a4 => first | k_is | rfl)
    (case l4 => first | k_is | rfl)
    (case c4 => first | k_is | rfl)
    (case k4 => first | k_is | rfl)
    (case a5 => first | k_is | rfl)
    (case l5 => first | k_is | rfl)
    (case c5 => first | k_is | rfl)
    (case k5 => first | k_is | rfl)
    (case a6 => first | k_is | rfl)
    (case l6 => first | k_is | rfl)
    (case c6 => first | k_is | rfl)
    (case k6 => first | k_is | rfl)
    (case a7 => first | k_is | rfl)
    (case l7 => first | k_is | rfl)
    (case c7 => first | k_is | rfl)
    (case k7 => first | k_is | rfl)
    (case a8 => first | k_is | rfl)
    (case l8 => first | k_is | rfl)
    (case c8 => first | k_is | rfl)
    (case k8 => first | k_is | rfl)
    (case a9 => first | k_is | rfl)
    (case l9 => first | k_is | rfl)
    (case c9 => first | k_is | rfl)
    (case k9 => first | k_is | rfl)
    (case a10 => first | k_is | rfl)
    (case l10 => first | k_is | rfl)
    (case c10 => first | k_is | rfl)
    (case k10 => first | k_is | rfl)
    (case a11 => first | k_is | rfl)
    (case l11 => first | k_is | rfl)
    (case c11 => first | k_is | rfl)
    (case k11 => first | k_is | rfl)
    (case a12 => first | k_is | rfl)
    (case l12 => first | k_is | rfl)
    (case c12 => first | k_is | rfl)
    (case k12 => first | k_is | rfl)
    (case a13 => first | k_is | rfl)
    (case l13 => first | k_is | rfl)
    (case c13 => first | k_is | rfl)
    (case k13 => first | k_is | rfl)
    (case a14 => first | k_is | rfl)
    (case l14 => first | k_is | rfl)
    (case c14 => first | k_is | rfl)
    (case k14 => first | k_is | rfl)
    (case a15 => first | k_is | rfl)
    (case l15 => first | k_is | rfl)
    (case c15 => first | k_is | rfl)
    (case k15 => first | k_is | rfl)
    (case z_bool => first | k_is | rfl)
    (case z_int => first | k_is | rfl)
    (case z_isinstance => first | k_is | rfl)
    (case z_len => first | k_is | rfl)
    (case z_list => first | k_is | rfl)
    (case z_min => first | k_is | rfl)
    (case z_ord => first | k_is | rfl)
    (case z_range => first | k_is | rfl)
    (case g1 => first | k_is | rfl)
    (case g2 => first | k_is | rfl)
    (case g3 => first | k_is | rfl)
    (case g4 => first | k_is | rfl)
    (case xL => first | k_is | rfl)
    (case sa => first | k_is | rfl)
    (case ex4 => first | k_is | rfl)
    (case ty4 => first | k_is | rfl)
    (case kp4 => first | k_is | rfl)
    (case no4 => first | k_is | rfl)
    (case ai => first | k_is | rfl)
    (case ti => first | k_is | rfl)
    (case li => first | k_is | rfl)
    (case ci => first | k_is | rfl)
    (case ki => first | k_is | rfl)
    (case gaB => first | k_is | rfl)
    (case rdB => first | k_is | rfl)
    (case fcB => first | k_is | rfl)
    (case ic4 => first | k_is | rfl)
    (case ga4 => first | k_is | rfl)
    (case gg4 => first | k_is | rfl)
    (case cl4 => first | k_is | rfl)
    (case sp4 => first | k_is | rfl)
    (case tk4 => first | k_is | rfl)
    (case mr4 => first | k_is | rfl)
    (case hd4 => first | k_is | rfl)
    (case em4 => first | k_is | rfl)
    (case kc4 => first | k_is | rfl)
    (case km4 => first | k_is | rfl)
