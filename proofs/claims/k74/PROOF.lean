import PyProof.Rows.All
import Wide.All
import OpenK.AllK
import Wide.FinOn
import HandS.ForMost
import HandS.Wide
import HandS.SortInts
import HandS.DictComp
import HandS.Style
import HandS.Conv
import HandS.Flow
import HandS.Zip
import HandS.Deep
import HandS.IsInst
import HandS.Small
import PySem.Challenge.RW_deepdigits_k74_whole_heights_of_choices
set_option Elab.async false
set_option linter.all false
set_option maxRecDepth 100000
set_option maxHeartbeats 4000000
namespace PL
open PySem PySem.Spec PyProof.Rows L2
/-! ### plain data and what stands for it -/
abbrev D := PyData
abbrev St := L2.St
def kD : Key → D
  | .inl i => .int i
  | .inr x => .str x
def ktD (ks : List Key) : D := .tuple (ks.map kD)
inductive Rep (K : PySem.W.Frag) (G : Hp) : V → D → Prop
  | non : Rep K G .non .none
  | bl (b : Bool) : Rep K G (.bl b) (.bool b)
  | int (i : Int) : Rep K G (.int i) (.int i)
  | str (x : Str) : Rep K G (.str x) (.str x)
  | lst {a : Addr} {xs : List V} {ds : List D} (h : Rd G a (.lst xs)) (hl : xs.length = ds.length)
      (hi : ∀ (i : Nat) (x : V) (d : D), xs[i]? = some x → ds[i]? = some d → Rep K G x d) : Rep K G (.ref a) (.list ds)
  | tup {a : Addr} {xs : List V} {ds : List D} (h : G a = some (.tup xs)) (hl : xs.length = ds.length)
      (hi : ∀ (i : Nat) (x : V) (d : D), xs[i]? = some x → ds[i]? = some d → Rep K G x d) : Rep K G (.ref a) (.tuple ds)
  | dk {a : Addr} {kvs : List (Key × V)} {ps : List (D × D)} (h : G a = some (.dK kvs)) (hl : kvs.length = ps.length) (hk : ps.map (·.1) = kvs.map fun p => kD p.1)
      (hi : ∀ (i : Nat) (x : V) (d : D), (kvs.map (·.2))[i]? = some x → (ps.map (·.2))[i]? = some d → Rep K G x d) : Rep K G (.ref a) (.dict ps)
  | dt {a : Addr} {kvs : List (List Key × V)} {ps : List (D × D)} (h : G a = some (.dT kvs)) (hl : kvs.length = ps.length) (hk : ps.map (·.1) = kvs.map fun p => ktD p.1)
      (hi : ∀ (i : Nat) (x : V) (d : D), (kvs.map (·.2))[i]? = some x → (ps.map (·.2))[i]? = some d → Rep K G x d) : Rep K G (.ref a) (.dict ((.none, .none) :: ps))
structure RepL (K : PySem.W.Frag) (G : Hp) (xs : List V) (ds : List D) : Prop where
  len : xs.length = ds.length
  at_ : ∀ (i : Nat) (x : V) (d : D), xs[i]? = some x → ds[i]? = some d → Rep K G x d
theorem Same.seqT {K : PySem.W.Frag} {H H' : Hp} {a : Addr} {xs : List V} (e : Same H H') (h : SqT K H a xs) : SqT K H' a xs := by
  rcases h with (h | ⟨o, h⟩) | h
  · exact .inl (.inl (e _ _ h))
  · exact .inl (.inr ⟨o, e _ _ h⟩)
  · exact .inr h
section
variable {K : PySem.W.Frag} {G G' H H' B : Hp}
theorem Rd.mono (e : Same G G') {a : Addr} {o : HO} (h : Rd G a o) : Rd G' a o := by
  rcases h with h | ⟨o, h⟩
  · exact .inl (e _ _ h)
  · exact .inr ⟨o, e _ _ h⟩
theorem Rep.mono (e : Same G G') {v : V} {d : D} (h : Rep K G v d) : Rep K G' v d := by
  induction h with
  | non => exact .non
  | bl b => exact .bl b
  | int i => exact .int i
  | str x => exact .str x
  | lst h hl _ ih => exact .lst (Rd.mono e h) hl ih
  | tup h hl _ ih => exact .tup (e _ _ h) hl ih
  | dk h hl hk _ ih => exact .dk (e _ _ h) hl hk ih
  | dt h hl hk _ ih => exact .dt (e _ _ h) hl hk ih
theorem RepL.mono (e : Same G G') {xs : List V} {ds : List D} (h : RepL K G xs ds) : RepL K G' xs ds := ⟨h.len, fun i x d h1 h2 => (h.at_ i x d h1 h2).mono e⟩
theorem RepL.nil : RepL K G [] [] := ⟨rfl, fun i x d h => by simp at h⟩
theorem RepL.cons {x : V} {d : D} {xs : List V} {ds : List D} (h : Rep K G x d) (t : RepL K G xs ds) : RepL K G (x :: xs) (d :: ds) := by
  refine ⟨by simp [t.len], fun i y e h1 h2 => ?_⟩
  cases i with
  | zero => simp at h1 h2; subst h1; subst h2; exact h
  | succ i => exact t.at_ i y e (by simpa using h1) (by simpa using h2)
theorem RepL.head {x : V} {d : D} {xs : List V} {ds : List D} (h : RepL K G (x :: xs) (d :: ds)) : Rep K G x d := h.at_ 0 x d rfl rfl
theorem RepL.tail {x : V} {d : D} {xs : List V} {ds : List D} (h : RepL K G (x :: xs) (d :: ds)) : RepL K G xs ds :=
  ⟨by simpa using h.len, fun i y e h1 h2 => h.at_ (i + 1) y e (by simpa using h1) (by simpa using h2)⟩
theorem RepL.consInv {xs : List V} {d : D} {ds : List D} (h : RepL K G xs (d :: ds)) : ∃ x xr, xs = x :: xr ∧ Rep K G x d ∧ RepL K G xr ds := by
  cases xs with
  | nil => exact absurd h.len (by simp)
  | cons x xr => exact ⟨x, xr, rfl, h.head, h.tail⟩
theorem RepL.nilInv {xs : List V} (h : RepL K G xs []) : xs = [] := by
  cases xs with
  | nil => rfl
  | cons x xr => exact absurd h.len (by simp)
theorem RepL.app {xs ys : List V} {ds es : List D} (h : RepL K G xs ds) (t : RepL K G ys es) : RepL K G (xs ++ ys) (ds ++ es) := by
  induction xs generalizing ds with
  | nil => cases ds with
    | nil => exact t
    | cons d ds => exact absurd h.len (by simp)
  | cons x xs ih => cases ds with
    | nil => exact absurd h.len (by simp)
    | cons d ds => exact RepL.cons h.head (ih h.tail)
theorem RepL.snoc {xs : List V} {ds : List D} {x : V} {d : D} (h : RepL K G xs ds) (t : Rep K G x d) : RepL K G (xs ++ [x]) (ds ++ [d]) := h.app (RepL.cons t .nil)
theorem RepL.get {xs : List V} {ds : List D} (h : RepL K G xs ds) {i : Nat} {d : D} (e : ds[i]? = some d) : ∃ x, xs[i]? = some x ∧ Rep K G x d := by
  have hi : i < ds.length := (List.getElem?_eq_some_iff.mp e).1
  have hx : i < xs.length := by rw [h.len]; exact hi
  exact ⟨xs[i], List.getElem?_eq_getElem hx, h.at_ i _ _ (List.getElem?_eq_getElem hx) e⟩
theorem RepL.drop {xs : List V} {ds : List D} (h : RepL K G xs ds) (n : Nat) : RepL K G (xs.drop n) (ds.drop n) :=
  ⟨by simp [h.len], fun i x d h1 h2 => h.at_ (n + i) x d (by simpa using h1) (by simpa using h2)⟩
theorem RepL.take {xs : List V} {ds : List D} (h : RepL K G xs ds) (n : Nat) : RepL K G (xs.take n) (ds.take n) := by
  refine ⟨by simp [h.len], fun i x d h1 h2 => ?_⟩
  rw [List.getElem?_take] at h1 h2
  split at h1
  · rw [if_pos (by assumption)] at h2; exact h.at_ i x d h1 h2
  · cases h1
theorem RepL.set {xs : List V} {ds : List D} (h : RepL K G xs ds) (n : Nat) {x : V} {d : D} (r : Rep K G x d) : RepL K G (xs.set n x) (ds.set n d) := by
  refine ⟨by simp [h.len], fun i y e h1 h2 => ?_⟩
  rw [List.getElem?_set] at h1 h2
  by_cases hn : n = i
  · rw [if_pos hn] at h1 h2
    split at h1
    · split at h2
      · cases h1; cases h2; exact r
      · cases h2
    · cases h1
  · rw [if_neg hn] at h1 h2
    exact h.at_ i y e h1 h2
theorem RepL.reverse {xs : List V} {ds : List D} (h : RepL K G xs ds) : RepL K G xs.reverse ds.reverse := by
  refine ⟨by simp [h.len], fun i x d h1 h2 => ?_⟩
  have hi : i < xs.length := by have := (List.getElem?_eq_some_iff.mp h1).1; simpa using this
  rw [List.getElem?_reverse hi] at h1
  rw [List.getElem?_reverse (by rw [← h.len]; exact hi), ← h.len] at h2
  exact h.at_ _ x d h1 h2
theorem RepL.eraseIdx {xs : List V} {ds : List D} (h : RepL K G xs ds) (n : Nat) : RepL K G (xs.eraseIdx n) (ds.eraseIdx n) := by
  rw [List.eraseIdx_eq_take_drop_succ, List.eraseIdx_eq_take_drop_succ]
  exact (h.take n).app (h.drop (n + 1))
theorem RepL.dropLast {xs : List V} {ds : List D} (h : RepL K G xs ds) : RepL K G xs.dropLast ds.dropLast := by
  rw [List.dropLast_eq_take, List.dropLast_eq_take, ← h.len]
  exact h.take _
theorem RepL.ints {xs : List V} {ns : List Int} (h : RepL K G xs (ns.map .int)) : xs = ns.map V.int := by
  induction ns generalizing xs with
  | nil => exact h.nilInv
  | cons n ns ih =>
    obtain ⟨x, xr, rfl, r, t⟩ := RepL.consInv (show RepL K G xs (.int n :: ns.map .int) from h)
    cases r
    rw [ih t]; rfl
theorem RepL.of_ints (ns : List Int) : RepL K G (ns.map V.int) (ns.map .int) := by
  induction ns with
  | nil => exact .nil
  | cons n ns ih => exact RepL.cons (.int n) ih
theorem RepL.bools {xs : List V} {ns : List Bool} (h : RepL K G xs (ns.map .bool)) : xs = ns.map V.bl := by
  induction ns generalizing xs with
  | nil => exact h.nilInv
  | cons n ns ih =>
    obtain ⟨x, xr, rfl, r, t⟩ := RepL.consInv (show RepL K G xs (.bool n :: ns.map .bool) from h)
    cases r
    rw [ih t]; rfl
/-- what an object at an address holds -/
def Obj (K : PySem.W.Frag) (G : Hp) : HO → D → Prop
  | .lst xs, .list ds => RepL K G xs ds
  | .dK kvs, .dict ps => kvs.length = ps.length ∧ ps.map (·.1) = kvs.map (fun p => kD p.1) ∧ RepL K G (kvs.map (·.2)) (ps.map (·.2))
  | .dT kvs, .dict qs => match qs with
    | [] => False
    | q :: ps => q = (.none, .none) ∧ kvs.length = ps.length ∧ ps.map (·.1) = kvs.map (fun p => ktD p.1) ∧ RepL K G (kvs.map (·.2)) (ps.map (·.2))
  | _, _ => False
theorem Obj.mono (e : Same G G') {o : HO} {d : D} (h : Obj K G o d) : Obj K G' o d := by
  cases o <;> cases d <;> first | exact h.elim | exact RepL.mono e h | exact ⟨h.1, h.2.1, h.2.2.mono e⟩ | skip
  rename_i kvs ps
  cases ps with
  | nil => exact h.elim
  | cons q ps => exact ⟨h.1, h.2.1, h.2.2.1, h.2.2.2.mono e⟩
theorem Obj.rep {a : Addr} {o : HO} {d : D} (h : Obj K G o d) (e : G a = some o) : Rep K G (.ref a) d := by
  cases o <;> cases d <;> first | exact h.elim | exact .lst (.inl e) h.len h.at_ | exact .dk e h.1 h.2.1 h.2.2.at_ | skip
  rename_i kvs ps
  cases ps with
  | nil => exact h.elim
  | cons q ps =>
    obtain ⟨rfl, h1, h2, h3⟩ := h
    exact .dt e h1 h2 h3.at_
/-- data that no changeable object holds -/
def notObj : D → Bool
  | .list _ => false
  | .dict _ => false
  | _ => true
theorem Obj.no {o : HO} {d : D} (h : Obj K G o d) : notObj d = false := by
  cases o <;> cases d <;> first | exact h.elim | rfl
/-- o stands at a, or (a dict) is locked there -/
def RdD (H : Hp) (a : Addr) (o : HO) : Prop := H a = some o ∨ ∃ ob kvs, o = .dK kvs ∧ H a = some (.frz ob (.dK kvs))
theorem RdD.mono {H H' : Hp} {a : Addr} {o : HO} (e : Same H H') (h : RdD H a o) : RdD H' a o := by
  rcases h with h | ⟨ob, kvs, rfl, h⟩
  · exact .inl (e _ _ h)
  · exact .inr ⟨ob, kvs, rfl, e _ _ h⟩
theorem RdD.rd {H : Hp} {a : Addr} {o : HO} (h : RdD H a o) : Rd H a o := by
  rcases h with h | ⟨ob, kvs, rfl, h⟩
  · exact .inl h
  · exact .inr ⟨ob, h⟩
def Top (K : PySem.W.Frag) (G H : Hp) (v : V) (d : D) : Prop := Rep K G v d ∨ ∃ a o, v = .ref a ∧ RdD H a o ∧ Obj K G o d
theorem Top.rep {v : V} {d : D} (h : Top K G H v d) (n : notObj d = true) : Rep K G v d := by
  rcases h with h | ⟨a, o, _, _, h⟩
  · exact h
  · rw [h.no] at n; cases n
theorem Top.list {v : V} {ds : List D} (s : Same G H) (h : Top K G H v (.list ds)) : ∃ a xs, v = .ref a ∧ Rd H a (.lst xs) ∧ RepL K G xs ds := by
  rcases h with h | ⟨a, o, rfl, e, h⟩
  · cases h with
    | lst h hl hi => exact ⟨_, _, rfl, Rd.mono s h, hl, hi⟩
  · cases o <;> first | exact h.elim | exact ⟨a, _, rfl, e.rd, h⟩
theorem Top.tuple {v : V} {ds : List D} (s : Same G H) (h : Top K G H v (.tuple ds)) : ∃ a xs, v = .ref a ∧ SqT K H a xs ∧ RepL K G xs ds := by
  cases h.rep rfl with
  | tup hq hl hi => exact ⟨_, _, rfl, .inl (.inl (s _ _ hq)), hl, hi⟩
theorem Top.tupleH {v : V} {ds : List D} (s : Same G H) (h : Top K G H v (.tuple ds)) : ∃ a xs, v = .ref a ∧ H a = some (.tup xs) ∧ RepL K G xs ds := by
  cases h.rep rfl with
  | tup hq hl hi => exact ⟨_, _, rfl, s _ _ hq, hl, hi⟩
theorem Top.int {v : V} {i : Int} (h : Top K G H v (.int i)) : v = .int i := by cases h.rep rfl; rfl
theorem Top.bool {v : V} {i : Bool} (h : Top K G H v (.bool i)) : v = .bl i := by cases h.rep rfl; rfl
theorem Top.str {v : V} {i : Str} (h : Top K G H v (.str i)) : v = .str i := by cases h.rep rfl; rfl
theorem Top.none {v : V} (h : Top K G H v .none) : v = .non := by cases h.rep rfl; rfl
end
/-! ### slots -/
inductive Sl where
  | no
  | fz (d : D)
  | bo (d : D)
  | ow (d : D)
  | lk (d : D)
abbrev Ro := List Sl
/-- what the caller lends, and what is to stay as it is -/
structure Bs where
  lent : Hp
  keep : Hp
  le : Same lent keep
  lock : Hp
  ll : Same lock keep
def Bs.up (B : Bs) (p : Addr) (o : HO) (n : B.keep p = none) : Bs := ⟨B.lent, upd B.keep p o, B.le.trans (fun b x h => by rw [upd_ne (ne_of_none h n)]; exact h), B.lock, B.ll.trans (fun b x h => by rw [upd_ne (ne_of_none h n)]; exact h)⟩
section
variable (K : PySem.W.Frag) (B : Bs) (G H : Hp)
def SlOk : Sl → Option (Option V) → Prop
  | .no, _ => True
  | .fz d, some (some v) => Rep K G v d
  | .bo d, some (some v) => Top K G B.lent v d
  | .lk d, some (some v) => ∃ a o kvs, v = .ref a ∧ B.lock a = some (.frz o (.dK kvs)) ∧ Obj K G (.dK kvs) d
  | .ow d, some (some (.ref a)) => B.keep a = none ∧ G a = none ∧ ∃ o, H a = some o ∧ Obj K G o d
  | _, _ => False
end
structure R (K : PySem.W.Frag) (B : Bs) (G0 G : Hp) (ρ : Ro) (σ : St) (H : Hp) : Prop where
  gh : Same G H
  g0 : Same G0 G
  bh : Same B.keep H
  sep : ∀ a, B.keep a ≠ none → G0 a = none → G a = none
  len : ρ.length = σ.length
  slot : ∀ (i : Nat) (s : Sl), ρ[i]? = some s → SlOk K B G H s σ[i]?
  apart : ∀ (i j : Nat) (d e : D) (a : Addr), i ≠ j → ρ[i]? = some (.ow d) → ρ[j]? = some (.ow e) → σ[i]? = some (some (.ref a)) → σ[j]? = some (some (.ref a)) → False
theorem Same.free' {H H' : Hp} (e : Same H H') {a : Addr} (h : H' a = none) : H a = none := e.free h
theorem same_upd {H : Hp} {p : Addr} {o : HO} (h : H p = none) : Same H (upd H p o) := fun b x e => by
  rw [upd_ne (ne_of_none e h)]; exact e
theorem same_upd2 {G H : Hp} {p : Addr} {o : HO} (e : Same G H) : Same (upd G p o) (upd H p o) := fun b x h => by
  by_cases hb : b = p
  · subst hb; rw [upd_same] at h ⊢; exact h
  · rw [upd_ne hb] at h ⊢; exact e b x h
theorem same_updR {G H : Hp} {p : Addr} {o : HO} (e : Same G H) (h : G p = none) : Same G (upd H p o) := fun b x q => by
  rw [upd_ne (ne_of_none q h)]; exact e b x q
theorem same_updL {G H : Hp} {p : Addr} {o : HO} (e : Same G H) (h : H p = some o) : Same (upd G p o) H := fun b x q => by
  by_cases hb : b = p
  · subst hb; rw [upd_same] at q; rw [h]; exact q
  · rw [upd_ne hb] at q; exact e b x q
section
variable {K : PySem.W.Frag} {B : Bs} {G0 G G' : Hp} {ρ : Ro} {σ : St} {H H' : Hp}
theorem SlOk.own {d : D} {o : Option (Option V)} (h : SlOk K B G H (.ow d) o) : ∃ a ob, o = some (some (.ref a)) ∧ B.keep a = none ∧ G a = none ∧ H a = some ob ∧ Obj K G ob d := by
  match o, h with
  | some (some (.ref a)), h => exact ⟨a, h.2.2.choose, rfl, h.1, h.2.1, h.2.2.choose_spec.1, h.2.2.choose_spec.2⟩
theorem SlOk.ow_mk {d : D} {a : Addr} {ob : HO} (h1 : B.keep a = none) (h2 : G a = none) (h3 : H a = some ob) (h4 : Obj K G ob d) : SlOk K B G H (.ow d) (some (some (.ref a))) := ⟨h1, h2, ob, h3, h4⟩
theorem SlOk.frz {d : D} {o : Option (Option V)} (h : SlOk K B G H (.fz d) o) : ∃ v, o = some (some v) ∧ Rep K G v d := by
  match o, h with
  | some (some v), h => exact ⟨v, rfl, h⟩
theorem SlOk.lkd {d : D} {o : Option (Option V)} (h : SlOk K B G H (.lk d) o) : ∃ a ob kvs, o = some (some (.ref a)) ∧ B.lock a = some (.frz ob (.dK kvs)) ∧ Obj K G (.dK kvs) d := by
  match o, h with
  | some (some v), h =>
    obtain ⟨a, ob, kvs, rfl, h1, h2⟩ := h
    exact ⟨a, ob, kvs, rfl, h1, h2⟩
theorem SlOk.bor {d : D} {o : Option (Option V)} (h : SlOk K B G H (.bo d) o) : ∃ v, o = some (some v) ∧ Top K G B.lent v d := by
  match o, h with
  | some (some v), h => exact ⟨v, rfl, h⟩
theorem Top.mono {B1 B' : Hp} {v : V} {d : D} (e : Same G G') (b : Same B1 B') (h : Top K G B1 v d) : Top K G' B' v d := by
  rcases h with h | ⟨a, o, rfl, h1, h2⟩
  · exact .inl (h.mono e)
  · exact .inr ⟨a, o, rfl, h1.mono b, h2.mono e⟩
/-- the frozen part and the heap go on; every own slot's object is told anew -/
theorem R.step (r : R K B G0 G ρ σ H) (g : Same G G') (gh : Same G' H') (bh : Same B.keep H') (sep : ∀ a, B.keep a ≠ none → G a = none → G' a = none)
    (own : ∀ (i : Nat) (d : D) (a : Addr) (o : HO), ρ[i]? = some (.ow d) → σ[i]? = some (some (.ref a)) → B.keep a = none → G a = none → H a = some o → Obj K G o d → G' a = none ∧ H' a = some o) : R K B G0 G' ρ σ H' where
  gh := gh
  g0 := r.g0.trans g
  bh := bh
  sep := fun a h1 h2 => sep a h1 (r.sep a h1 h2)
  len := r.len
  slot := fun i s e => by
    have q := r.slot i s e
    cases s with
    | no => trivial
    | fz d => obtain ⟨v, e2, h⟩ := q.frz; rw [e2]; exact h.mono g
    | bo d => obtain ⟨v, e2, h⟩ := q.bor; rw [e2]; exact h.mono g (Same.refl _)
    | lk d => obtain ⟨a, ob, kvs, e2, h1, h2⟩ := q.lkd; rw [e2]; exact ⟨a, ob, kvs, rfl, h1, h2.mono g⟩
    | ow d =>
      obtain ⟨a, o, e2, h1, h2, h3, h4⟩ := q.own
      rw [e2]
      obtain ⟨h5, h6⟩ := own i d a o e e2 h1 h2 h3 h4
      exact ⟨h1, h5, o, h6, h4.mono g⟩
  apart := r.apart
/-- a new object -/
theorem R.fresh (r : R K B G0 G ρ σ H) {p : Addr} {o : HO} (n : H p = none) : R K B G0 G ρ σ (upd H p o) :=
  r.step (Same.refl _) (same_updR r.gh (r.gh.free n)) (same_updR r.bh (r.bh.free n)) (fun _ _ h => h) fun i d a ob _ _ _ h2 h3 _ => ⟨h2, by rw [upd_ne (ne_of_none h3 n)]; exact h3⟩
theorem R.freshB (r : R K B G0 G ρ σ H) {p : Addr} {o : HO} (n : H p = none) : R K (B.up p o (r.bh.free n)) G0 G ρ σ (upd H p o) := by
  have r' := r.fresh (o := o) n
  refine ⟨r'.gh, r'.g0, same_upd2 r.bh, fun a h1 h2 => ?_, r'.len, fun i s e => ?_, r'.apart⟩
  · by_cases ha : a = p
    · rw [ha]; exact r.gh.free n
    · have h1 : upd B.keep p o a ≠ none := h1
      rw [upd_ne ha] at h1; exact r.sep a h1 h2
  · have q := r'.slot i s e
    cases s with
    | no => trivial
    | fz d => obtain ⟨v, e2, h⟩ := q.frz; rw [e2]; exact h
    | bo d => obtain ⟨v, e2, h⟩ := q.bor; rw [e2]; exact h
    | lk d => obtain ⟨a, ob, kvs, e2, h1, h2⟩ := q.lkd; rw [e2]; exact ⟨a, ob, kvs, rfl, h1, h2⟩
    | ow d =>
      obtain ⟨a, ob, e2, h1, h2, h3, h4⟩ := (r.slot i _ e).own
      rw [e2]
      have hp : a ≠ p := ne_of_none h3 n
      exact ⟨show upd B.keep p o a = none by rw [upd_ne hp]; exact h1, h2, ob, by rw [upd_ne hp]; exact h3, h4⟩
/-- a smaller base -/
theorem R.lessB {p : Addr} {o : HO} {n : B.keep p = none} (r : R K (B.up p o n) G0 G ρ σ H) : R K B G0 G ρ σ H := by
  have sb : Same B.keep (upd B.keep p o) := PL.same_upd n
  refine ⟨r.gh, r.g0, sb.trans r.bh, fun a h1 h2 => r.sep a (fun z => h1 (sb.free z)) h2, r.len, fun i s e => ?_, r.apart⟩
  have q := r.slot i s e
  cases s with
  | no => trivial
  | fz d => obtain ⟨v, e2, h⟩ := q.frz; rw [e2]; exact h
  | bo d => obtain ⟨v, e2, h⟩ := q.bor; rw [e2]; exact h
  | lk d => obtain ⟨a, ob, kvs, e2, h1, h2⟩ := q.lkd; rw [e2]; exact ⟨a, ob, kvs, rfl, h1, h2⟩
  | ow d =>
    obtain ⟨a, ob, e2, h1, h2, h3, h4⟩ := q.own
    rw [e2]
    exact ⟨sb.free h1, h2, ob, h3, h4⟩
/-- an object that nobody of the slots holds is to stay -/
theorem R.moreB (r : R K B G0 G ρ σ H) {p : Addr} {o : HO} (n : B.keep p = none) (g : G p = none) (h : H p = some o) (ap : ∀ (i : Nat) (e : D), ρ[i]? = some (Sl.ow e) → σ[i]? ≠ some (some (.ref p))) : R K (B.up p o n) G0 G ρ σ H := by
  refine ⟨r.gh, r.g0, same_updL r.bh h, fun a h1 h2 => ?_, r.len, fun i s e => ?_, r.apart⟩
  · by_cases ha : a = p
    · rw [ha]; exact g
    · have h1 : upd B.keep p o a ≠ none := h1
      rw [upd_ne ha] at h1; exact r.sep a h1 h2
  · have q := r.slot i s e
    cases s with
    | no => trivial
    | fz d => obtain ⟨v, e2, h⟩ := q.frz; rw [e2]; exact h
    | bo d => obtain ⟨v, e2, h⟩ := q.bor; rw [e2]; exact h
    | lk d => obtain ⟨a, ob, kvs, e2, h1, h2⟩ := q.lkd; rw [e2]; exact ⟨a, ob, kvs, rfl, h1, h2⟩
    | ow d =>
      obtain ⟨a, ob, e2, h1, h2, h3, h4⟩ := q.own
      rw [e2]
      have hp : a ≠ p := fun z => ap i d e (z ▸ e2)
      exact ⟨show upd B.keep p o a = none by rw [upd_ne hp]; exact h1, h2, ob, h3, h4⟩
/-- an object that nobody of the slots holds is changed -/
theorem R.other (r : R K B G0 G ρ σ H) {p : Addr} {o : HO} (n : B.keep p = none) (g : G p = none) (ap : ∀ (i : Nat) (e : D), ρ[i]? = some (Sl.ow e) → σ[i]? ≠ some (some (.ref p))) : R K B G0 G ρ σ (upd H p o) :=
  r.step (Same.refl _) (same_updR r.gh g) (same_updR r.bh n) (fun _ _ h => h) fun i d a ob h1 h2 _ g2 h3 _ => ⟨g2, by
    have hp : a ≠ p := fun z => ap i d h1 (by rw [h2, z])
    rw [upd_ne hp]; exact h3⟩
/-- an object that is to stay is no slot's own -/
theorem R.keepNo {p : Addr} {o : HO} (r : R K B G0 G ρ σ H) (h : B.keep p = some o) : ∀ (i : Nat) (e : D), ρ[i]? = some (Sl.ow e) → σ[i]? ≠ some (some (.ref p)) := fun i e hi hs => by
  obtain ⟨a, ob, e2, h1, _⟩ := (r.slot i _ hi).own
  rw [hs] at e2; cases e2
  rw [h] at h1; cases h1
theorem R.rebase (r : R K B G0 G ρ σ H) : R K B G G ρ σ H := ⟨r.gh, Same.refl _, r.bh, fun _ _ h => h, r.len, r.slot, r.apart⟩
theorem R.unbase {ρ' : Ro} {σ' : St} (r : R K B G0 G ρ σ H) (r' : R K B G G' ρ' σ' H') : R K B G0 G' ρ' σ' H' :=
  ⟨r'.gh, r.g0.trans r'.g0, r'.bh, fun a h1 h2 => r'.sep a h1 (r.sep a h1 h2), r'.len, r'.slot, r'.apart⟩
/-- the frozen part grows by a new object -/
def Grow (G H G' H' : Hp) : Prop := (G' = G ∧ H' = H) ∨ ∃ p o, H p = none ∧ G' = upd G p o ∧ H' = upd H p o
theorem Grow.refl : Grow G H G H := .inl ⟨rfl, rfl⟩
theorem Grow.new {p : Addr} {o : HO} (n : H p = none) : Grow G H (upd G p o) (upd H p o) := .inr ⟨p, o, n, rfl, rfl⟩
theorem Grow.same (g : Grow G H G' H') (s : Same G H) : Same G G' := by
  rcases g with ⟨rfl, rfl⟩ | ⟨p, o, n, rfl, rfl⟩
  · exact Same.refl _
  · exact PL.same_upd (s.free n)
theorem Grow.sameH (g : Grow G H G' H') : Same H H' := by
  rcases g with ⟨rfl, rfl⟩ | ⟨p, o, n, rfl, rfl⟩
  · exact Same.refl _
  · exact PL.same_upd n
theorem R.grow (r : R K B G0 G ρ σ H) (g : Grow G H G' H') : R K B G0 G' ρ σ H' := by
  rcases g with ⟨rfl, rfl⟩ | ⟨p, o, n, rfl, rfl⟩
  · exact r
  · have gp := r.gh.free n
    have bp := r.bh.free n
    refine r.step (PL.same_upd gp) (same_upd2 r.gh) (same_updR r.bh bp) (fun a h1 h2 => ?_) fun i d a ob _ _ _ h2 h3 _ => ?_
    · have : a ≠ p := fun z => h1 (z ▸ bp)
      rw [upd_ne this]; exact h2
    · have hp : a ≠ p := ne_of_none h3 n
      exact ⟨by rw [upd_ne hp]; exact h2, by rw [upd_ne hp]; exact h3⟩
/-- an own slot is frozen -/
theorem R.freeze (r : R K B G0 G ρ σ H) {j : Nat} {d : D} (e : ρ[j]? = some (.ow d)) : ∃ a G', σ[j]? = some (some (.ref a)) ∧ Same G G' ∧ Rep K G' (.ref a) d ∧ R K B G0 G' (ρ.set j (.fz d)) σ H := by
  obtain ⟨a, o, e2, h1, h2, h3, h4⟩ := (r.slot j _ e).own
  have sg : Same G (upd G a o) := PL.same_upd h2
  have rp : Rep K (upd G a o) (.ref a) d := (h4.mono sg).rep upd_same
  refine ⟨a, upd G a o, e2, sg, rp, same_updL r.gh h3, r.g0.trans sg, r.bh, fun b q1 q2 => ?_, by rw [List.length_set]; exact r.len, fun i s q => ?_, fun i k d' e' b hik q1 q2 q3 q4 => ?_⟩
  · have : b ≠ a := fun z => q1 (z ▸ h1)
    rw [upd_ne this]; exact r.sep b q1 q2
  · by_cases hi : j = i
    · subst hi
      have hl : j < ρ.length := (List.getElem?_eq_some_iff.mp e).1
      rw [List.getElem?_set_self hl] at q
      cases q
      rw [e2]; exact rp
    · rw [List.getElem?_set_ne hi] at q
      have w := r.slot i s q
      cases s with
      | no => trivial
      | fz d => obtain ⟨v, e2, h⟩ := w.frz; rw [e2]; exact h.mono sg
      | bo d => obtain ⟨v, e2, h⟩ := w.bor; rw [e2]; exact h.mono sg (Same.refl _)
      | lk d => obtain ⟨a, ob, kvs, e2, h1, h2⟩ := w.lkd; rw [e2]; exact ⟨a, ob, kvs, rfl, h1, h2.mono sg⟩
      | ow d' =>
        obtain ⟨b, ob, e3, k1, k2, k3, k4⟩ := w.own
        rw [e3]
        have hb : b ≠ a := fun z => by
          subst z
          exact r.apart j i d d' b hi e q e2 e3
        exact ⟨k1, by rw [upd_ne hb]; exact k2, ob, k3, k4.mono sg⟩
  · have hj : j ≠ i := fun z => by
      subst z
      rw [List.getElem?_set_self (List.getElem?_eq_some_iff.mp e).1] at q1
      cases q1
    have hk : j ≠ k := fun z => by
      subst z
      rw [List.getElem?_set_self (List.getElem?_eq_some_iff.mp e).1] at q2
      cases q2
    rw [List.getElem?_set_ne hj] at q1
    rw [List.getElem?_set_ne hk] at q2
    exact r.apart i k d' e' b hik q1 q2 q3 q4
/-- an own slot's object is changed -/
theorem R.write (r : R K B G0 G ρ σ H) {j : Nat} {d d' : D} {a : Addr} {o' : HO} (e : ρ[j]? = some (.ow d)) (e2 : σ[j]? = some (some (.ref a))) (h' : Obj K G o' d') : R K B G0 G (ρ.set j (.ow d')) σ (upd H a o') := by
  obtain ⟨a', o, e3, h1, h2, h3, h4⟩ := (r.slot j _ e).own
  rw [e2] at e3; cases e3
  have hl : j < ρ.length := (List.getElem?_eq_some_iff.mp e).1
  refine ⟨same_updR r.gh h2, r.g0, same_updR r.bh h1, r.sep, by rw [List.length_set]; exact r.len, fun i s q => ?_, fun i k d1 e1 b hik q1 q2 q3 q4 => ?_⟩
  · by_cases hi : j = i
    · subst hi
      rw [List.getElem?_set_self hl] at q
      cases q
      rw [e2]
      exact ⟨h1, h2, o', upd_same, h'⟩
    · rw [List.getElem?_set_ne hi] at q
      have w := r.slot i s q
      cases s with
      | no => trivial
      | fz d => obtain ⟨v, e2, h⟩ := w.frz; rw [e2]; exact h
      | bo d => obtain ⟨v, e2, h⟩ := w.bor; rw [e2]; exact h
      | lk d => obtain ⟨a, ob, kvs, e2, h1, h2⟩ := w.lkd; rw [e2]; exact ⟨a, ob, kvs, rfl, h1, h2⟩
      | ow d2 =>
        obtain ⟨b, ob, e4, k1, k2, k3, k4⟩ := w.own
        rw [e4]
        have hb : b ≠ a := fun z => by
          subst z
          exact r.apart j i d d2 b hi e q e2 e4
        exact ⟨k1, k2, ob, by rw [upd_ne hb]; exact k3, k4⟩
  · have f : ∀ (m : Nat) (dm : D), (ρ.set j (.ow d'))[m]? = some (Sl.ow dm) → ∃ dm', ρ[m]? = some (Sl.ow dm') := fun m dm q => by
      by_cases hm : j = m
      · subst hm; exact ⟨d, e⟩
      · rw [List.getElem?_set_ne hm] at q; exact ⟨dm, q⟩
    obtain ⟨_, z1⟩ := f i d1 q1
    obtain ⟨_, z2⟩ := f k e1 q2
    exact r.apart i k _ _ b hik z1 z2 q3 q4
/-- a frozen value is stored -/
theorem R.setF (r : R K B G0 G ρ σ H) {j : Nat} {v : V} {d : D} (h : Rep K G v d) (hj : j < ρ.length) : R K B G0 G (ρ.set j (.fz d)) (σ.set j (some v)) H := by
  refine ⟨r.gh, r.g0, r.bh, r.sep, by rw [List.length_set, List.length_set]; exact r.len, fun i s q => ?_, fun i k d1 e1 b hik q1 q2 q3 q4 => ?_⟩
  · by_cases hi : j = i
    · subst hi
      rw [List.getElem?_set_self hj] at q
      cases q
      rw [List.getElem?_set_self (by rw [← r.len]; exact hj)]
      exact h
    · rw [List.getElem?_set_ne hi] at q ⊢
      exact r.slot i s q
  · have f : ∀ (m : Nat) (dm : D), (ρ.set j (.fz d))[m]? = some (Sl.ow dm) → j ≠ m ∧ ρ[m]? = some (Sl.ow dm) := fun m dm q => by
      by_cases hm : j = m
      · subst hm; rw [List.getElem?_set_self hj] at q; cases q
      · rw [List.getElem?_set_ne hm] at q; exact ⟨hm, q⟩
    obtain ⟨n1, z1⟩ := f i d1 q1
    obtain ⟨n2, z2⟩ := f k e1 q2
    rw [List.getElem?_set_ne n1] at q3
    rw [List.getElem?_set_ne n2] at q4
    exact r.apart i k _ _ b hik z1 z2 q3 q4
/-- a new own object is stored -/
theorem R.setO (r : R K B G0 G ρ σ H) {j : Nat} {a : Addr} {o : HO} {d : D} (h1 : B.keep a = none) (h2 : G a = none) (h3 : H a = some o) (h4 : Obj K G o d) (ap : ∀ (i : Nat) (e : D), ρ[i]? = some (Sl.ow e) → σ[i]? ≠ some (some (.ref a))) (hj : j < ρ.length) :
    R K B G0 G (ρ.set j (.ow d)) (σ.set j (some (.ref a))) H := by
  have hs : j < σ.length := by rw [← r.len]; exact hj
  refine ⟨r.gh, r.g0, r.bh, r.sep, by rw [List.length_set, List.length_set]; exact r.len, fun i s q => ?_, fun i k d1 e1 b hik q1 q2 q3 q4 => ?_⟩
  · by_cases hi : j = i
    · subst hi
      rw [List.getElem?_set_self hj] at q
      cases q
      rw [List.getElem?_set_self hs]
      exact ⟨h1, h2, o, h3, h4⟩
    · rw [List.getElem?_set_ne hi] at q ⊢
      exact r.slot i s q
  · by_cases hi : j = i
    · subst hi
      rw [List.getElem?_set_self hs] at q3
      cases q3
      rw [List.getElem?_set_ne hik] at q2 q4
      exact ap k e1 q2 q4
    · rw [List.getElem?_set_ne hi] at q1 q3
      by_cases hk : j = k
      · subst hk
        rw [List.getElem?_set_self hs] at q4
        cases q4
        exact ap i d1 q1 q3
      · rw [List.getElem?_set_ne hk] at q2 q4
        exact r.apart i k _ _ b hik q1 q2 q3 q4
/-- a slot is forgotten -/
theorem R.drop (r : R K B G0 G ρ σ H) (j : Nat) : R K B G0 G (ρ.set j .no) σ H := by
  refine ⟨r.gh, r.g0, r.bh, r.sep, by rw [List.length_set]; exact r.len, fun i s q => ?_, fun i k d1 e1 b hik q1 q2 q3 q4 => ?_⟩
  · by_cases hi : j = i
    · subst hi
      rw [List.getElem?_set] at q
      rw [if_pos rfl] at q
      split at q
      · cases q; trivial
      · cases q
    · rw [List.getElem?_set_ne hi] at q
      exact r.slot i s q
  · have f : ∀ (m : Nat) (dm : D), (ρ.set j .no)[m]? = some (Sl.ow dm) → ρ[m]? = some (Sl.ow dm) := fun m dm q => by
      by_cases hm : j = m
      · subst hm
        rw [List.getElem?_set, if_pos rfl] at q
        split at q <;> cases q
      · rw [List.getElem?_set_ne hm] at q; exact q
    exact r.apart i k _ _ b hik (f i d1 q1) (f k e1 q2) q3 q4
end
end PL
namespace PL
open PySem PySem.Spec PyProof.Rows L2
/-! ### expressions -/
inductive Opd where
  | val (d : D)
  | slot (j : Nat)
def OpOk (K : PySem.W.Frag) (G : Hp) (σ : St) (v : V) : Opd → Prop
  | .val d => Rep K G v d
  | .slot j => σ[j]? = some (some v)
def pk (o : Opd) (ρ : Ro) (Q : D → Prop) : Prop := match o with
  | .val d => Q d
  | .slot j => match ρ[j]? with
    | some (.fz d) => Q d
    | some (.ow d) => Q d
    | some (.bo d) => Q d
    | some (.lk d) => Q d
    | _ => False
def esc (o : Opd) (ρ : Ro) (Q : D → Ro → Prop) : Prop := match o with
  | .val d => Q d ρ
  | .slot j => match ρ[j]? with
    | some (.fz d) => Q d ρ
    | some (.ow d) => Q d (ρ.set j (.fz d))
    | some (.bo d) => notObj d = true ∧ Q d ρ
    | _ => False
abbrev TEp := Ro → (Opd → Ro → Prop) → Prop
abbrev TTp := Ro → (Bool → Ro → Prop) → Prop
abbrev TAp := Ro → (List Opd → Ro → Prop) → Prop
/-- a value that is made anew and still one's own -/
abbrev TFp := Ro → (D → Ro → Prop) → Prop
section
variable {K : PySem.W.Frag} {B : Bs} {G0 G G' : Hp} {ρ : Ro} {σ : St} {H H' : Hp}
theorem OpOk.mono (e : Same G G') {v : V} {o : Opd} (h : OpOk K G σ v o) : OpOk K G' σ v o := by
  cases o with
  | val d => exact Rep.mono e h
  | slot j => exact h
theorem pk_ok (r : R K B G0 G ρ σ H) {v : V} {o : Opd} {Q : D → Prop} (h : OpOk K G σ v o) (q : pk o ρ Q) : ∃ d, Top K G H v d ∧ Q d := by
  cases o with
  | val d => exact ⟨d, .inl h, q⟩
  | slot j =>
    have h : σ[j]? = some (some v) := h
    unfold pk at q
    simp only at q
    split at q
    · rename_i d e
      obtain ⟨w, e2, hr⟩ := (r.slot j _ e).frz
      rw [h] at e2; cases e2
      exact ⟨d, .inl hr, q⟩
    · rename_i d e
      obtain ⟨a, ob, e2, h1, h2, h3, h4⟩ := (r.slot j _ e).own
      rw [h] at e2; cases e2
      exact ⟨d, .inr ⟨a, ob, rfl, .inl h3, h4⟩, q⟩
    · rename_i d e
      obtain ⟨w, e2, hr⟩ := (r.slot j _ e).bor
      rw [h] at e2; cases e2
      exact ⟨d, hr.mono (Same.refl _) (B.le.trans r.bh), q⟩
    · rename_i d e
      obtain ⟨a, ob, kvs, e2, h1, h2⟩ := (r.slot j _ e).lkd
      rw [h] at e2; cases e2
      exact ⟨d, .inr ⟨a, _, rfl, .inr ⟨ob, kvs, rfl, r.bh _ _ (B.ll _ _ h1)⟩, h2⟩, q⟩
    · exact q.elim
theorem esc_ok (r : R K B G0 G ρ σ H) {v : V} {o : Opd} {Q : D → Ro → Prop} (h : OpOk K G σ v o) (q : esc o ρ Q) : ∃ d G' ρ', Same G G' ∧ Rep K G' v d ∧ R K B G0 G' ρ' σ H ∧ Q d ρ' := by
  cases o with
  | val d => exact ⟨d, G, ρ, Same.refl _, h, r, q⟩
  | slot j =>
    have h : σ[j]? = some (some v) := h
    unfold esc at q
    simp only at q
    split at q
    · rename_i d e
      obtain ⟨w, e2, hr⟩ := (r.slot j _ e).frz
      rw [h] at e2; cases e2
      exact ⟨d, G, ρ, Same.refl _, hr, r, q⟩
    · rename_i d e
      obtain ⟨a, G', e2, s, rp, r'⟩ := r.freeze e
      rw [h] at e2; cases e2
      exact ⟨d, G', _, s, rp, r', q⟩
    · rename_i d e
      obtain ⟨w, e2, hr⟩ := (r.slot j _ e).bor
      rw [h] at e2; cases e2
      exact ⟨d, G, ρ, Same.refl _, hr.rep q.1, r, q.2⟩
    · exact q.elim
end
structure SE (X : Cx) (e : Expr) (p : TEp) : Prop where
  run : ∃ t, PE X e t ∧ ∀ (B : Bs) (G0 G : Hp) (ρ : Ro) (σ : St) (H : Hp) (Q : Opd → Ro → Prop) (Q' : VK), R X.K B G0 G ρ σ H → p ρ Q →
    (∀ v o G' ρ' H', R X.K B G0 G' ρ' σ H' → Same G G' → OpOk X.K G' σ v o → Q o ρ' → Q' v H') → t σ H Q'
structure ST (X : Cx) (e : Expr) (p : TTp) : Prop where
  run : ∃ t, PT X e t ∧ ∀ (B : Bs) (G0 G : Hp) (ρ : Ro) (σ : St) (H : Hp) (Q : Bool → Ro → Prop) (Q' : Bool → Hp → Prop), R X.K B G0 G ρ σ H → p ρ Q →
    (∀ b G' ρ' H', R X.K B G0 G' ρ' σ H' → Same G G' → Q b ρ' → Q' b H') → t σ H Q'
structure SW (X : Cx) (e : Expr) (p : TTp) : Prop where
  run : ∃ t, PW X e t ∧ ∀ (B : Bs) (G0 G : Hp) (ρ : Ro) (σ : St) (H : Hp) (Q : Bool → Ro → Prop) (Q' : Bool → Hp → Prop), R X.K B G0 G ρ σ H → p ρ Q →
    (∀ b G' ρ' H', R X.K B G0 G' ρ' σ H' → Same G G' → Q b ρ' → Q' b H') → t σ H Q'
structure SA (X : Cx) (es : List Expr) (p : TAp) : Prop where
  run : ∃ t, PA X es t ∧ ∀ (B : Bs) (G0 G : Hp) (ρ : Ro) (σ : St) (H : Hp) (Q : List Opd → Ro → Prop) (Q' : List V → Hp → Prop), R X.K B G0 G ρ σ H → p ρ Q →
    (∀ vs os G' ρ' H', R X.K B G0 G' ρ' σ H' → Same G G' → Paired (OpOk X.K G' σ) vs os → Q os ρ' → Q' vs H') → t σ H Q'
structure SF (X : Cx) (e : Expr) (p : TFp) : Prop where
  run : ∃ t, PE X e t ∧ ∀ (B : Bs) (G0 G : Hp) (ρ : Ro) (σ : St) (H : Hp) (Q : D → Ro → Prop) (Q' : VK), R X.K B G0 G ρ σ H → p ρ Q →
    (∀ a o d G' ρ' H', R X.K B G0 G' ρ' σ H' → Same G G' → B.keep a = none → G' a = none → H' a = some o → Obj X.K G' o d → (∀ (i : Nat) (e : D), ρ'[i]? = some (Sl.ow e) → σ[i]? ≠ some (some (.ref a))) → Q d ρ' → Q' (.ref a) H') → t σ H Q'
/-- a new object is at an address that no own slot holds -/
theorem R.noown {K : PySem.W.Frag} {B : Bs} {G0 G H : Hp} {ρ : Ro} {σ : St} (r : R K B G0 G ρ σ H) {a : Addr} (n : H a = none) : ∀ (i : Nat) (e : D), ρ[i]? = some (Sl.ow e) → σ[i]? ≠ some (some (.ref a)) := fun i e h q => by
  obtain ⟨b, o, e2, _, _, h3, _⟩ := (r.slot i _ h).own
  rw [q] at e2; cases e2
  rw [n] at h3; cases h3
/-- a new own value, frozen at once -/
theorem R.frzNew {K : PySem.W.Frag} {B : Bs} {G0 G H : Hp} {ρ : Ro} {σ : St} (r : R K B G0 G ρ σ H) {a : Addr} {o : HO} {d : D} (h1 : B.keep a = none) (h2 : G a = none) (h3 : H a = some o) (h4 : Obj K G o d)
    (ap : ∀ (i : Nat) (e : D), ρ[i]? = some (Sl.ow e) → σ[i]? ≠ some (some (.ref a))) : R K B G0 (upd G a o) ρ σ H ∧ Same G (upd G a o) ∧ Rep K (upd G a o) (.ref a) d := by
  have sg : Same G (upd G a o) := PL.same_upd h2
  refine ⟨r.step sg (same_updL r.gh h3) r.bh (fun b q1 q2 => ?_) fun i e b ob q1 q2 q3 q4 q5 _ => ?_, sg, (h4.mono sg).rep upd_same⟩
  · have : b ≠ a := fun z => q1 (z ▸ h1)
    rw [upd_ne this]; exact q2
  · have : b ≠ a := fun z => ap i e q1 (z ▸ q2)
    exact ⟨by rw [upd_ne this]; exact q4, q5⟩
section
variable {X : Cx} {e a b c : Expr} {es : List Expr} {pos : Pos} {pa pb pc : TEp}
def live (i : Nat) (ρ : Ro) : Prop := match ρ[i]? with
  | some .no => False
  | none => False
  | _ => True
def qVar (i : Nat) : TEp := fun ρ Q => live i ρ ∧ Q (.slot i) ρ
theorem s_var (i : Nat) {x : Str} (hN : X.N[i]? = some x := by rfl) (hv : Vis X.env.scope x := by first | exact Or.inl rfl | exact Or.inr (Or.inl rfl) | exact Or.inr (Or.inr rfl)) (hd : (x == ("__debug__" : Str)) = false := by decide)
    (hcd : (x == ("__classdict__" : Str)) = false := by decide) : SE X (.Name x pos) (qVar i) := by
  refine ⟨_, pe_var hN hv hd hcd, fun B G0 G ρ σ H Q Q' r p k => ?_⟩
  obtain ⟨l, q⟩ := p
  have : ∃ v, σ[i]? = some (some v) := by
    unfold live at l
    split at l
    · exact l.elim
    · exact l.elim
    · rename_i s h1 h2
      cases e : ρ[i]? with
      | none => exact (h2 e).elim
      | some s =>
        have w := r.slot i s e
        cases s with
        | no => exact (h1 e).elim
        | fz d => obtain ⟨v, e2, _⟩ := w.frz; exact ⟨v, e2⟩
        | bo d => obtain ⟨v, e2, _⟩ := w.bor; exact ⟨v, e2⟩
        | lk d => obtain ⟨a, ob, kvs, e2, _⟩ := w.lkd; exact ⟨_, e2⟩
        | ow d => obtain ⟨a, o, e2, _⟩ := w.own; exact ⟨_, e2⟩
  obtain ⟨v, ev⟩ := this
  exact ⟨v, ev, k v (.slot i) G ρ H r (Same.refl _) ev q⟩
def qC (d : D) : TEp := fun ρ Q => Q (.val d) ρ
theorem s_int {i : Int} {j} : SE X (.Constant (.int i) j pos) (qC (.int i)) := ⟨_, pe_int, fun B G0 G ρ σ H Q Q' r p k => k _ (.val (.int i)) G ρ H r (Same.refl _) (.int i) p⟩
theorem s_bl {i : Bool} {j} : SE X (.Constant (.bool i) j pos) (qC (.bool i)) := ⟨_, pe_bl, fun B G0 G ρ σ H Q Q' r p k => k _ (.val (.bool i)) G ρ H r (Same.refl _) (.bl i) p⟩
theorem s_non {j} : SE X (.Constant .none j pos) (qC .none) := ⟨_, pe_non, fun B G0 G ρ σ H Q Q' r p k => k _ (.val .none) G ρ H r (Same.refl _) .non p⟩
theorem s_str {i : Str} {j} : SE X (.Constant (.str i) j pos) (qC (.str i)) := ⟨_, pe_str, fun B G0 G ρ σ H Q Q' r p k => k _ (.val (.str i)) G ρ H r (Same.refl _) (.str i) p⟩
/-- a new value, frozen -/
def qFrz (p : TFp) : TEp := fun ρ Q => p ρ fun d ρ1 => Q (.val d) ρ1
theorem SF.se {p : TFp} (h : SF X e p) : SE X e (qFrz p) := by
  obtain ⟨t, ht, run⟩ := h.run
  refine ⟨t, ht, fun B G0 G ρ σ H Q Q' r q k => ?_⟩
  refine run B G0 G ρ σ H _ Q' r q fun a o d G' ρ' H' r' s h1 h2 h3 h4 ap q' => ?_
  obtain ⟨r2, s2, rp⟩ := r'.frzNew h1 h2 h3 h4 ap
  exact k _ (.val d) _ ρ' H' r2 (s.trans s2) rp q'
/-! ### operators -/
abbrev Sem2 := D → D → (D → Prop) → Prop
structure OpD (X : Cx) (f : Value → Value → Sem Value) (s : Sem2) : Prop where
  run : ∃ r : R2, OpR X f r ∧ ∀ (G H : Hp) (x y : V) (d e : D) (Q : D → Prop) (Q' : VK), Same G H → Top X.K G H x d → Top X.K G H y e → s d e Q →
    (∀ v c G' H', Grow G H G' H' → Rep X.K G' v c → Q c → Q' v H') → r x y H Q'
/-- operators whose value is new and may stay one's own -/
structure OpF (X : Cx) (f : Value → Value → Sem Value) (s : Sem2) : Prop where
  run : ∃ r : R2, OpR X f r ∧ ∀ (G H : Hp) (x y : V) (d e : D) (Q : D → Prop) (Q' : VK), Same G H → Top X.K G H x d → Top X.K G H y e → s d e Q →
    (∀ c a o, H a = none → Obj X.K G o c → Q c → Q' (.ref a) (upd H a o)) → r x y H Q'
def qBin (s : Sem2) (pa pb : TEp) : TEp := fun ρ Q => pa ρ fun a ρ1 => pb ρ1 fun b ρ2 => pk a ρ2 fun d => pk b ρ2 fun e => s d e fun c => Q (.val c) ρ2
def qBinF (s : Sem2) (pa pb : TEp) : TFp := fun ρ Q => pa ρ fun a ρ1 => pb ρ1 fun b ρ2 => pk a ρ2 fun d => pk b ρ2 fun e => s d e fun c => Q c ρ2
theorem bin_run {ta tb : TE} {r : R2} {op : D → D → Ro → Prop} {B : Bs} {G0 G : Hp} {ρ : Ro} {σ : St} {H : Hp} {Q' : VK}
    (ra : ∀ (B : Bs) (G0 G : Hp) (ρ : Ro) (σ : St) (H : Hp) (Q : Opd → Ro → Prop) (Q' : VK), R X.K B G0 G ρ σ H → pa ρ Q → (∀ v o G' ρ' H', R X.K B G0 G' ρ' σ H' → Same G G' → OpOk X.K G' σ v o → Q o ρ' → Q' v H') → ta σ H Q')
    (rb : ∀ (B : Bs) (G0 G : Hp) (ρ : Ro) (σ : St) (H : Hp) (Q : Opd → Ro → Prop) (Q' : VK), R X.K B G0 G ρ σ H → pb ρ Q → (∀ v o G' ρ' H', R X.K B G0 G' ρ' σ H' → Same G G' → OpOk X.K G' σ v o → Q o ρ' → Q' v H') → tb σ H Q')
    (hr : R X.K B G0 G ρ σ H) (h : pa ρ fun a ρ1 => pb ρ1 fun b ρ2 => pk a ρ2 fun d => pk b ρ2 fun e => op d e ρ2)
    (k : ∀ (x y : V) (d e : D) (G' : Hp) (ρ' : Ro) (H' : Hp), R X.K B G0 G' ρ' σ H' → Same G G' → Top X.K G' H' x d → Top X.K G' H' y e → op d e ρ' → r x y H' Q') : tOp r ta tb σ H Q' := by
  refine ra B G0 G ρ σ H _ _ hr h fun v o G1 ρ1 H1 r1 s1 o1 q1 => ?_
  refine rb B G0 G1 ρ1 σ H1 _ _ r1 q1 fun v2 o' G2 ρ2 H2 r2 s2 o2 q2 => ?_
  obtain ⟨d, t1, q3⟩ := pk_ok r2 (o1.mono s2) q2
  obtain ⟨e, t2, q4⟩ := pk_ok r2 o2 q3
  exact k v v2 d e G2 ρ2 H2 r2 (s1.trans s2) t1 t2 q4
theorem s_bin {op : Operator} {s : Sem2} (ho : OpD X (binaryOp op) s) (ha : SE X a pa) (hb : SE X b pb) : SE X (.BinOp a op b pos) (qBin s pa pb) := by
  obtain ⟨r, hr, hx⟩ := ho.run
  obtain ⟨ta, ea, ra⟩ := ha.run
  obtain ⟨tb, eb, rb⟩ := hb.run
  refine ⟨_, pe_op hr ea eb, fun B G0 G ρ σ H Q Q' r0 p k => ?_⟩
  refine bin_run (op := fun d e ρ2 => s d e fun c => Q (.val c) ρ2) ra rb r0 p fun x y d e G' ρ' H' r1 s1 t1 t2 q => ?_
  exact hx G' H' x y d e _ Q' r1.gh t1 t2 q fun v c G2 H2 g rp q2 => k v (.val c) G2 ρ' H2 (r1.grow g) (s1.trans (g.same r1.gh)) rp q2
theorem s_binF {op : Operator} {s : Sem2} (ho : OpF X (binaryOp op) s) (ha : SE X a pa) (hb : SE X b pb) : SF X (.BinOp a op b pos) (qBinF s pa pb) := by
  obtain ⟨r, hr, hx⟩ := ho.run
  obtain ⟨ta, ea, ra⟩ := ha.run
  obtain ⟨tb, eb, rb⟩ := hb.run
  refine ⟨_, pe_op hr ea eb, fun B G0 G ρ σ H Q Q' r0 p k => ?_⟩
  refine bin_run (op := fun d e ρ2 => s d e fun c => Q c ρ2) ra rb r0 p fun x y d e G' ρ' H' r1 s1 t1 t2 q => ?_
  refine hx G' H' x y d e _ Q' r1.gh t1 t2 q fun c a o n ob q2 => ?_
  exact k a o c G' ρ' (upd H' a o) (r1.fresh n) s1 (r1.bh.free n) (r1.gh.free n) upd_same ob (r1.noown n) q2
theorem OpF.d {f : Value → Value → Sem Value} {s : Sem2} (h : OpF X f s) : OpD X f s := by
  obtain ⟨r, hr, hx⟩ := h.run
  refine ⟨r, hr, fun G H x y d e Q Q' s0 t1 t2 q k => hx G H x y d e Q Q' s0 t1 t2 q fun c a o n ob q2 => ?_⟩
  exact k _ c (upd G a o) (upd H a o) (.new n) ((ob.mono (PL.same_upd (s0.free n))).rep upd_same) q2
def sOr (s s' : Sem2) : Sem2 := fun d e Q => s d e Q ∨ s' d e Q
theorem OpD.or {f : Value → Value → Sem Value} {s s' : Sem2} (h : OpD X f s) (h' : OpD X f s') : OpD X f (sOr s s') := by
  obtain ⟨r, hr, hx⟩ := h.run
  obtain ⟨r', hr', hx'⟩ := h'.run
  refine ⟨_, hr.or hr', fun G H x y d e Q Q' s0 t1 t2 q k => ?_⟩
  rcases q with q | q
  · exact .inl (hx G H x y d e Q Q' s0 t1 t2 q k)
  · exact .inr (hx' G H x y d e Q Q' s0 t1 t2 q k)
theorem OpD.imp {f : Value → Value → Sem Value} {s s' : Sem2} (h : OpD X f s) (i : ∀ d e Q, s' d e Q → s d e Q) : OpD X f s' := by
  obtain ⟨r, hr, hx⟩ := h.run
  exact ⟨r, hr, fun G H x y d e Q Q' s0 t1 t2 q k => hx G H x y d e Q Q' s0 t1 t2 (i _ _ _ q) k⟩
def sI (C : Int → Int → Prop) (g : Int → Int → D) : Sem2
  | .int i, .int j, Q => C i j ∧ Q (g i j)
  | _, _, _ => False
theorem opd_int {f : Value → Value → Sem Value} {C C' : Int → Int → Prop} {g : Int → Int → V} {g' : Int → Int → D} (h : OpR X f (rI C g)) (hc : ∀ i j, C' i j → C i j) (hg : ∀ G i j, Rep X.K G (g i j) (g' i j)) : OpD X f (sI C' g') := by
  refine ⟨_, h, fun G H x y d e Q Q' s0 t1 t2 q k => ?_⟩
  match d, e, q with
  | .int i, .int j, q => exact ⟨i, j, t1.int, t2.int, hc i j q.1, k _ _ G H .refl (hg G i j) q.2⟩
def CTrue (_ _ : Int) : Prop := True
theorem rI0_rI {f : Value → Value → Sem Value} {g : Int → Int → V} (h : OpR X f (rI0 g)) : OpR X f (rI CTrue g) := fun pins s σ H x y v u Q I rx ry ⟨i, j, e1, e2, _, q⟩ => h pins s σ H x y v u Q I rx ry ⟨i, j, e1, e2, q⟩
def sI0 (g : Int → Int → D) : Sem2
  | .int i, .int j, Q => Q (g i j)
  | _, _, _ => False
theorem opd_int0 {f : Value → Value → Sem Value} {g : Int → Int → V} {g' : Int → Int → D} (h : OpR X f (rI0 g)) (hg : ∀ G i j, Rep X.K G (g i j) (g' i j)) : OpD X f (sI0 g') := by
  refine ⟨_, h, fun G H x y d e Q Q' s0 t1 t2 q k => ?_⟩
  match d, e, q with
  | .int i, .int j, q => exact ⟨i, j, t1.int, t2.int, k _ _ G H .refl (hg G i j) q⟩
end
end PL
namespace PL
open PySem PySem.Spec PyProof.Rows L2
/-! ### plain division -/
def pdiv (i j : Int) : Int := if 0 < j then i / j else i.fdiv j
def pmod (i j : Int) : Int := if 0 < j then i % j else i.fmod j
theorem pdiv_pos {i j : Int} (h : 0 < j) : pdiv i j = i / j := if_pos h
theorem pmod_pos {i j : Int} (h : 0 < j) : pmod i j = i % j := if_pos h
theorem pdiv_f (i j : Int) : pdiv i j = i.fdiv j := by
  unfold pdiv; split
  · rw [Int.fdiv_eq_ediv_of_nonneg i (by omega)]
  · rfl
theorem pmod_f (i j : Int) : pmod i j = i.fmod j := by
  unfold pmod; split
  · rw [Int.fmod_eq_emod_of_nonneg i (by omega)]
  · rfl
def DivOk (j : Int) : Prop := (j ≠ 0 ∧ j.natAbs < 1073741824) ∨ (0 < j ∧ j.natAbs.log2 < 9000)
def MulOk (i j : Int) : Prop := ((-(2 ^ 64) < i ∧ i < 2 ^ 64) ∨ (-(2 ^ 64) < j ∧ j < 2 ^ 64)) ∨ i.natAbs.log2 + j.natAbs.log2 < 1000000
def PowOk (i j : Int) : Prop := 0 ≤ j ∧ j ≤ 1000000 ∧ i.natAbs < 2 ^ 64
section
variable {X : Cx}
theorem rd_seq {K : PySem.W.Frag} {H : Hp} {a : Addr} {xs : List V} (h : Rd H a (.lst xs)) : SqL K H a xs := .inl h
theorem Inv.lstR {pins : List (Addr × PySem.Obj)} {σ : L2.St} {H : Hp} {s : Shared} {l : Addr} {xs : List V} (I : Inv X pins σ H s) (hH : Rd H l (.lst xs)) : xs.length ≤ sizeLine ∧ ∃ (its : List Value) (n : Nat), Vals xs its ∧ xs.length = its.length ∧ s.heap.get? l = some { cls := .type "list", data := .seq its.toArray n } := by
  obtain ⟨z, its, n, r, e⟩ := hH.ok I.hok
  exact ⟨z, its, n, r, r.length, e⟩
def rCatR : R2 := fun x y H Q => ∃ l b xs zs, x = .ref l ∧ y = .ref b ∧ Rd H l (.lst xs) ∧ Rd H b (.lst zs) ∧ xs.length + zs.length ≤ sizeLine ∧ ∀ p, H p = none → Q (.ref p) (upd H p (.lst (xs ++ zs)))
theorem op_catR : OpR X (binaryOp .Add) rCatR := by
  intro pins s σ H x y v u Q I rx ry h
  obtain ⟨l, b, xs, zs, rfl, rfl, hH, hB, hz, q⟩ := h
  cases rx
  cases ry
  obtain ⟨z, its, n, r, hl, e⟩ := Inv.lstR I hH
  obtain ⟨z2, its2, n2, r2, hl2, e2⟩ := Inv.lstR I hB
  refine PySem.P.add_list e e2 ?_ (by rw [List.size_toArray, List.size_toArray]; omega)
  have ea : its.toArray ++ its2.toArray = (its ++ its2).toArray := by simp
  rw [ea]
  exact ⟨.ref _, _, I.lnew (t' := s.toks) (r.append r2) (by rw [List.length_append]; omega), rfl, q _ I.fresh⟩
def rRepR : R2 := fun x y H Q => ∃ l k xs, x = .ref l ∧ y = .int k ∧ Rd H l (.lst xs) ∧ -(2 ^ 63) ≤ k ∧ k < 2 ^ 63 ∧ xs.length * k.toNat ≤ sizeLine ∧
  ∀ p, H p = none → Q (.ref p) (upd H p (.lst (List.replicate k.toNat xs).flatten))
theorem op_repR : OpR X (binaryOp .Mult) rRepR := by
  intro pins s σ H x y v u Q I rx ry h
  obtain ⟨l, k, xs, rfl, rfl, hH, h1, h2, hz, q⟩ := h
  cases rx
  obtain ⟨t, rfl⟩ := ry
  obtain ⟨z, its, n, r, hl, e⟩ := Inv.lstR I hH
  have hlen : its.toArray.size * k.toNat ≤ sizeLine := by rw [List.size_toArray, ← hl]; exact hz
  have hcap : ¬ its.toArray.size * k.toNat > (2 ^ 63 - 1) / 8 := by
    have : (sizeLine : Nat) ≤ (2 ^ 63 - 1) / 8 := by decide
    omega
  have hfit : ¬ (!Builtin.List.listFitsIndex k) = true := by
    rw [fitsIndex_both h1 h2]
    exact Bool.false_ne_true
  have hlong : ¬ Builtin.List.listTooLong (its.toArray.size * k.toNat) = true := by
    rw [notLongL hlen]
    exact Bool.false_ne_true
  have hnew : List.foldl (fun x1 x2 => x1 ++ x2) #[] (List.replicate (if its.toArray.isEmpty = true then 0 else k.toNat) its.toArray) = (List.replicate k.toNat its).flatten.toArray := by
    have f0 : ∀ m : Nat, List.foldl (fun x1 x2 => x1 ++ x2) #[] (List.replicate m its.toArray) = (List.replicate m its).flatten.toArray := fun m => by
      have := foldl_rep its m []
      rw [List.nil_append] at this
      exact this
    rw [f0]
    cases its with
    | nil => simp
    | cons a r' => rw [if_neg (by simp)]
  refine wpAny_binaryOp_repeat_ref (T := "list") (U := "int") (by decide) ⟨_, e, rfl⟩ (fun s' => typeIs_int s' k t) noFill_list_mul F.fills_int_mul F.slot_int_rmul repeat_list F.slot_int_index.lookup
    (call_meets F.slot_int_rmul (typeIs_int s k t) F.entry_int_rmul (F.args_int_rmul_2 _ _) (int___rmul___int_list k t l its.toArray n)
      ⟨e, rfl, ⟨_, e, rfl⟩, call_meets F.slot_list_mul ⟨_, e, rfl⟩ F.entry_list_mul (F.args_list_mul_2 _ _) (AutoListH.list___mul___list_int_3 l its.toArray n k t hfit hcap hlong) ⟨e, ?_⟩⟩)
  rw [hnew]
  exact ⟨.ref _, _, I.lnew (t' := s.toks) (r.rep k.toNat) (by rw [PyProof.Rows.lm_len_rep_flat, Nat.mul_comm]; exact hz), rfl, q _ I.fresh⟩
/-! ### + -/
def sCatL : Sem2
  | .list xs, .list ys, Q => xs.length + ys.length ≤ sizeLine ∧ Q (.list (xs ++ ys))
  | _, _, _ => False
theorem opf_catL : OpF X (binaryOp .Add) sCatL := by
  refine ⟨_, op_catR, fun G H x y d e Q Q' s0 t1 t2 q k => ?_⟩
  match d, e, q with
  | .list ds, .list es, q =>
    obtain ⟨a, xs, rfl, h1, l1⟩ := t1.list s0
    obtain ⟨b, ys, rfl, h2, l2⟩ := t2.list s0
    exact ⟨a, b, xs, ys, rfl, rfl, h1, h2, by rw [l1.len, l2.len]; exact q.1, fun p n => k (.list (ds ++ es)) p _ n (l1.app l2) q.2⟩
def sAdd : Sem2
  | .int i, .int j, Q => Q (.int (i + j))
  | .list xs, .list ys, Q => xs.length + ys.length ≤ sizeLine ∧ Q (.list (xs ++ ys))
  | .tuple xs, .tuple ys, Q => xs ≠ [] ∧ xs.length + ys.length ≤ sizeLine ∧ Q (.tuple (xs ++ ys))
  | .str x, .str y, Q => x.length + y.length ≤ sizeLine ∧ Q (.str (x ++ y))
  | _, _, _ => False
def sCatT : Sem2
  | .tuple xs, .tuple ys, Q => xs ≠ [] ∧ xs.length + ys.length ≤ sizeLine ∧ Q (.tuple (xs ++ ys))
  | _, _, _ => False
theorem opd_catT : OpD X (binaryOp .Add) sCatT := by
  refine ⟨_, op_catT, fun G H x y d e Q Q' s0 t1 t2 q k => ?_⟩
  match d, e, q with
  | .tuple ds, .tuple es, q =>
    obtain ⟨a, xs, rfl, h1, l1⟩ := t1.tuple s0
    obtain ⟨b, ys, rfl, h2, l2⟩ := t2.tuple s0
    refine ⟨a, b, xs, ys, rfl, rfl, h1, h2, fun z => ?_, by rw [l1.len, l2.len]; exact q.2.1, fun z => ?_, fun z p n => ?_⟩
    · subst z
      exact q.1 (List.length_eq_zero_iff.mp l1.len.symm)
    · have : es = [] := by subst z; exact List.length_eq_zero_iff.mp l2.len.symm
      subst this
      exact k (.ref a) (.tuple (ds ++ [])) G H .refl (by rw [List.append_nil]; exact t1.rep rfl) q.2.2
    · have l := (l1.app l2).mono (PL.same_upd (o := .tup (xs ++ ys)) (s0.free n))
      exact k _ (.tuple (ds ++ es)) _ _ (.new n) (.tup upd_same l.len l.at_) q.2.2
def sCatS : Sem2
  | .str x, .str y, Q => x.length + y.length ≤ sizeLine ∧ Q (.str (x ++ y))
  | _, _, _ => False
theorem opd_catS : OpD X (binaryOp .Add) sCatS := by
  refine ⟨_, op_add_str, fun G H x y d e Q Q' s0 t1 t2 q k => ?_⟩
  match d, e, q with
  | .str i, .str j, q => exact ⟨i, j, t1.str, t2.str, q.1, k _ _ G H .refl (.str _) q.2⟩
theorem opd_add : OpD X (binaryOp .Add) sAdd := by
  refine ((opd_int0 op_add (g' := fun i j => .int (i + j)) fun _ _ _ => .int _).or ((opf_catL).d.or (opd_catT.or opd_catS))).imp fun d e Q q => ?_
  match d, e, q with
  | .int i, .int j, q => exact .inl q
  | .list xs, .list ys, q => exact .inr (.inl q)
  | .tuple xs, .tuple ys, q => exact .inr (.inr (.inl q))
  | .str xs, .str ys, q => exact .inr (.inr (.inr q))
theorem opd_sub : OpD X (binaryOp .Sub) (sI0 fun i j => .int (i - j)) := opd_int0 op_sub fun _ _ _ => .int _
def sMul : Sem2
  | .int i, .int j, Q => MulOk i j ∧ Q (.int (i * j))
  | .list xs, .int k, Q => k < 2 ^ 24 ∧ -(2 ^ 24) ≤ k ∧ xs.length * k.toNat ≤ sizeLine ∧ Q (.list (List.replicate k.toNat xs).flatten)
  | _, _, _ => False
def sRepL : Sem2
  | .list xs, .int k, Q => k < 2 ^ 24 ∧ -(2 ^ 24) ≤ k ∧ xs.length * k.toNat ≤ sizeLine ∧ Q (.list (List.replicate k.toNat xs).flatten)
  | _, _, _ => False
theorem RepL.rep {K : PySem.W.Frag} {G : Hp} {xs : List V} {ds : List D} (h : RepL K G xs ds) : ∀ n : Nat, RepL K G (List.replicate n xs).flatten (List.replicate n ds).flatten
  | 0 => .nil
  | n + 1 => by
    rw [List.replicate_succ, List.replicate_succ, List.flatten_cons, List.flatten_cons]
    exact h.app (RepL.rep h n)
theorem opf_repL : OpF X (binaryOp .Mult) sRepL := by
  refine ⟨_, op_repR, fun G H x y d e Q Q' s0 t1 t2 q k => ?_⟩
  match d, e, q with
  | .list ds, .int n, q =>
    obtain ⟨a, xs, rfl, h1, l1⟩ := t1.list s0
    have q1 : n < 2 ^ 24 := q.1
    have q2 : -(2 ^ 24) ≤ n := q.2.1
    refine ⟨a, n, xs, rfl, t2.int, h1, by omega, by omega, by rw [l1.len]; exact q.2.2.1, fun p e => k (.list _) p _ e (l1.rep n.toNat) q.2.2.2⟩
theorem opd_mul : OpD X (binaryOp .Mult) sMul := by
  refine ((opd_int op_mul (C' := CMul) (g' := fun i j => .int (i * j)) (fun _ _ h => h) fun _ _ _ => .int _).or
    ((opd_int op_mulW (C' := CMulW) (g' := fun i j => .int (i * j)) (fun _ _ h => h) fun _ _ _ => .int _).or opf_repL.d)).imp fun d e Q q => ?_
  match d, e, q with
  | .int i, .int j, q =>
    rcases q.1 with h | h
    · exact .inl ⟨h, q.2⟩
    · exact .inr (.inl ⟨h, q.2⟩)
  | .list xs, .int k, q => exact .inr (.inr q)
def sDiv : Sem2 := sI (fun _ j => DivOk j) fun i j => .int (pdiv i j)
theorem opd_div : OpD X (binaryOp .FloorDiv) sDiv := by
  refine ((opd_int op_fdivN (C' := CDivN) (g' := fun i j => .int (i.fdiv j)) (fun _ _ h => h) fun _ _ _ => .int _).or
    (opd_int op_fdivW (C' := CDivW) (g' := fun i j => .int (i / j)) (fun _ _ h => h) fun _ _ _ => .int _)).imp fun d e Q q => ?_
  match d, e, q with
  | .int i, .int j, q =>
    obtain ⟨h, q⟩ := q
    rcases h with h | h
    · refine .inl ⟨h, ?_⟩
      have q : Q (.int (pdiv i j)) := q
      rw [pdiv_f] at q; exact q
    · refine .inr ⟨h, ?_⟩
      have q : Q (.int (pdiv i j)) := q
      rw [pdiv_pos h.1] at q; exact q
def sMod : Sem2 := sI (fun _ j => j ≠ 0) fun i j => .int (pmod i j)
theorem opd_mod : OpD X (binaryOp .Mod) sMod := by
  refine (opd_int op_modN (C' := fun _ j => j ≠ 0) (g' := fun i j => .int (i.fmod j)) (fun _ _ h => h) fun _ _ _ => .int _).imp fun d e Q q => ?_
  match d, e, q with
  | .int i, .int j, q =>
    refine ⟨q.1, ?_⟩
    have q : Q (.int (pmod i j)) := q.2
    rw [pmod_f] at q; exact q
def sPow : Sem2 := sI PowOk fun i j => .int (i ^ j.toNat)
theorem opd_pow : OpD X (binaryOp .Pow) sPow := opd_int op_pow (fun _ _ h => h) fun _ _ _ => .int _
/-! ### comparisons -/
mutual
def nd : D → Bool
  | .list xs => ndL xs
  | .tuple xs => ndL xs
  | .dict _ => false
  | _ => true
def ndL : List D → Bool
  | [] => true
  | x :: xs => nd x && ndL xs
end
theorem ndL_mem : ∀ {ds : List D}, ndL ds = true → ∀ d ∈ ds, nd d = true
  | [], _, d, h => by cases h
  | x :: xs, e, d, h => by
    have e : (nd x && ndL xs) = true := e
    rw [Bool.and_eq_true] at e
    rcases List.mem_cons.mp h with rfl | h
    · exact e.1
    · exact ndL_mem e.2 d h
mutual
theorem nd_of_lay : ∀ d : D, PyData.canLay0 d = true → nd d = true
  | .none, _ => rfl
  | .bool _, _ => rfl
  | .int _, _ => rfl
  | .str _, _ => rfl
  | .list xs, h => ndL_of_lay xs h
  | .tuple xs, h => ndL_of_lay xs h
  | .dict _, h => by cases h
theorem ndL_of_lay : ∀ ds : List D, PyData.canLayAll0 ds = true → ndL ds = true
  | [], _ => rfl
  | x :: xs, h => by
    have h : (PyData.canLay0 x && PyData.canLayAll0 xs) = true := h
    rw [Bool.and_eq_true] at h
    show (nd x && ndL xs) = true
    rw [nd_of_lay x h.1, ndL_of_lay xs h.2]; rfl
end
theorem dpAll_of {K : PySem.W.Frag} {H : Hp} : ∀ {ds : List D} {xs : List V}, xs.length = ds.length → (∀ (i : Nat) (x : V) (d : D), xs[i]? = some x → ds[i]? = some d → Dp K H x d) → DpAll K H xs ds
  | [], [], _, _ => .nil
  | [], x :: xs, h, _ => by simp at h
  | d :: ds, [], h, _ => by simp at h
  | d :: ds, x :: xs, h, f => .cons (f 0 x d rfl rfl) (dpAll_of (by simpa using h) fun i y e h1 h2 => f (i + 1) y e (by simpa using h1) (by simpa using h2))
theorem dp_of {K : PySem.W.Frag} {G : Hp} {v : V} {d : D} (h : Rep K G v d) : nd d = true → Dp K G v d := by
  induction h with
  | non => exact fun _ => .non
  | bl b => exact fun _ => .bl b
  | int i => exact fun _ => .int i
  | str x => exact fun _ => .str x
  | lst h hl _ ih => exact fun n => .lst (.inl h) (dpAll_of hl fun i x d h1 h2 => ih i x d h1 h2 (ndL_mem n d (List.mem_of_getElem? h2)))
  | tup h hl _ ih => exact fun n => .tup (.inl (.inl h)) (dpAll_of hl fun i x d h1 h2 => ih i x d h1 h2 (ndL_mem n d (List.mem_of_getElem? h2)))
  | dk => exact fun n => by cases n
  | dt => exact fun n => by cases n
theorem Top.dp {K : PySem.W.Frag} {G H : Hp} {v : V} {d : D} (s : Same G H) (h : Top K G H v d) (n : nd d = true) : Dp K H v d := by
  rcases h with h | ⟨a, o, rfl, e, h⟩
  · exact dp_of (h.mono s) n
  · cases d with
    | list ds =>
      cases o <;> first | exact h.elim | skip
      have h : RepL K G _ ds := h
      exact .lst (.inl e.rd) (dpAll_of h.len fun i x d h1 h2 => dp_of ((h.at_ i x d h1 h2).mono s) (ndL_mem n d (List.mem_of_getElem? h2)))
    | dict ps => cases n
    | _ => exact absurd h.no (by simp [notObj])
def shp (d : D) : Bool := SeqAt.shaped d
theorem shp_nd {d : D} (h : shp d = true) : nd d = true := nd_of_lay d (SeqAt.canLay_of_shaped h)
def sEq : Sem2
  | .int i, .int j, Q => Q (.bool (decide (i = j)))
  | d, e, Q => shp d = true ∧ shp e = true ∧ Q (.bool (PyData.eqv d e))
def sNe : Sem2
  | .int i, .int j, Q => Q (.bool (!decide (i = j)))
  | d, e, Q => shp d = true ∧ shp e = true ∧ Q (.bool (!PyData.eqv d e))
theorem opd_eq {k : Nat} (hr : Room k X.A) : OpD X (compareOp .Eq) sEq := by
  have hu : X.A.units + 64 < cLine := hr.units
  refine ⟨_, op_eqD hu, fun G H x y d e Q Q' s0 t1 t2 q k => ?_⟩
  have gen : shp d = true → shp e = true → Q (.bool (PyData.eqv d e)) → rEqD X.K x y H Q' := fun h1 h2 q =>
    ⟨d, e, t1.dp s0 (shp_nd h1), t2.dp s0 (shp_nd h2), h1, h2, k _ _ G H .refl (.bl _) q⟩
  cases d <;> cases e <;> first | exact gen rfl rfl q | exact gen q.1 q.2.1 q.2.2
theorem opd_ne {k : Nat} (hr : Room k X.A) : OpD X (compareOp .NotEq) sNe := by
  have hu : X.A.units + 64 < cLine := hr.units
  refine ⟨_, op_neD hu, fun G H x y d e Q Q' s0 t1 t2 q k => ?_⟩
  have gen : shp d = true → shp e = true → Q (.bool (!PyData.eqv d e)) → rNeD X.K x y H Q' := fun h1 h2 q =>
    ⟨d, e, t1.dp s0 (shp_nd h1), t2.dp s0 (shp_nd h2), h1, h2, k _ _ G H .refl (.bl _) q⟩
  cases d <;> cases e <;> first | exact gen rfl rfl q | exact gen q.1 q.2.1 q.2.2
theorem opd_lt : OpD X (compareOp .Lt) (sI0 fun i j => .bool (decide (i < j))) := opd_int0 op_lt fun _ _ _ => .bl _
theorem opd_le : OpD X (compareOp .LtE) (sI0 fun i j => .bool (decide (i ≤ j))) := opd_int0 op_le fun _ _ _ => .bl _
theorem opd_gt : OpD X (compareOp .Gt) (sI0 fun i j => .bool (decide (j < i))) := opd_int0 op_gt fun _ _ _ => .bl _
theorem opd_ge : OpD X (compareOp .GtE) (sI0 fun i j => .bool (decide (j ≤ i))) := opd_int0 op_ge fun _ _ _ => .bl _
/-! ### in, is -/
def sIn : Sem2
  | d, .list ds, Q => shp d = true ∧ shp (.list ds) = true ∧ Q (.bool (ds.any fun z => PyData.eqv z d))
  | .int i, .tuple ds, Q => ∃ ns : List Int, ds = ns.map .int ∧ Q (.bool (decide (i ∈ ns)))
  | _, _, _ => False
def sNotIn : Sem2
  | d, .list ds, Q => shp d = true ∧ shp (.list ds) = true ∧ Q (.bool (!ds.any fun z => PyData.eqv z d))
  | .int i, .tuple ds, Q => ∃ ns : List Int, ds = ns.map .int ∧ Q (.bool (!decide (i ∈ ns)))
  | _, _, _ => False
theorem inV_ints (i : Int) (ns : List Int) : inV (.int i) (ns.map V.int) = decide (i ∈ ns) := by
  unfold inV
  rw [List.any_map]
  induction ns with
  | nil => rfl
  | cons n ns ih =>
    rw [List.any_cons, ih]
    show (n == i || _) = _
    by_cases h : n = i
    · subst h; simp
    · have h' : ¬ i = n := fun z => h z.symm
      simp [h, h']
theorem flat_ints (ns : List Int) : (ns.map V.int).all flatV = true := by
  rw [List.all_map, List.all_eq_true]; intro x _; rfl
theorem opd_in {k : Nat} (hr : Room k X.A) : OpD X (compareOp .In) sIn := by
  have hu : X.A.units + 65 < cLine := by have := hr.un; omega
  refine ⟨_, (op_inD hu).or op_in_seq, fun G H x y d e Q Q' s0 t1 t2 q k => ?_⟩
  match d, e, q with
  | d, .list ds, q =>
    exact .inl ⟨d, ds, t1.dp s0 (shp_nd q.1), t2.dp s0 (shp_nd q.2.1), q.1, q.2.1, k _ _ G H .refl (.bl _) q.2.2⟩
  | .int i, .tuple ds, q =>
    obtain ⟨ns, rfl, q⟩ := q
    obtain ⟨a, xs, rfl, h1, l1⟩ := t2.tuple s0
    have e1 := l1.ints
    subst e1
    refine .inr ⟨a, _, rfl, .inr h1, ?_, flat_ints ns, ?_⟩
    · rw [t1.int]; rfl
    · rw [t1.int, inV_ints]
      exact k _ _ G H .refl (.bl _) q
theorem opd_notin {k : Nat} (hr : Room k X.A) : OpD X (compareOp .NotIn) sNotIn := by
  have hu : X.A.units + 65 < cLine := by have := hr.un; omega
  refine ⟨_, (op_notInD hu).or op_notIn_seq, fun G H x y d e Q Q' s0 t1 t2 q k => ?_⟩
  match d, e, q with
  | d, .list ds, q =>
    exact .inl ⟨d, ds, t1.dp s0 (shp_nd q.1), t2.dp s0 (shp_nd q.2.1), q.1, q.2.1, k _ _ G H .refl (.bl _) q.2.2⟩
  | .int i, .tuple ds, q =>
    obtain ⟨ns, rfl, q⟩ := q
    obtain ⟨a, xs, rfl, h1, l1⟩ := t2.tuple s0
    have e1 := l1.ints
    subst e1
    refine .inr ⟨a, _, rfl, .inr h1, ?_, flat_ints ns, ?_⟩
    · rw [t1.int]; rfl
    · rw [t1.int, inV_ints]
      exact k _ _ G H .refl (.bl _) q
def isNone : D → Bool
  | .none => true
  | _ => false
theorem top_non {K : PySem.W.Frag} {G H : Hp} {v : V} {d : D} (s : Same G H) (h : Top K G H v d) : decide (v = .non) = isNone d := by
  rcases h with h | ⟨a, o, rfl, e, h⟩
  · cases h <;> rfl
  · cases d <;> first | rfl | exact absurd h.no (by simp [notObj])
def sIs : Sem2
  | d, .none, Q => Q (.bool (isNone d))
  | _, _, _ => False
def sIsNot : Sem2
  | d, .none, Q => Q (.bool (!isNone d))
  | _, _, _ => False
theorem opd_is : OpD X (compareOp .Is) sIs := by
  refine ⟨_, op_isN, fun G H x y d e Q Q' s0 t1 t2 q k => ?_⟩
  match d, e, q with
  | d, .none, q =>
    refine ⟨t2.none, ?_⟩
    rw [top_non s0 t1]
    exact k _ _ G H .refl (.bl _) q
theorem opd_isnot : OpD X (compareOp .IsNot) sIsNot := by
  refine ⟨_, op_notN, fun G H x y d e Q Q' s0 t1 t2 q k => ?_⟩
  match d, e, q with
  | d, .none, q =>
    refine ⟨t2.none, ?_⟩
    rw [top_non s0 t1]
    exact k _ _ G H .refl (.bl _) q
end
/-! ### comparisons as values and tests -/
section
variable {X : Cx} {e a b c : Expr} {es : List Expr} {pos : Pos} {pa pb pc : TEp}
theorem s_cmp {op : CmpOp} {s : Sem2} (ho : OpD X (compareOp op) s) (ha : SE X a pa) (hb : SE X b pb) (hm : behindInMarks op b = false := by first | exact nomark _ | rfl) : SE X (.Compare a [op] [b] pos) (qBin s pa pb) := by
  obtain ⟨r, hr, hx⟩ := ho.run
  obtain ⟨ta, ea, ra⟩ := ha.run
  obtain ⟨tb, eb, rb⟩ := hb.run
  refine ⟨_, pe_cmpR hr ea eb hm, fun B G0 G ρ σ H Q Q' r0 p k => ?_⟩
  refine bin_run (op := fun d e ρ2 => s d e fun c => Q (.val c) ρ2) ra rb r0 p fun x y d e G' ρ' H' r1 s1 t1 t2 q => ?_
  exact hx G' H' x y d e _ Q' r1.gh t1 t2 q fun v c G2 H2 g rp q2 => k v (.val c) G2 ρ' H2 (r1.grow g) (s1.trans (g.same r1.gh)) rp q2
def bl? (d : D) (Q : Bool → Prop) : Prop := match d with
  | .bool b => Q b
  | _ => False
theorem bl_ok {K : PySem.W.Frag} {G : Hp} {v : V} {d : D} {Q : Bool → Prop} (h : Rep K G v d) (q : bl? d Q) : ∃ b, v = .bl b ∧ Q b := by
  cases d <;> first | exact q.elim | skip
  cases h
  exact ⟨_, rfl, q⟩
def qTst (s : Sem2) (pa pb : TEp) : TTp := fun ρ Q => pa ρ fun a ρ1 => pb ρ1 fun b ρ2 => pk a ρ2 fun d => pk b ρ2 fun e => s d e fun c => bl? c fun k => Q k ρ2
theorem t_cmp {op : CmpOp} {s : Sem2} (ho : OpD X (compareOp op) s) (ha : SE X a pa) (hb : SE X b pb) (hm : behindInMarks op b = false := by first | exact nomark _ | rfl) : ST X (.Compare a [op] [b] pos) (qTst s pa pb) := by
  obtain ⟨r, hr, hx⟩ := ho.run
  obtain ⟨ta, ea, ra⟩ := ha.run
  obtain ⟨tb, eb, rb⟩ := hb.run
  refine ⟨_, pt_cmpR hr ea eb hm, fun B G0 G ρ σ H Q Q' r0 p k => ?_⟩
  refine bin_run (op := fun d e ρ2 => s d e fun c => bl? c fun k => Q k ρ2) ra rb r0 p fun x y d e G' ρ' H' r1 s1 t1 t2 q => ?_
  refine hx G' H' x y d e _ _ r1.gh t1 t2 q fun v c G2 H2 g rp q2 => ?_
  obtain ⟨b, rfl, q3⟩ := bl_ok rp q2
  exact ⟨b, rfl, k b G2 ρ' H2 (r1.grow g) (s1.trans (g.same r1.gh)) q3⟩
/-- a < b < c -/
def qChain (s s' : Sem2) (pa pb pc : TEp) : TTp := fun ρ Q => pa ρ fun a ρ1 => pb ρ1 fun b ρ2 => pk a ρ2 fun d => pk b ρ2 fun e => s d e fun z => bl? z fun k =>
  if k = true then pc ρ2 fun c ρ3 => pk b ρ3 fun e' => pk c ρ3 fun f => s' e' f fun z' => bl? z' fun k' => Q k' ρ3 else Q false ρ2
theorem chain_run {ta tb tc : TE} {r r' : R2} {s s' : Sem2} {B : Bs} {G0 G : Hp} {ρ : Ro} {σ : St} {H : Hp} {Q : Bool → Ro → Prop} {Q' : VK}
    (hx : ∀ (G H : Hp) (x y : V) (d e : D) (Q : D → Prop) (Q' : VK), Same G H → Top X.K G H x d → Top X.K G H y e → s d e Q → (∀ v c G' H', Grow G H G' H' → Rep X.K G' v c → Q c → Q' v H') → r x y H Q')
    (hx' : ∀ (G H : Hp) (x y : V) (d e : D) (Q : D → Prop) (Q' : VK), Same G H → Top X.K G H x d → Top X.K G H y e → s' d e Q → (∀ v c G' H', Grow G H G' H' → Rep X.K G' v c → Q c → Q' v H') → r' x y H Q')
    (ra : ∀ (B : Bs) (G0 G : Hp) (ρ : Ro) (σ : St) (H : Hp) (Q : Opd → Ro → Prop) (Q' : VK), R X.K B G0 G ρ σ H → pa ρ Q → (∀ v o G' ρ' H', R X.K B G0 G' ρ' σ H' → Same G G' → OpOk X.K G' σ v o → Q o ρ' → Q' v H') → ta σ H Q')
    (rb : ∀ (B : Bs) (G0 G : Hp) (ρ : Ro) (σ : St) (H : Hp) (Q : Opd → Ro → Prop) (Q' : VK), R X.K B G0 G ρ σ H → pb ρ Q → (∀ v o G' ρ' H', R X.K B G0 G' ρ' σ H' → Same G G' → OpOk X.K G' σ v o → Q o ρ' → Q' v H') → tb σ H Q')
    (rc : ∀ (B : Bs) (G0 G : Hp) (ρ : Ro) (σ : St) (H : Hp) (Q : Opd → Ro → Prop) (Q' : VK), R X.K B G0 G ρ σ H → pc ρ Q → (∀ v o G' ρ' H', R X.K B G0 G' ρ' σ H' → Same G G' → OpOk X.K G' σ v o → Q o ρ' → Q' v H') → tc σ H Q')
    (hr : R X.K B G0 G ρ σ H) (h : qChain s s' pa pb pc ρ Q)
    (k : ∀ b G' ρ' H', R X.K B G0 G' ρ' σ H' → Same G G' → Q b ρ' → Q' (.bl b) H') : tChain r r' ta tb tc σ H Q' := by
  refine ra B G0 G ρ σ H _ _ hr h fun v o G1 ρ1 H1 r1 s1 o1 q1 => ?_
  refine rb B G0 G1 ρ1 σ H1 _ _ r1 q1 fun v2 o' G2 ρ2 H2 r2 s2 o2 q2 => ?_
  obtain ⟨d, t1, q3⟩ := pk_ok r2 (o1.mono s2) q2
  obtain ⟨e, t2, q4⟩ := pk_ok r2 o2 q3
  refine hx G2 H2 v v2 d e _ _ r2.gh t1 t2 q4 fun w z G3 H3 g rp q5 => ?_
  obtain ⟨b, rfl, q6⟩ := bl_ok rp q5
  refine ⟨b, rfl, ?_⟩
  have r3 := r2.grow g
  have s3 := g.same r2.gh
  cases b with
  | false =>
    rw [if_neg Bool.false_ne_true] at q6 ⊢
    exact k false G3 ρ2 H3 r3 ((s1.trans s2).trans s3) q6
  | true =>
    rw [if_pos rfl] at q6 ⊢
    refine rc B G0 G3 ρ2 σ H3 _ _ r3 q6 fun v3 o'' G4 ρ4 H4 r4 s4 o3 q7 => ?_
    obtain ⟨e', t3, q8⟩ := pk_ok r4 (o2.mono (s3.trans s4)) q7
    obtain ⟨f, t4, q9⟩ := pk_ok r4 o3 q8
    refine hx' G4 H4 v2 v3 e' f _ _ r4.gh t3 t4 q9 fun w' z' G5 H5 g' rp' q10 => ?_
    obtain ⟨b', rfl, q11⟩ := bl_ok rp' q10
    exact k b' G5 ρ4 H5 (r4.grow g') ((((s1.trans s2).trans s3).trans s4).trans (g'.same r4.gh)) q11
end
end PL
namespace PL
open PySem PySem.Spec PyProof.Rows L2
section
variable {X : Cx} {e a b c : Expr} {es rest : List Expr} {pos : Pos} {pa pb pc : TEp} {ta' tb' tc' : TTp}
def qB (p : TTp) : TEp := fun ρ Q => p ρ fun k ρ1 => Q (.val (.bool k)) ρ1
theorem s_chain {op op' : CmpOp} {s s' : Sem2} (ho : OpD X (compareOp op) s) (ho' : OpD X (compareOp op') s') (ha : SE X a pa) (hb : SE X b pb) (hc : SE X c pc) (hm : lastMarks [op, op'] [b, c] = false := by with_unfolding_all rfl) :
    SE X (.Compare a [op, op'] [b, c] pos) (qB (qChain s s' pa pb pc)) := by
  obtain ⟨r, hr, hx⟩ := ho.run
  obtain ⟨r', hr', hx'⟩ := ho'.run
  obtain ⟨ta, ea, ra⟩ := ha.run
  obtain ⟨tb, eb, rb⟩ := hb.run
  obtain ⟨tc, ec, rc⟩ := hc.run
  refine ⟨_, pe_chain hr hr' ea eb ec hm, fun B G0 G ρ σ H Q Q' r0 p k => ?_⟩
  exact chain_run hx hx' ra rb rc r0 p fun b G' ρ' H' r1 s1 q => k _ (.val (.bool b)) G' ρ' H' r1 s1 (.bl b) q
theorem t_chain {op op' : CmpOp} {s s' : Sem2} (ho : OpD X (compareOp op) s) (ho' : OpD X (compareOp op') s') (ha : SE X a pa) (hb : SE X b pb) (hc : SE X c pc) (hm : lastMarks [op, op'] [b, c] = false := by with_unfolding_all rfl) :
    ST X (.Compare a [op, op'] [b, c] pos) (qChain s s' pa pb pc) := by
  obtain ⟨r, hr, hx⟩ := ho.run
  obtain ⟨r', hr', hx'⟩ := ho'.run
  obtain ⟨ta, ea, ra⟩ := ha.run
  obtain ⟨tb, eb, rb⟩ := hb.run
  obtain ⟨tc, ec, rc⟩ := hc.run
  refine ⟨_, pt_chain hr hr' ea eb ec hm, fun B G0 G ρ σ H Q Q' r0 p k => ?_⟩
  exact chain_run (Q' := fun x H' => ∃ k, x = .bl k ∧ Q' k H') hx hx' ra rb rc r0 p fun b G' ρ' H' r1 s1 q => ⟨b, rfl, k b G' ρ' H' r1 s1 q⟩
/-- truth -/
def truD (d : D) (Q : Bool → Prop) : Prop := match d with
  | .none => Q false
  | .bool b => Q b
  | .int i => Q (i != 0)
  | .str s => s.length ≤ sizeLine ∧ Q ((s.length : Int) != 0)
  | .list xs => Q (!xs.isEmpty)
  | .tuple xs => Q (!xs.isEmpty)
  | .dict _ => False
theorem RepL.emp {K : PySem.W.Frag} {G : Hp} {xs : List V} {ds : List D} (h : RepL K G xs ds) : xs.isEmpty = ds.isEmpty := by
  cases xs <;> cases ds <;> first | rfl | exact absurd h.len (by simp)
theorem tru_of {K : PySem.W.Frag} {G H : Hp} {v : V} {d : D} {Q : Bool → Prop} (s : Same G H) (h : Top K G H v d) (q : truD d Q) : ∃ k, TruV K v H k ∧ Q k := by
  match d, q with
  | .none, q => rw [h.none]; exact ⟨false, rfl, q⟩
  | .bool b, q => rw [h.bool]; exact ⟨b, rfl, q⟩
  | .int i, q => rw [h.int]; exact ⟨_, rfl, q⟩
  | .str x, q => rw [h.str]; exact ⟨_, ⟨q.1, rfl⟩, q.2⟩
  | .list ds, q =>
    obtain ⟨a, xs, rfl, h1, l1⟩ := h.list s
    exact ⟨_, .inl ⟨xs, .inl h1, rfl⟩, by rw [l1.emp]; exact q⟩
  | .tuple ds, q =>
    obtain ⟨a, xs, rfl, h1, l1⟩ := h.tuple s
    exact ⟨_, .inr (.inl ⟨xs, h1, rfl⟩), by rw [l1.emp]; exact q⟩
def qTru (pa : TEp) : TTp := fun ρ Q => pa ρ fun o ρ1 => pk o ρ1 fun d => truD d fun k => Q k ρ1
theorem t_tru (ha : SE X a pa) (he : ∀ whole, isTrue a X.env whole = (do let v ← whole; standAt a.pos; holding [v] (truthy v)) := by intro _; rfl) : ST X a (qTru pa) := by
  obtain ⟨ta, ea, ra⟩ := ha.run
  refine ⟨_, pt_truth ea he, fun B G0 G ρ σ H Q Q' r0 p k => ?_⟩
  refine ra B G0 G ρ σ H _ _ r0 p fun v o G1 ρ1 H1 r1 s1 o1 q1 => ?_
  obtain ⟨d, t1, q2⟩ := pk_ok r1 o1 q1
  obtain ⟨b, hb, q3⟩ := tru_of r1.gh t1 q2
  exact ⟨b, hb, k b G1 ρ1 H1 r1 s1 q3⟩
def qNot (p : TTp) : TTp := fun ρ Q => p ρ fun k ρ1 => Q (!k) ρ1
theorem t_not (ha : ST X a ta') : ST X (.UnaryOp .Not a pos) (qNot ta') := by
  obtain ⟨ta, ea, ra⟩ := ha.run
  refine ⟨_, pt_not ea, fun B G0 G ρ σ H Q Q' r0 p k => ?_⟩
  exact ra B G0 G ρ σ H _ _ r0 p fun b G1 ρ1 H1 r1 s1 q1 => k _ G1 ρ1 H1 r1 s1 q1
def qAnd (p q : TTp) : TTp := fun ρ Q => p ρ fun k ρ1 => if k = true then q ρ1 Q else Q false ρ1
def qOr (p q : TTp) : TTp := fun ρ Q => p ρ fun k ρ1 => if k = true then Q true ρ1 else q ρ1 Q
theorem w_and1 (ha : ST X a ta') : SW X (.BoolOp .And [a] pos) ta' := by
  obtain ⟨ta, ea, ra⟩ := ha.run
  exact ⟨_, pw_and1 ea, ra⟩
theorem w_or1 (ha : ST X a ta') : SW X (.BoolOp .Or [a] pos) ta' := by
  obtain ⟨ta, ea, ra⟩ := ha.run
  exact ⟨_, pw_or1 ea, ra⟩
theorem w_and (ha : ST X a ta') (hb : SW X (.BoolOp .And (b :: rest) pos) tb') : SW X (.BoolOp .And (a :: b :: rest) pos) (qAnd ta' tb') := by
  obtain ⟨ta, ea, ra⟩ := ha.run
  obtain ⟨tb, eb, rb⟩ := hb.run
  refine ⟨_, pw_and ea eb, fun B G0 G ρ σ H Q Q' r0 p k => ?_⟩
  refine ra B G0 G ρ σ H _ _ r0 p fun b G1 ρ1 H1 r1 s1 q1 => ?_
  cases b with
  | true =>
    rw [if_pos rfl] at q1 ⊢
    exact rb B G0 G1 ρ1 σ H1 _ _ r1 q1 fun b G2 ρ2 H2 r2 s2 q2 => k b G2 ρ2 H2 r2 (s1.trans s2) q2
  | false =>
    rw [if_neg Bool.false_ne_true] at q1 ⊢
    exact k _ G1 ρ1 H1 r1 s1 q1
theorem w_or (ha : ST X a ta') (hb : SW X (.BoolOp .Or (b :: rest) pos) tb') : SW X (.BoolOp .Or (a :: b :: rest) pos) (qOr ta' tb') := by
  obtain ⟨ta, ea, ra⟩ := ha.run
  obtain ⟨tb, eb, rb⟩ := hb.run
  refine ⟨_, pw_or ea eb, fun B G0 G ρ σ H Q Q' r0 p k => ?_⟩
  refine ra B G0 G ρ σ H _ _ r0 p fun b G1 ρ1 H1 r1 s1 q1 => ?_
  cases b with
  | true =>
    rw [if_pos rfl] at q1 ⊢
    exact k _ G1 ρ1 H1 r1 s1 q1
  | false =>
    rw [if_neg Bool.false_ne_true] at q1 ⊢
    exact rb B G0 G1 ρ1 σ H1 _ _ r1 q1 fun b G2 ρ2 H2 r2 s2 q2 => k b G2 ρ2 H2 r2 (s1.trans s2) q2
theorem SW.t (h : SW X e ta') : ST X e ta' := by
  obtain ⟨ta, ea, ra⟩ := h.run
  exact ⟨_, ea.pt, ra⟩
/-- as values: bools -/
def qBl (pa : TEp) : TTp := fun ρ Q => pa ρ fun o ρ1 => pk o ρ1 fun d => bl? d fun k => Q k ρ1
theorem bl_top {K : PySem.W.Frag} {G H : Hp} {v : V} {d : D} {Q : Bool → Prop} (h : Top K G H v d) (q : bl? d Q) : ∃ b, v = .bl b ∧ Q b := by
  cases d <;> first | exact q.elim | skip
  exact ⟨_, h.bool, q⟩
theorem s_one {op} (ha : SE X a pa) : SE X (.BoolOp op [a] pos) pa := by
  obtain ⟨ta, ea, ra⟩ := ha.run
  exact ⟨_, pe_one ea, ra⟩
def qAndV (pa pb : TEp) : TEp := fun ρ Q => pa ρ fun o ρ1 => pk o ρ1 fun d => bl? d fun k => if k = true then pb ρ1 Q else Q (.val (.bool false)) ρ1
def qOrV (pa pb : TEp) : TEp := fun ρ Q => pa ρ fun o ρ1 => pk o ρ1 fun d => bl? d fun k => if k = true then Q (.val (.bool true)) ρ1 else pb ρ1 Q
theorem s_and (ha : SE X a pa) (hb : SE X (.BoolOp .And (b :: rest) pos) pb) : SE X (.BoolOp .And (a :: b :: rest) pos) (qAndV pa pb) := by
  obtain ⟨ta, ea, ra⟩ := ha.run
  obtain ⟨tb, eb, rb⟩ := hb.run
  refine ⟨_, pe_and ea eb, fun B G0 G ρ σ H Q Q' r0 p k => ?_⟩
  refine ra B G0 G ρ σ H _ _ r0 p fun v o G1 ρ1 H1 r1 s1 o1 q1 => ?_
  obtain ⟨d, t1, q2⟩ := pk_ok r1 o1 q1
  obtain ⟨b, rfl, q3⟩ := bl_top t1 q2
  refine ⟨b, rfl, ?_⟩
  cases b with
  | true =>
    rw [if_pos rfl] at q3 ⊢
    exact rb B G0 G1 ρ1 σ H1 _ _ r1 q3 fun v o G2 ρ2 H2 r2 s2 o2 q2 => k v o G2 ρ2 H2 r2 (s1.trans s2) o2 q2
  | false =>
    rw [if_neg Bool.false_ne_true] at q3 ⊢
    exact k _ (.val (.bool false)) G1 ρ1 H1 r1 s1 (.bl _) q3
theorem s_or (ha : SE X a pa) (hb : SE X (.BoolOp .Or (b :: rest) pos) pb) : SE X (.BoolOp .Or (a :: b :: rest) pos) (qOrV pa pb) := by
  obtain ⟨ta, ea, ra⟩ := ha.run
  obtain ⟨tb, eb, rb⟩ := hb.run
  refine ⟨_, pe_or ea eb, fun B G0 G ρ σ H Q Q' r0 p k => ?_⟩
  refine ra B G0 G ρ σ H _ _ r0 p fun v o G1 ρ1 H1 r1 s1 o1 q1 => ?_
  obtain ⟨d, t1, q2⟩ := pk_ok r1 o1 q1
  obtain ⟨b, rfl, q3⟩ := bl_top t1 q2
  refine ⟨b, rfl, ?_⟩
  cases b with
  | true =>
    rw [if_pos rfl] at q3 ⊢
    exact k _ (.val (.bool true)) G1 ρ1 H1 r1 s1 (.bl _) q3
  | false =>
    rw [if_neg Bool.false_ne_true] at q3 ⊢
    exact rb B G0 G1 ρ1 σ H1 _ _ r1 q3 fun v o G2 ρ2 H2 r2 s2 o2 q2 => k v o G2 ρ2 H2 r2 (s1.trans s2) o2 q2
def qNotV (pa : TEp) : TEp := fun ρ Q => pa ρ fun o ρ1 => pk o ρ1 fun d => bl? d fun k => Q (.val (.bool (!k))) ρ1
theorem s_not (ha : SE X a pa) : SE X (.UnaryOp .Not a pos) (qNotV pa) := by
  obtain ⟨ta, ea, ra⟩ := ha.run
  refine ⟨_, pe_not ea, fun B G0 G ρ σ H Q Q' r0 p k => ?_⟩
  refine ra B G0 G ρ σ H _ _ r0 p fun v o G1 ρ1 H1 r1 s1 o1 q1 => ?_
  obtain ⟨d, t1, q2⟩ := pk_ok r1 o1 q1
  obtain ⟨b, rfl, q3⟩ := bl_top t1 q2
  exact ⟨b, rfl, k _ (.val (.bool (!b))) G1 ρ1 H1 r1 s1 (.bl _) q3⟩
def qIf (c : TTp) (pa pb : TEp) : TEp := fun ρ Q => c ρ fun k ρ1 => if k = true then pa ρ1 Q else pb ρ1 Q
theorem s_if (hc : ST X c tc') (ha : SE X a pa) (hb : SE X b pb) : SE X (.IfExp c a b pos) (qIf tc' pa pb) := by
  obtain ⟨tc, ec, rc⟩ := hc.run
  obtain ⟨ta, ea, ra⟩ := ha.run
  obtain ⟨tb, eb, rb⟩ := hb.run
  refine ⟨_, pe_ifExp ec ea eb, fun B G0 G ρ σ H Q Q' r0 p k => ?_⟩
  refine rc B G0 G ρ σ H _ _ r0 p fun b G1 ρ1 H1 r1 s1 q1 => ?_
  cases b with
  | true =>
    rw [if_pos rfl] at q1 ⊢
    exact ra B G0 G1 ρ1 σ H1 _ _ r1 q1 fun v o G2 ρ2 H2 r2 s2 o2 q2 => k v o G2 ρ2 H2 r2 (s1.trans s2) o2 q2
  | false =>
    rw [if_neg Bool.false_ne_true] at q1 ⊢
    exact rb B G0 G1 ρ1 σ H1 _ _ r1 q1 fun v o G2 ρ2 H2 r2 s2 o2 q2 => k v o G2 ρ2 H2 r2 (s1.trans s2) o2 q2
def int? (d : D) (Q : Int → Prop) : Prop := match d with
  | .int i => Q i
  | _ => False
theorem int_top {K : PySem.W.Frag} {G H : Hp} {v : V} {d : D} {Q : Int → Prop} (h : Top K G H v d) (q : int? d Q) : ∃ b, d = .int b ∧ v = .int b ∧ Q b := by
  cases d <;> first | exact q.elim | skip
  exact ⟨_, rfl, h.int, q⟩
def qNeg (pa : TEp) : TEp := fun ρ Q => pa ρ fun o ρ1 => pk o ρ1 fun d => int? d fun i => Q (.val (.int (-i))) ρ1
theorem s_neg (ha : SE X a pa) : SE X (.UnaryOp .USub a pos) (qNeg pa) := by
  obtain ⟨ta, ea, ra⟩ := ha.run
  refine ⟨_, pe_un un_neg ea, fun B G0 G ρ σ H Q Q' r0 p k => ?_⟩
  refine ra B G0 G ρ σ H _ _ r0 p fun v o G1 ρ1 H1 r1 s1 o1 q1 => ?_
  obtain ⟨d, t1, q2⟩ := pk_ok r1 o1 q1
  obtain ⟨i, _, rfl, q3⟩ := int_top t1 q2
  exact ⟨i, rfl, k _ (.val (.int (-i))) G1 ρ1 H1 r1 s1 (.int _) q3⟩
/-! ### subscripts -/
def sIx : Sem2
  | .list ds, .int i, Q => ∃ d, atI ds i = some d ∧ Q d
  | .tuple ds, .int i, Q => ∃ d, atI ds i = some d ∧ Q d
  | .str z, .int i, Q => z.length ≤ sizeLine ∧ ∃ c, atI z.cps.toList i = some c ∧ Q (.str ⟨#[c]⟩)
  | _, _, _ => False
theorem RepL.atI {K : PySem.W.Frag} {G : Hp} {xs : List V} {ds : List D} (h : RepL K G xs ds) {i : Int} {d : D} (e : atI ds i = some d) : ∃ x, L2.atI xs i = some x ∧ Rep K G x d := by
  unfold L2.atI at e ⊢
  rw [h.len]
  cases hn : ixN ds.length i with
  | none => rw [hn] at e; cases e
  | some j =>
    rw [hn] at e
    exact h.get e
theorem s_ix (ha : SE X a pa) (hb : SE X b pb) (hs : PlainIx b := by exact fun _ _ => rfl) : SE X (.Subscript a b pos) (qBin sIx pa pb) := by
  obtain ⟨ta, ea, ra⟩ := ha.run
  obtain ⟨tb, eb, rb⟩ := hb.run
  refine ⟨_, pe_ix ix_seq ea eb hs, fun B G0 G ρ σ H Q Q' r0 p k => ?_⟩
  refine bin_run (op := fun d e ρ2 => sIx d e fun c => Q (.val c) ρ2) ra rb r0 p fun x y d e G' ρ' H' r1 s1 t1 t2 q => ?_
  match d, e, q with
  | .list ds, .int i, q =>
    obtain ⟨d, e, q⟩ := q
    obtain ⟨a, xs, rfl, h1, l1⟩ := t1.list r1.gh
    obtain ⟨x, hx, rx⟩ := l1.atI e
    exact .inl ⟨a, xs, i, x, rfl, t2.int, .inl h1, hx, k x (.val d) G' ρ' H' r1 s1 rx q⟩
  | .tuple ds, .int i, q =>
    obtain ⟨d, e, q⟩ := q
    obtain ⟨a, xs, rfl, h1, l1⟩ := t1.tuple r1.gh
    obtain ⟨x, hx, rx⟩ := l1.atI e
    exact .inr (.inl ⟨a, xs, i, x, rfl, t2.int, h1, hx, k x (.val d) G' ρ' H' r1 s1 rx q⟩)
  | .str z, .int i, q =>
    obtain ⟨hz, c, e, q⟩ := q
    exact .inr (.inr ⟨z, i, c, t1.str, t2.int, hz, e, k _ (.val _) G' ρ' H' r1 s1 (.str _) q⟩)
/-! ### arguments and displays -/
def qNil : TAp := fun ρ Q => Q [] ρ
def qCons (pa : TEp) (pr : TAp) : TAp := fun ρ Q => pa ρ fun o ρ1 => pr ρ1 fun os ρ2 => Q (o :: os) ρ2
theorem sa_nil : SA X [] qNil := ⟨_, pa_nil, fun B G0 G ρ σ H Q Q' r p k => k [] [] G ρ H r (Same.refl _) .nil p⟩
theorem Paired.mono' {K : PySem.W.Frag} {G G' : Hp} {σ : St} (e : Same G G') : ∀ {vs : List V} {os : List Opd}, Paired (OpOk K G σ) vs os → Paired (OpOk K G' σ) vs os
  | _, _, .nil => .nil
  | _, _, .cons h t => .cons (h.mono e) (Paired.mono' e t)
theorem sa_cons {pr : TAp} (ha : SE X a pa) (hr : SA X es pr) (hs : starEach (a :: es) X.env = (false, eval a X.env) :: starEach es X.env := by rfl) : SA X (a :: es) (qCons pa pr) := by
  obtain ⟨ta, ea, ra⟩ := ha.run
  obtain ⟨tr, er, rr⟩ := hr.run
  refine ⟨_, pa_cons ea er hs, fun B G0 G ρ σ H Q Q' r p k => ?_⟩
  refine ra B G0 G ρ σ H _ _ r p fun v o G1 ρ1 H1 r1 s1 o1 q1 => ?_
  refine rr B G0 G1 ρ1 σ H1 _ _ r1 q1 fun vs os G2 ρ2 H2 r2 s2 o2 q2 => ?_
  exact k (v :: vs) (o :: os) G2 ρ2 H2 r2 (s1.trans s2) (.cons (o1.mono s2) o2) q2
def escL : List Opd → Ro → (List D → Ro → Prop) → Prop
  | [], ρ, Q => Q [] ρ
  | o :: os, ρ, Q => esc o ρ fun d ρ1 => escL os ρ1 fun ds ρ2 => Q (d :: ds) ρ2
theorem escL_ok {K : PySem.W.Frag} {B : Bs} {G0 : Hp} {σ : St} {H : Hp} : ∀ {os : List Opd} {vs : List V} {G : Hp} {ρ : Ro} {Q : List D → Ro → Prop}, R K B G0 G ρ σ H → Paired (OpOk K G σ) vs os → escL os ρ Q →
    ∃ ds G' ρ', Same G G' ∧ RepL K G' vs ds ∧ R K B G0 G' ρ' σ H ∧ Q ds ρ'
  | [], _, G, ρ, Q, r, .nil, q => ⟨[], G, ρ, Same.refl _, .nil, r, q⟩
  | o :: os, _, G, ρ, Q, r, .cons h t, q => by
    obtain ⟨d, G1, ρ1, s1, rp, r1, q1⟩ := esc_ok r h q
    obtain ⟨ds, G2, ρ2, s2, rl, r2, q2⟩ := escL_ok r1 (Paired.mono' s1 t) q1
    exact ⟨d :: ds, G2, ρ2, s1.trans s2, RepL.cons (rp.mono s2) rl, r2, q2⟩
def qLst (pr : TAp) : TFp := fun ρ Q => pr ρ fun os ρ1 => escL os ρ1 fun ds ρ2 => ds.length ≤ sizeLine ∧ Q (.list ds) ρ2
theorem f_lst {pr : TAp} (hr : SA X es pr) : SF X (.List es pos) (qLst pr) := by
  obtain ⟨tr, er, rr⟩ := hr.run
  refine ⟨_, pe_lst er, fun B G0 G ρ σ H Q Q' r p k => ?_⟩
  refine rr B G0 G ρ σ H _ _ r p fun vs os G1 ρ1 H1 r1 s1 o1 q1 => ?_
  obtain ⟨ds, G2, ρ2, s2, rl, r2, hz, q2⟩ := escL_ok r1 o1 q1
  refine ⟨by rw [rl.len]; exact hz, fun p n => ?_⟩
  exact k p _ (.list ds) G2 ρ2 _ (r2.fresh n) (s1.trans s2) (r2.bh.free n) (r2.gh.free n) upd_same (show RepL _ _ _ _ from rl) (r2.noown n) q2
def qTup (pr : TAp) : TEp := fun ρ Q => pr ρ fun os ρ1 => escL os ρ1 fun ds ρ2 => ds.length ≤ sizeLine ∧ Q (.val (.tuple ds)) ρ2
theorem s_tup {pr : TAp} {x1} (hr : SA X es pr) : SE X (.Tuple es x1 pos) (qTup pr) := by
  obtain ⟨tr, er, rr⟩ := hr.run
  refine ⟨_, pe_tup er, fun B G0 G ρ σ H Q Q' r p k => ?_⟩
  refine rr B G0 G ρ σ H _ _ r p fun vs os G1 ρ1 H1 r1 s1 o1 q1 => ?_
  obtain ⟨ds, G2, ρ2, s2, rl, r2, hz, q2⟩ := escL_ok r1 o1 q1
  refine ⟨by rw [rl.len]; exact hz, fun p n => ?_⟩
  have sp : Same G2 (upd G2 p (.tup vs)) := PL.same_upd (r2.gh.free n)
  have rl' := rl.mono sp
  exact k _ (.val (.tuple ds)) (upd G2 p (.tup vs)) ρ2 _ (r2.grow (.new n)) ((s1.trans s2).trans sp) (.tup upd_same rl'.len rl'.at_) q2
/-! ### calls of built-in functions -/
def pkL : List Opd → Ro → (List D → Prop) → Prop
  | [], ρ, Q => Q []
  | o :: os, ρ, Q => pk o ρ fun d => pkL os ρ fun ds => Q (d :: ds)
theorem pkL_ok {K : PySem.W.Frag} {B : Bs} {G0 G : Hp} {σ : St} {H : Hp} {ρ : Ro} (r : R K B G0 G ρ σ H) : ∀ {os : List Opd} {vs : List V} {Q : List D → Prop}, Paired (OpOk K G σ) vs os → pkL os ρ Q → ∃ ds, Paired (Top K G H) vs ds ∧ Q ds
  | [], _, Q, .nil, q => ⟨[], .nil, q⟩
  | o :: os, _, Q, .cons h t, q => by
    obtain ⟨d, t1, q1⟩ := pk_ok r h q
    obtain ⟨ds, t2, q2⟩ := pkL_ok r t q1
    exact ⟨d :: ds, .cons t1 t2, q2⟩
abbrev SemL := List D → (D → Prop) → Prop
structure CallD (X : Cx) (f : Value) (s : SemL) : Prop where
  run : ∃ r, CallR X f r ∧ ∀ (G H : Hp) (vs : List V) (ds : List D) (Q : D → Prop) (Q' : VK), Same G H → Paired (Top X.K G H) vs ds → s ds Q →
    (∀ v c G' H', Grow G H G' H' → Rep X.K G' v c → Q c → Q' v H') → r vs H Q'
structure CallF (X : Cx) (f : Value) (s : SemL) : Prop where
  run : ∃ r, CallR X f r ∧ ∀ (G H : Hp) (vs : List V) (ds : List D) (Q : D → Prop) (Q' : VK), Same G H → Paired (Top X.K G H) vs ds → s ds Q →
    (∀ c a o, H a = none → Obj X.K G o c → Q c → Q' (.ref a) (upd H a o)) → r vs H Q'
theorem CallF.d {f : Value} {s : SemL} (h : CallF X f s) : CallD X f s := by
  obtain ⟨r, hr, hx⟩ := h.run
  refine ⟨r, hr, fun G H vs ds Q Q' s0 t q k => hx G H vs ds Q Q' s0 t q fun c a o n ob q2 => ?_⟩
  exact k _ c (upd G a o) (upd H a o) (.new n) ((ob.mono (PL.same_upd (s0.free n))).rep upd_same) q2
theorem CallD.or {f : Value} {s s' : SemL} (h : CallD X f s) (h' : CallD X f s') : CallD X f (fun ds Q => s ds Q ∨ s' ds Q) := by
  obtain ⟨r, hr, hx⟩ := h.run
  obtain ⟨r', hr', hx'⟩ := h'.run
  refine ⟨_, hr.or hr', fun G H vs ds Q Q' s0 t q k => ?_⟩
  rcases q with q | q
  · exact .inl (hx G H vs ds Q Q' s0 t q k)
  · exact .inr (hx' G H vs ds Q Q' s0 t q k)
theorem CallD.imp {f : Value} {s s' : SemL} (h : CallD X f s) (i : ∀ ds Q, s' ds Q → s ds Q) : CallD X f s' := by
  obtain ⟨r, hr, hx⟩ := h.run
  exact ⟨r, hr, fun G H vs ds Q Q' s0 t q k => hx G H vs ds Q Q' s0 t (i _ _ q) k⟩
def qCB (s : SemL) (pr : TAp) : TEp := fun ρ Q => pr ρ fun os ρ1 => pkL os ρ1 fun ds => s ds fun c => Q (.val c) ρ1
def qCBF (s : SemL) (pr : TAp) : TFp := fun ρ Q => pr ρ fun os ρ1 => pkL os ρ1 fun ds => s ds fun c => Q c ρ1
theorem cb_run {t : TA} {r : List V → Hp → VK → Prop} {s : SemL} {pr : TAp}
    (hx : ∀ (G H : Hp) (vs : List V) (ds : List D) (Q : D → Prop) (Q' : VK), Same G H → Paired (Top X.K G H) vs ds → s ds Q → (∀ v c G' H', Grow G H G' H' → Rep X.K G' v c → Q c → Q' v H') → r vs H Q')
    (rr : ∀ (B : Bs) (G0 G : Hp) (ρ : Ro) (σ : St) (H : Hp) (Q : List Opd → Ro → Prop) (Q' : List V → Hp → Prop), R X.K B G0 G ρ σ H → pr ρ Q → (∀ vs os G' ρ' H', R X.K B G0 G' ρ' σ H' → Same G G' → Paired (OpOk X.K G' σ) vs os → Q os ρ' → Q' vs H') → t σ H Q')
    (B : Bs) (G0 G : Hp) (ρ : Ro) (σ : St) (H : Hp) (Q : Opd → Ro → Prop) (Q' : VK) (r0 : R X.K B G0 G ρ σ H) (p : qCB s pr ρ Q) (k : ∀ v o G' ρ' H', R X.K B G0 G' ρ' σ H' → Same G G' → OpOk X.K G' σ v o → Q o ρ' → Q' v H') : tCB r t σ H Q' := by
  refine rr B G0 G ρ σ H _ _ r0 p fun vs os G1 ρ1 H1 r1 s1 o1 q1 => ?_
  obtain ⟨ds, t1, q2⟩ := pkL_ok r1 o1 q1
  exact hx G1 H1 vs ds _ _ r1.gh t1 q2 fun v c G2 H2 g rp q3 => k v (.val c) G2 ρ1 H2 (r1.grow g) (s1.trans (g.same r1.gh)) rp q3
theorem cbF_run {t : TA} {r : List V → Hp → VK → Prop} {s : SemL} {pr : TAp}
    (hx : ∀ (G H : Hp) (vs : List V) (ds : List D) (Q : D → Prop) (Q' : VK), Same G H → Paired (Top X.K G H) vs ds → s ds Q → (∀ c a o, H a = none → Obj X.K G o c → Q c → Q' (.ref a) (upd H a o)) → r vs H Q')
    (rr : ∀ (B : Bs) (G0 G : Hp) (ρ : Ro) (σ : St) (H : Hp) (Q : List Opd → Ro → Prop) (Q' : List V → Hp → Prop), R X.K B G0 G ρ σ H → pr ρ Q → (∀ vs os G' ρ' H', R X.K B G0 G' ρ' σ H' → Same G G' → Paired (OpOk X.K G' σ) vs os → Q os ρ' → Q' vs H') → t σ H Q')
    (B : Bs) (G0 G : Hp) (ρ : Ro) (σ : St) (H : Hp) (Q : D → Ro → Prop) (Q' : VK) (r0 : R X.K B G0 G ρ σ H) (p : qCBF s pr ρ Q)
    (k : ∀ a o d G' ρ' H', R X.K B G0 G' ρ' σ H' → Same G G' → B.keep a = none → G' a = none → H' a = some o → Obj X.K G' o d → (∀ (i : Nat) (e : D), ρ'[i]? = some (Sl.ow e) → σ[i]? ≠ some (some (.ref a))) → Q d ρ' → Q' (.ref a) H') : tCB r t σ H Q' := by
  refine rr B G0 G ρ σ H _ _ r0 p fun vs os G1 ρ1 H1 r1 s1 o1 q1 => ?_
  obtain ⟨ds, t1, q2⟩ := pkL_ok r1 o1 q1
  exact hx G1 H1 vs ds _ _ r1.gh t1 q2 fun c a o n ob q3 => k a o c G1 ρ1 _ (r1.fresh n) s1 (r1.bh.free n) (r1.gh.free n) upd_same ob (r1.noown n) q3
variable {x : Str} {p : Pos} {id T : String} {s : SemL} {pr : TAp}
theorem s_cb (hc : CallD X (.builtin id) s) (hg : Gl X x) (hm : X.mg x = none) (hv : bootBuiltins x = some (.builtin id)) (ha : SA X (e :: es) pr) (hn : x ≠ "__name__" := by decide) (hdb : (x == ("__debug__" : Str)) = false := by decide)
    (he : starEach (e :: es) X.env = (false, eval e X.env) :: starEach es X.env := by rfl) (hpl : (backTo pos (starEach es X.env)).any (·.1) = false := by rfl) : SE X (.Call (.Name x p) (e :: es) [] pos) (qCB s pr) := by
  obtain ⟨r, hr, hx⟩ := hc.run
  obtain ⟨t, et, rt⟩ := ha.run
  exact ⟨_, pe_callB hr hg hm hv et hn hdb he hpl, cb_run hx rt⟩
theorem s_ct (hc : CallD X (.type T) s) (hg : Gl X x) (hm : X.mg x = none) (hv : bootBuiltins x = some (.type T)) (ha : SA X (e :: es) pr) (hn : x ≠ "__name__" := by decide) (hdb : (x == ("__debug__" : Str)) = false := by decide)
    (he : starEach (e :: es) X.env = (false, eval e X.env) :: starEach es X.env := by rfl) (hpl : (backTo pos (starEach es X.env)).any (·.1) = false := by rfl) : SE X (.Call (.Name x p) (e :: es) [] pos) (qCB s pr) := by
  obtain ⟨r, hr, hx⟩ := hc.run
  obtain ⟨t, et, rt⟩ := ha.run
  exact ⟨_, pe_callTy hr hg hm hv et hn hdb he hpl, cb_run hx rt⟩
theorem f_cb (hc : CallF X (.builtin id) s) (hg : Gl X x) (hm : X.mg x = none) (hv : bootBuiltins x = some (.builtin id)) (ha : SA X (e :: es) pr) (hn : x ≠ "__name__" := by decide) (hdb : (x == ("__debug__" : Str)) = false := by decide)
    (he : starEach (e :: es) X.env = (false, eval e X.env) :: starEach es X.env := by rfl) (hpl : (backTo pos (starEach es X.env)).any (·.1) = false := by rfl) : SF X (.Call (.Name x p) (e :: es) [] pos) (qCBF s pr) := by
  obtain ⟨r, hr, hx⟩ := hc.run
  obtain ⟨t, et, rt⟩ := ha.run
  exact ⟨_, pe_callB hr hg hm hv et hn hdb he hpl, cbF_run hx rt⟩
theorem f_ct (hc : CallF X (.type T) s) (hg : Gl X x) (hm : X.mg x = none) (hv : bootBuiltins x = some (.type T)) (ha : SA X (e :: es) pr) (hn : x ≠ "__name__" := by decide) (hdb : (x == ("__debug__" : Str)) = false := by decide)
    (he : starEach (e :: es) X.env = (false, eval e X.env) :: starEach es X.env := by rfl) (hpl : (backTo pos (starEach es X.env)).any (·.1) = false := by rfl) : SF X (.Call (.Name x p) (e :: es) [] pos) (qCBF s pr) := by
  obtain ⟨r, hr, hx⟩ := hc.run
  obtain ⟨t, et, rt⟩ := ha.run
  exact ⟨_, pe_callTy hr hg hm hv et hn hdb he hpl, cbF_run hx rt⟩
end
end PL
namespace PL
open PySem PySem.Spec PyProof.Rows L2
section
variable {X : Cx}
theorem one_top {K : PySem.W.Frag} {G H : Hp} {vs : List V} {d : D} (h : Paired (Top K G H) vs [d]) : ∃ v, vs = [v] ∧ Top K G H v d := by
  cases h with
  | cons h t => cases t; exact ⟨_, rfl, h⟩
theorem two_top {K : PySem.W.Frag} {G H : Hp} {vs : List V} {d e : D} (h : Paired (Top K G H) vs [d, e]) : ∃ v u, vs = [v, u] ∧ Top K G H v d ∧ Top K G H u e := by
  cases h with
  | cons h t =>
    obtain ⟨u, rfl, t'⟩ := one_top t
    exact ⟨_, _, rfl, h, t'⟩
def sLen : SemL
  | [.list xs], Q => Q (.int xs.length)
  | [.tuple xs], Q => Q (.int xs.length)
  | [.str z], Q => z.length ≤ sizeLine ∧ Q (.int z.length)
  | _, _ => False
theorem cd_len : CallD X (.builtin "len") sLen := by
  refine ⟨_, (call_len_seq.or call_len_str), fun G H vs ds Q Q' s0 t q k => ?_⟩
  match ds, q with
  | [.list xs], q =>
    obtain ⟨v, rfl, h⟩ := one_top t
    obtain ⟨a, ys, rfl, h1, l1⟩ := h.list s0
    exact .inl ⟨a, ys, rfl, .inl (.inl h1), by rw [l1.len]; exact k _ _ G H .refl (.int _) q⟩
  | [.tuple xs], q =>
    obtain ⟨v, rfl, h⟩ := one_top t
    obtain ⟨a, ys, rfl, h1, l1⟩ := h.tuple s0
    exact .inl ⟨a, ys, rfl, .inr h1, by rw [l1.len]; exact k _ _ G H .refl (.int _) q⟩
  | [.str z], q =>
    obtain ⟨v, rfl, h⟩ := one_top t
    exact .inr ⟨z, by rw [h.str], q.1, k _ _ G H .refl (.int _) q.2⟩
def sSum : SemL
  | [.list ds], Q => ∃ ns : List Int, ds = ns.map .int ∧ Q (.int ns.sum)
  | _, _ => False
theorem cd_sum (hc : X.calm = true) : CallD X (.builtin "sum") sSum := by
  refine ⟨_, cr_sum hc, fun G H vs ds Q Q' s0 t q k => ?_⟩
  match ds, q with
  | [.list ds], q =>
    obtain ⟨ns, rfl, q⟩ := q
    obtain ⟨v, rfl, h⟩ := one_top t
    obtain ⟨a, ys, rfl, h1, l1⟩ := h.list s0
    have e := l1.ints
    subst e
    exact ⟨a, ns, rfl, .inl h1, k _ _ G H .refl (.int _) q⟩
def imax (i j : Int) : Int := if j > i then j else i
def imin (i j : Int) : Int := if j < i then j else i
def sMax : SemL
  | [.list ds], Q => ∃ ns : List Int, ds = ns.map .int ∧ 0 < ns.length ∧ ∀ m, m ∈ ns → (∀ y, y ∈ ns → y ≤ m) → Q (.int m)
  | [.int i, .int j], Q => Q (.int (imax i j))
  | _, _ => False
theorem cd_max (hc : X.calm = true) : CallD X (.builtin "max") sMax := by
  refine ⟨_, (cr_max hc).or (call_max2 hc), fun G H vs ds Q Q' s0 t q k => ?_⟩
  match ds, q with
  | [.list ds], q =>
    obtain ⟨ns, rfl, h0, q⟩ := q
    obtain ⟨v, rfl, h⟩ := one_top t
    obtain ⟨a, ys, rfl, h1, l1⟩ := h.list s0
    have e := l1.ints
    subst e
    exact .inl ⟨a, ns, rfl, .inl h1, h0, fun m m1 m2 => k _ _ G H .refl (.int _) (q m m1 m2)⟩
  | [.int i, .int j], q =>
    obtain ⟨v, u, rfl, h, h'⟩ := two_top t
    exact .inr ⟨i, j, by rw [h.int, h'.int], k _ _ G H .refl (.int _) q⟩
def sMin : SemL
  | [.list ds], Q => ∃ ns : List Int, ds = ns.map .int ∧ 0 < ns.length ∧ ∀ m, m ∈ ns → (∀ y, y ∈ ns → m ≤ y) → Q (.int m)
  | [.int i, .int j], Q => Q (.int (imin i j))
  | _, _ => False
theorem cd_min (hc : X.calm = true) : CallD X (.builtin "min") sMin := by
  refine ⟨_, (cr_min hc).or (call_min2 hc), fun G H vs ds Q Q' s0 t q k => ?_⟩
  match ds, q with
  | [.list ds], q =>
    obtain ⟨ns, rfl, h0, q⟩ := q
    obtain ⟨v, rfl, h⟩ := one_top t
    obtain ⟨a, ys, rfl, h1, l1⟩ := h.list s0
    have e := l1.ints
    subst e
    exact .inl ⟨a, ns, rfl, .inl h1, h0, fun m m1 m2 => k _ _ G H .refl (.int _) (q m m1 m2)⟩
  | [.int i, .int j], q =>
    obtain ⟨v, u, rfl, h, h'⟩ := two_top t
    exact .inr ⟨i, j, by rw [h.int, h'.int], k _ _ G H .refl (.int _) q⟩
def iabs (i : Int) : Int := if i < 0 then -i else i
theorem iabs_nat (i : Int) : iabs i = (i.natAbs : Int) := by unfold iabs; split <;> omega
def sAbs : SemL
  | [.int i], Q => Q (.int (iabs i))
  | _, _ => False
theorem cd_abs : CallD X (.builtin "abs") sAbs := by
  refine ⟨_, call_abs, fun G H vs ds Q Q' s0 t q k => ?_⟩
  match ds, q with
  | [.int i], q =>
    obtain ⟨v, rfl, h⟩ := one_top t
    exact ⟨i, by rw [h.int], k _ _ G H .refl (.int _) q⟩
def sInt : SemL
  | [.int i], Q => Q (.int i)
  | [.bool b], Q => Q (.int (if b = true then 1 else 0))
  | _, _ => False
theorem cd_int : CallD X (.type "int") sInt := by
  refine ⟨_, call_int1, fun G H vs ds Q Q' s0 t q k => ?_⟩
  match ds, q with
  | [.int i], q =>
    obtain ⟨v, rfl, h⟩ := one_top t
    exact .inl ⟨i, by rw [h.int], k _ _ G H .refl (.int _) q⟩
  | [.bool i], q =>
    obtain ⟨v, rfl, h⟩ := one_top t
    exact .inr ⟨i, by rw [h.bool], k _ _ G H .refl (.int _) q⟩
/-- sorted of ints -/
def sSorted : SemL
  | [.list ds], Q => ∃ ns : List Int, ds = ns.map .int ∧ ∀ ns' : List Int, ns'.Perm ns → ns'.Pairwise (· ≤ ·) → Q (.list (ns'.map .int))
  | _, _ => False
theorem cf_sorted : CallF X (.builtin "sorted") sSorted := by
  refine ⟨_, cr_sortedI, fun G H vs ds Q Q' s0 t q k => ?_⟩
  match ds, q with
  | [.list ds], q =>
    obtain ⟨ns, rfl, q⟩ := q
    obtain ⟨v, rfl, h⟩ := one_top t
    obtain ⟨a, ys, rfl, h1, l1⟩ := h.list s0
    have e := l1.ints
    subst e
    exact ⟨a, ns, rfl, .inl h1, fun ns' p hp hs n => k (.list _) p _ n (RepL.of_ints ns') (q ns' hp hs)⟩
def sList : SemL
  | [.list ds], Q => Q (.list ds)
  | [.tuple ds], Q => Q (.list ds)
  | _, _ => False
theorem cf_list : CallF X (.type "list") sList := by
  refine ⟨_, call_list_of, fun G H vs ds Q Q' s0 t q k => ?_⟩
  match ds, q with
  | [.list ds], q =>
    obtain ⟨v, rfl, h⟩ := one_top t
    obtain ⟨a, ys, rfl, h1, l1⟩ := h.list s0
    exact ⟨a, ys, rfl, .inl (.inl h1), fun p n => k (.list _) p _ n l1 q⟩
  | [.tuple ds], q =>
    obtain ⟨v, rfl, h⟩ := one_top t
    obtain ⟨a, ys, rfl, h1, l1⟩ := h.tuple s0
    exact ⟨a, ys, rfl, .inr h1, fun p n => k (.list _) p _ n l1 q⟩
def sTuple : SemL
  | [.list ds], Q => Q (.tuple ds)
  | [.tuple ds], Q => Q (.tuple ds)
  | _, _ => False
theorem cd_tuple : CallD X (.type "tuple") sTuple := by
  refine ⟨_, call_tuple_of, fun G H vs ds Q Q' s0 t q k => ?_⟩
  match ds, q with
  | [.list ds], q =>
    obtain ⟨v, rfl, h⟩ := one_top t
    obtain ⟨a, ys, rfl, h1, l1⟩ := h.list s0
    refine ⟨a, ys, rfl, .inl ⟨.inl h1, fun p n => ?_⟩⟩
    have l2 := l1.mono (PL.same_upd (o := .tup ys) (s0.free n))
    exact k _ _ _ _ (.new n) (.tup upd_same l2.len l2.at_) q
  | [.tuple ds], q =>
    obtain ⟨v, rfl, h⟩ := one_top t
    obtain ⟨a, ys, rfl, h1, l1⟩ := h.tuple s0
    exact ⟨a, ys, rfl, .inr ⟨h1, k _ _ G H .refl (h.rep rfl) q⟩⟩
def sAll : SemL
  | [.list ds], Q => ∃ bs : List Bool, ds = bs.map .bool ∧ Q (.bool (bs.all id))
  | _, _ => False
theorem cd_all (hc : X.calm = true) : CallD X (.builtin "all") sAll := by
  refine ⟨_, cr_all hc, fun G H vs ds Q Q' s0 t q k => ?_⟩
  match ds, q with
  | [.list ds], q =>
    obtain ⟨ns, rfl, q⟩ := q
    obtain ⟨v, rfl, h⟩ := one_top t
    obtain ⟨a, ys, rfl, h1, l1⟩ := h.list s0
    have e := l1.bools
    subst e
    exact ⟨a, ns, rfl, .inl h1, k _ _ G H .refl (.bl _) q⟩
def sAny : SemL
  | [.list ds], Q => ∃ bs : List Bool, ds = bs.map .bool ∧ Q (.bool (bs.any id))
  | _, _ => False
theorem cd_any (hc : X.calm = true) : CallD X (.builtin "any") sAny := by
  refine ⟨_, cr_any hc, fun G H vs ds Q Q' s0 t q k => ?_⟩
  match ds, q with
  | [.list ds], q =>
    obtain ⟨ns, rfl, q⟩ := q
    obtain ⟨v, rfl, h⟩ := one_top t
    obtain ⟨a, ys, rfl, h1, l1⟩ := h.list s0
    have e := l1.bools
    subst e
    exact ⟨a, ns, rfl, .inl h1, k _ _ G H .refl (.bl _) q⟩
/-! ### isinstance -/
def tyN : D → String
  | .none => "NoneType"
  | .bool _ => "bool"
  | .int _ => "int"
  | .str _ => "str"
  | .list _ => "list"
  | .tuple _ => "tuple"
  | .dict _ => "dict"
def isListD : D → Bool
  | .list _ => true
  | _ => false
def isTupleD : D → Bool
  | .tuple _ => true
  | _ => false
def isStrD : D → Bool
  | .str _ => true
  | _ => false
def isBoolD : D → Bool
  | .bool _ => true
  | _ => false
def isIntD : D → Bool
  | .int _ => true
  | .bool _ => true
  | _ => false
theorem Rep.ty {K : PySem.W.Frag} {G H : Hp} {v : V} {d : D} (s : Same G H) (h : Rep K G v d) : TyX K H v (.type (tyN d)) := by
  cases h with
  | non => exact .base .non
  | bl b => exact .base (.bl b)
  | int i => exact .base (.int i)
  | str x => exact .base (.str x)
  | lst h _ _ =>
    rcases Rd.mono s h with h | ⟨o, h⟩
    · exact .base (.lst h)
    · exact .base (.frz h)
  | tup h _ _ => exact .base (.tup (s _ _ h))
  | dk h => exact .base (.dK (s _ _ h))
  | dt h => exact .base (.dT (s _ _ h))
theorem Top.ty {K : PySem.W.Frag} {G H : Hp} {v : V} {d : D} (s : Same G H) (h : Top K G H v d) : TyX K H v (.type (tyN d)) := by
  rcases h with h | ⟨a, o, rfl, e, h⟩
  · exact h.ty s
  · cases o <;> cases d <;> first | exact h.elim | skip
    all_goals rcases e with e | ⟨ob, kvs, z, e⟩
    all_goals first | (cases z; done) | exact .base (.lst e) | exact .base (.dK e) | exact .base (.dT e) | (cases z; exact .fDict e)
  
theorem kit_list (K : PySem.W.Frag) (d : D) : PySem.W.kitOne K (.type (tyN d)) (.type "list") = some (isListD d) := match d with
  | .none => kit_ty (a := "NoneType") (b := "list") (r := false) (by decide +kernel)
  | .bool _ => kit_ty (a := "bool") (b := "list") (r := false) (by decide +kernel)
  | .int _ => kit_ty (a := "int") (b := "list") (r := false) (by decide +kernel)
  | .str _ => kit_ty (a := "str") (b := "list") (r := false) (by decide +kernel)
  | .list _ => kit_ty (a := "list") (b := "list") (r := true) (by decide +kernel)
  | .tuple _ => kit_ty (a := "tuple") (b := "list") (r := false) (by decide +kernel)
  | .dict _ => kit_ty (a := "dict") (b := "list") (r := false) (by decide +kernel)
theorem kit_tuple (K : PySem.W.Frag) (d : D) : PySem.W.kitOne K (.type (tyN d)) (.type "tuple") = some (isTupleD d) := match d with
  | .none => kit_ty (a := "NoneType") (b := "tuple") (r := false) (by decide +kernel)
  | .bool _ => kit_ty (a := "bool") (b := "tuple") (r := false) (by decide +kernel)
  | .int _ => kit_ty (a := "int") (b := "tuple") (r := false) (by decide +kernel)
  | .str _ => kit_ty (a := "str") (b := "tuple") (r := false) (by decide +kernel)
  | .list _ => kit_ty (a := "list") (b := "tuple") (r := false) (by decide +kernel)
  | .tuple _ => kit_ty (a := "tuple") (b := "tuple") (r := true) (by decide +kernel)
  | .dict _ => kit_ty (a := "dict") (b := "tuple") (r := false) (by decide +kernel)
theorem kit_str (K : PySem.W.Frag) (d : D) : PySem.W.kitOne K (.type (tyN d)) (.type "str") = some (isStrD d) := match d with
  | .none => kit_ty (a := "NoneType") (b := "str") (r := false) (by decide +kernel)
  | .bool _ => kit_ty (a := "bool") (b := "str") (r := false) (by decide +kernel)
  | .int _ => kit_ty (a := "int") (b := "str") (r := false) (by decide +kernel)
  | .str _ => kit_ty (a := "str") (b := "str") (r := true) (by decide +kernel)
  | .list _ => kit_ty (a := "list") (b := "str") (r := false) (by decide +kernel)
  | .tuple _ => kit_ty (a := "tuple") (b := "str") (r := false) (by decide +kernel)
  | .dict _ => kit_ty (a := "dict") (b := "str") (r := false) (by decide +kernel)
theorem kit_bool (K : PySem.W.Frag) (d : D) : PySem.W.kitOne K (.type (tyN d)) (.type "bool") = some (isBoolD d) := match d with
  | .none => kit_ty (a := "NoneType") (b := "bool") (r := false) (by decide +kernel)
  | .bool _ => kit_ty (a := "bool") (b := "bool") (r := true) (by decide +kernel)
  | .int _ => kit_ty (a := "int") (b := "bool") (r := false) (by decide +kernel)
  | .str _ => kit_ty (a := "str") (b := "bool") (r := false) (by decide +kernel)
  | .list _ => kit_ty (a := "list") (b := "bool") (r := false) (by decide +kernel)
  | .tuple _ => kit_ty (a := "tuple") (b := "bool") (r := false) (by decide +kernel)
  | .dict _ => kit_ty (a := "dict") (b := "bool") (r := false) (by decide +kernel)
theorem kit_int (K : PySem.W.Frag) (d : D) : PySem.W.kitOne K (.type (tyN d)) (.type "int") = some (isIntD d) := match d with
  | .none => kit_ty (a := "NoneType") (b := "int") (r := false) (by decide +kernel)
  | .bool _ => kit_ty (a := "bool") (b := "int") (r := true) (by decide +kernel)
  | .int _ => kit_ty (a := "int") (b := "int") (r := true) (by decide +kernel)
  | .str _ => kit_ty (a := "str") (b := "int") (r := false) (by decide +kernel)
  | .list _ => kit_ty (a := "list") (b := "int") (r := false) (by decide +kernel)
  | .tuple _ => kit_ty (a := "tuple") (b := "int") (r := false) (by decide +kernel)
  | .dict _ => kit_ty (a := "dict") (b := "int") (r := false) (by decide +kernel)
end
section
variable {X : Cx} {e : Expr} {pa : TEp}
/-- isinstance(x, T), T by its name -/
def qIsi (f : D → Bool) (pa : TEp) : TEp := fun ρ Q => pa ρ fun o ρ1 => pk o ρ1 fun d => Q (.val (.bool (f d))) ρ1
theorem s_isi {T : Str} {Tn : String} {f : D → Bool} {p p2 pos : Pos} (hk : ∀ d, PySem.W.kitOne X.K (.type (tyN d)) (.type Tn) = some (f d)) (hg : Gl X "isinstance") (hm : X.mg "isinstance" = none) (hg2 : Gl X T) (hm2 : X.mg T = none) (hv2 : bootBuiltins T = some (.type Tn)) (ha : SE X e pa)
    (hn : T ≠ "__name__" := by decide) (hdb : (T == ("__debug__" : Str)) = false := by decide)
    (h1 : starEach [e, .Name T p2] X.env = (false, eval e X.env) :: starEach [.Name T p2] X.env := by rfl) : SE X (.Call (.Name "isinstance" p) [e, .Name T p2] [] pos) (qIsi f pa) := by
  obtain ⟨ta, ea, ra⟩ := ha.run
  refine ⟨_, pe_callB call_isi hg hm (by decide +kernel) (pa_cons ea (pa_cons (pe_bltn (v := .ty Tn) hg2 hm2 hv2 rfl hn hdb) pa_nil) h1) (he := h1), fun B G0 G ρ σ H Q Q' r0 q k => ?_⟩
  refine ra B G0 G ρ σ H _ _ r0 q fun v o G1 ρ1 H1 r1 s1 o1 q1 => ?_
  obtain ⟨d, t1, q2⟩ := pk_ok r1 o1 q1
  exact ⟨v, .ty Tn, _, .type Tn, f d, rfl, .ty Tn, t1.ty r1.gh, hk d, k _ (.val (.bool (f d))) G1 ρ1 H1 r1 s1 (.bl _) q2⟩
/-- isinstance(x, (T, U)) -/
theorem s_isi2 {T U : Str} {Tn Un : String} {f g : D → Bool} {p p2 p3 p4 pos : Pos} {kk} (hk : ∀ d, PySem.W.kitOne X.K (.type (tyN d)) (.type Tn) = some (f d)) (hk' : ∀ d, PySem.W.kitOne X.K (.type (tyN d)) (.type Un) = some (g d))
    (hg : Gl X "isinstance") (hm : X.mg "isinstance" = none) (hg2 : Gl X T) (hm2 : X.mg T = none) (hv2 : bootBuiltins T = some (.type Tn)) (hg3 : Gl X U) (hm3 : X.mg U = none) (hv3 : bootBuiltins U = some (.type Un)) (ha : SE X e pa)
    (hn : T ≠ "__name__" := by decide) (hdb : (T == ("__debug__" : Str)) = false := by decide) (hn3 : U ≠ "__name__" := by decide) (hdb3 : (U == ("__debug__" : Str)) = false := by decide)
    (h1 : starEach [e, .Tuple [.Name T p2, .Name U p3] kk p4] X.env = (false, eval e X.env) :: starEach [.Tuple [.Name T p2, .Name U p3] kk p4] X.env := by rfl) :
    SE X (.Call (.Name "isinstance" p) [e, .Tuple [.Name T p2, .Name U p3] kk p4] [] pos) (qIsi (fun d => f d || g d) pa) := by
  obtain ⟨ta, ea, ra⟩ := ha.run
  refine ⟨_, pe_callB call_isiT hg hm (by decide +kernel) (pa_cons ea (pa_cons (pe_tup (pa_cons (pe_bltn (v := .ty Tn) hg2 hm2 hv2 rfl hn hdb) (pa_cons (pe_bltn (v := .ty Un) hg3 hm3 hv3 rfl hn3 hdb3) pa_nil))) pa_nil) h1) (he := h1), fun B G0 G ρ σ H Q Q' r0 q k => ?_⟩
  refine ra B G0 G ρ σ H _ _ r0 q fun v o G1 ρ1 H1 r1 s1 o1 q1 => ?_
  obtain ⟨d, t1, q2⟩ := pk_ok r1 o1 q1
  refine ⟨by show 2 ≤ sizeLine; decide, fun tp n => ?_⟩
  have su : Same H1 (upd H1 tp (.tup [.ty Tn, .ty Un])) := PL.same_upd n
  have t2 : Top X.K G1 (upd H1 tp (.tup [.ty Tn, .ty Un])) v d := t1.mono (Same.refl _) su
  have hkk : PySem.W.kitAny X.K (.type (tyN d)) [.type Tn, .type Un] = some (f d || g d) := by
    refine kitAny_cons (hk d) (fun e => ?_) (fun e => by rw [e]; rfl)
    rw [e]
    refine kitAny_cons (hk' d) (fun e' => ?_) (fun e' => by rw [e']; rfl)
    rw [e']; rfl
  refine ⟨v, tp, [.ty Tn, .ty Un], _, [.type Tn, .type Un], f d || g d, rfl, upd_same, .cons (.ty Tn) (.cons (.ty Un) .nil), t2.ty (r1.gh.trans su), hkk, ?_⟩
  exact k _ (.val (.bool (f d || g d))) G1 ρ1 _ (r1.fresh n) s1 (.bl _) q2
end
end PL
namespace PL
open PySem PySem.Spec PyProof.Rows L2
/-! ### targets -/
abbrev TGp := D → Ro → (Ro → Prop) → Prop
abbrev TGsp := List D → Ro → (Ro → Prop) → Prop
def Out (ts : List Nat) (σ σ' : St) : Prop := σ'.length = σ.length ∧ ∀ i, i ∉ ts → σ'[i]? = σ[i]?
theorem Out.refl (ts : List Nat) (σ : St) : Out ts σ σ := ⟨rfl, fun _ _ => rfl⟩
theorem Out.trans {ts us : List Nat} {σ σ' σ'' : St} (a : Out ts σ σ') (b : Out us σ' σ'') : Out (ts ++ us) σ σ'' :=
  ⟨b.1.trans a.1, fun i h => by rw [List.mem_append, not_or] at h; rw [b.2 i h.2, a.2 i h.1]⟩
theorem wipe_get (σ : St) : ∀ (vs : List Nat) (i : Nat), (wipe σ vs)[i]? = if i ∈ vs then (if i < σ.length then some none else none) else σ[i]?
  | [], i => by simp [wipe]
  | v :: vs, i => by
    unfold wipe
    rw [List.getElem?_set, wipe_length, wipe_get σ vs i]
    by_cases h : v = i
    · subst h; simp
    · rw [if_neg h]
      have h' : ¬ i = v := fun z => h z.symm
      simp [h']
theorem Out.wipe {ts vs : List Nat} {σ σ' : St} (h : Out ts σ σ') (hs : ∀ i ∈ ts, i ∈ vs) : wipe σ' vs = wipe σ vs := by
  apply List.ext_getElem?
  intro i
  rw [wipe_get, wipe_get, h.1]
  by_cases hi : i ∈ vs
  · rw [if_pos hi, if_pos hi]
  · rw [if_neg hi, if_neg hi]
    exact h.2 i fun z => hi (hs i z)
structure SG (X : Cx) (tg : Expr) (ts : List Nat) (g : TGp) : Prop where
  run : ∃ t, PG X tg t ∧ ∀ (B : Bs) (G0 G : Hp) (ρ : Ro) (σ : St) (H : Hp) (v : V) (d : D) (Q : Ro → Prop) (Q' : St → Hp → Prop), R X.K B G0 G ρ σ H → Rep X.K G v d → g d ρ Q →
    (∀ ρ' σ', R X.K B G0 G ρ' σ' H → Out ts σ σ' → Q ρ' → Q' σ' H) → t v σ H Q'
structure SGs (X : Cx) (tgs : List Expr) (ts : List Nat) (g : TGsp) : Prop where
  run : ∃ t, PGs X tgs t ∧ ∀ (B : Bs) (G0 G : Hp) (ρ : Ro) (σ : St) (H : Hp) (vs : List V) (ds : List D) (Q : Ro → Prop) (Q' : St → Hp → Prop), R X.K B G0 G ρ σ H → RepL X.K G vs ds → g ds ρ Q →
    (∀ ρ' σ', R X.K B G0 G ρ' σ' H → Out ts σ σ' → Q ρ' → Q' σ' H) → t vs σ H Q'
section
variable {X : Cx} {e a b c : Expr} {es rest : List Expr} {pos : Pos}
def gN (i : Nat) : TGp := fun d ρ Q => i < ρ.length ∧ Q (ρ.set i (.fz d))
theorem out_set (σ : St) (i : Nat) (v : Option V) : Out [i] σ (σ.set i v) := ⟨List.length_set, fun j h => List.getElem?_set_ne fun z => h (by rw [z]; exact List.mem_singleton.mpr rfl)⟩
theorem g_name (i : Nat) {x : Str} (hN : X.N.Nodup) (hi : X.N[i]? = some x := by rfl) (hx : Loc X.env.scope x := by first | exact Or.inl rfl | exact Or.inr rfl) (hf : X.fn x = true ∨ X.env.scope.names.lookup x = some .local := by first | exact .inl rfl | exact .inr rfl | assumption) : SG X (.Name x pos) [i] (gN i) :=
  ⟨_, pg_name hN hi hx hf, fun B G0 G ρ σ H v d Q Q' r rp q k => k _ _ (r.setF rp q.1) (out_set σ i _) q.2⟩
def gNl : TGsp := fun ds ρ Q => match ds with
  | [] => Q ρ
  | _ => False
def gCs (t : TGp) (u : TGsp) : TGsp := fun ds ρ Q => match ds with
  | d :: ds => t d ρ fun ρ' => u ds ρ' Q
  | _ => False
theorem gs_nil : SGs X [] [] gNl := by
  refine ⟨_, pgs_nil, fun B G0 G ρ σ H vs ds Q Q' r rl q k => ?_⟩
  match ds, q with
  | [], q => exact ⟨rl.nilInv, k ρ σ r (Out.refl _ _) q⟩
theorem gs_cons {t : TGp} {u : TGsp} {ts us : List Nat} (h1 : SG X e ts t) (h2 : SGs X es us u) (hs : (assignEach (e :: es) X.env).map (·.2) = assign e X.env :: (assignEach es X.env).map (·.2) := by rfl) : SGs X (e :: es) (ts ++ us) (gCs t u) := by
  obtain ⟨t1, p1, r1⟩ := h1.run
  obtain ⟨t2, p2, r2⟩ := h2.run
  refine ⟨_, pgs_cons p1 p2 hs, fun B G0 G ρ σ H vs ds Q Q' r rl q k => ?_⟩
  match ds, q with
  | d :: ds, q =>
    obtain ⟨v, vr, rfl, rp, rt⟩ := rl.consInv
    exact ⟨v, vr, rfl, r1 B G0 G ρ σ H v d _ _ r rp q fun ρ1 σ1 ra o1 q1 => r2 B G0 G ρ1 σ1 H vr ds _ _ ra rt q1 fun ρ2 σ2 rb o2 q2 => k ρ2 σ2 rb (o1.trans o2) q2⟩
def gTu (n : Nat) (u : TGsp) : TGp := fun d ρ Q => match d with
  | .tuple ds => ds.length = n ∧ u ds ρ Q
  | _ => False
theorem g_tup {k : Nat} {u : TGsp} {ts : List Nat} {n : Nat} (hc : X.calm = true) (h : SGs X es ts u) (hn : (assignEach es X.env).length = n := by rfl) (hst : (assignEach es X.env).findIdx? (·.1) = none := by rfl) : SG X (.Tuple es k pos) ts (gTu n u) := by
  obtain ⟨t2, p2, r2⟩ := h.run
  refine ⟨_, pg_tup hc p2 hn hst, fun B G0 G ρ σ H v d Q Q' r rp q k => ?_⟩
  match d, q with
  | .tuple ds, q =>
    obtain ⟨a, xs, rfl, h1, l1⟩ := Top.tuple r.gh (.inl rp)
    exact ⟨a, xs, rfl, h1, by rw [l1.len]; exact q.1, r2 B G0 G ρ σ H xs ds _ _ r l1 q.2 k⟩
end
/-! ### statements -/
structure PEnds where
  nx : Ro → Prop
  rt : Opd → Ro → Prop
  bk : Ro → Prop := fun _ => False
  ct : Ro → Prop := fun _ => False
abbrev TSp := PEnds → Ro → Prop
theorem Out.mono {ts us : List Nat} {σ σ' : St} (h : Out ts σ σ') (s : ∀ i ∈ ts, i ∈ us) : Out us σ σ' := ⟨h.1, fun i hi => h.2 i fun z => hi (s i z)⟩
theorem Out.trans' {ts : List Nat} {σ σ' σ'' : St} (a : Out ts σ σ') (b : Out ts σ' σ'') : Out ts σ σ'' := ⟨b.1.trans a.1, fun i h => by rw [b.2 i h, a.2 i h]⟩
theorem Out.l {ts us : List Nat} {σ σ' : St} (h : Out ts σ σ') : Out (ts ++ us) σ σ' := h.mono fun _ hi => List.mem_append_left _ hi
theorem Out.r {ts us : List Nat} {σ σ' : St} (h : Out us σ σ') : Out (ts ++ us) σ σ' := h.mono fun _ hi => List.mem_append_right _ hi
structure EndsOk (K : PySem.W.Frag) (B : Bs) (G0 : Hp) (σ0 : St) (ts : List Nat) (D : PEnds) (D' : Ends) : Prop where
  nx : ∀ G ρ σ H, R K B G0 G ρ σ H → Out ts σ0 σ → D.nx ρ → D'.nx σ H
  rt : ∀ v o G ρ σ H, R K B G0 G ρ σ H → Out ts σ0 σ → OpOk K G σ v o → D.rt o ρ → D'.rt v H
  bk : ∀ G ρ σ H, R K B G0 G ρ σ H → Out ts σ0 σ → D.bk ρ → D'.bk σ H
  ct : ∀ G ρ σ H, R K B G0 G ρ σ H → Out ts σ0 σ → D.ct ρ → D'.ct σ H
theorem EndsOk.sub {K : PySem.W.Frag} {B : Bs} {G0 : Hp} {σ0 σ1 : St} {ts us : List Nat} {D : PEnds} {D' : Ends} (k : EndsOk K B G0 σ0 ts D D') (h : ∀ σ, Out us σ1 σ → Out ts σ0 σ) : EndsOk K B G0 σ1 us D D' :=
  ⟨fun G ρ σ H r o => k.nx G ρ σ H r (h σ o), fun v o' G ρ σ H r o => k.rt v o' G ρ σ H r (h σ o), fun G ρ σ H r o => k.bk G ρ σ H r (h σ o), fun G ρ σ H r o => k.ct G ρ σ H r (h σ o)⟩
structure SS (X : Cx) (st : Stmt) (ts : List Nat) (p : TSp) : Prop where
  run : ∃ t, PS X st t ∧ ∀ (B : Bs) (G0 G : Hp) (ρ : Ro) (σ : St) (H : Hp) (D : PEnds) (D' : Ends), R X.K B G0 G ρ σ H → EndsOk X.K B G0 σ ts D D' → p D ρ → t D' σ H
structure SSs (X : Cx) (st : List Stmt) (ts : List Nat) (p : TSp) : Prop where
  run : ∃ t, PSs X st t ∧ ∀ (B : Bs) (G0 G : Hp) (ρ : Ro) (σ : St) (H : Hp) (D : PEnds) (D' : Ends), R X.K B G0 G ρ σ H → EndsOk X.K B G0 σ ts D D' → p D ρ → t D' σ H
section
variable {X : Cx} {e a b c : Expr} {es rest : List Expr} {pos : Pos} {st : Stmt} {sts body : List Stmt} {p q : TSp} {pe : TEp} {pt : TTp} {ts us : List Nat}
def pNx : TSp := fun D ρ => D.nx ρ
def pSeq (p q : TSp) : TSp := fun D ρ => p { D with nx := fun ρ' => q D ρ' } ρ
theorem ss_nil : SSs X [] [] pNx := ⟨_, pss_nil, fun B G0 G ρ σ H D D' r k q => k.nx G ρ σ H r (Out.refl _ _) q⟩
theorem ss_cons (h1 : SS X st ts p) (h2 : SSs X sts us q) : SSs X (st :: sts) (ts ++ us) (pSeq p q) := by
  obtain ⟨t1, p1, r1⟩ := h1.run
  obtain ⟨t2, p2, r2⟩ := h2.run
  refine ⟨_, pss_cons p1 p2, fun B G0 G ρ σ H D D' r k w => ?_⟩
  have k1 : EndsOk X.K B G0 σ ts D D' := k.sub fun σ' o => o.l
  exact r1 B G0 G ρ σ H { D with nx := fun ρ' => q D ρ' } _ r ⟨fun G' ρ' σ' H' r' o' w' => r2 B G0 G' ρ' σ' H' D D' r' (k.sub fun σ2 o2 => o'.trans o2) w', k1.rt, k1.bk, k1.ct⟩ w
theorem ss_one (h1 : SS X st ts p) : SSs X [st] ts p := by
  obtain ⟨t1, p1, r1⟩ := h1.run
  exact ⟨_, pss_one p1, r1⟩
theorem st_pass : SS X (.Pass pos) [] pNx := ⟨_, ps_pass, fun B G0 G ρ σ H D D' r k q => k.nx G ρ σ H r (Out.refl _ _) q⟩
def pBk : TSp := fun D ρ => D.bk ρ
def pCt : TSp := fun D ρ => D.ct ρ
theorem st_break : SS X (.Break pos) [] pBk := ⟨_, ps_break, fun B G0 G ρ σ H D D' r k q => k.bk G ρ σ H r (Out.refl _ _) q⟩
theorem st_cont : SS X (.Continue pos) [] pCt := ⟨_, ps_continue, fun B G0 G ρ σ H D D' r k q => k.ct G ρ σ H r (Out.refl _ _) q⟩
def pEx (pe : TEp) : TSp := fun D ρ => pe ρ fun _ ρ1 => D.nx ρ1
theorem st_expr (he : SE X e pe) (hs : swapsWith e none pos.line X.env = pure false := by rfl) : SS X (.Expr e pos) [] (pEx pe) := by
  obtain ⟨t, et, rt⟩ := he.run
  exact ⟨_, ps_expr et hs, fun B G0 G ρ σ H D D' r k q => rt B G0 G ρ σ H _ _ r q fun v o G' ρ' H' r' _ _ q' => k.nx G' ρ' σ H' r' (Out.refl _ _) q'⟩
def pRet (pe : TEp) : TSp := fun D ρ => pe ρ D.rt
theorem st_ret (he : SE X e pe) : SS X (.Return (some e) pos) [] (pRet pe) := by
  obtain ⟨t, et, rt⟩ := he.run
  exact ⟨_, ps_ret et, fun B G0 G ρ σ H D D' r k q => rt B G0 G ρ σ H _ _ r q fun v o G' ρ' H' r' _ ov q' => k.rt v o G' ρ' σ H' r' (Out.refl _ _) ov q'⟩
def pRetN : TSp := fun D ρ => D.rt (.val .none) ρ
theorem st_retN : SS X (.Return none pos) [] pRetN := ⟨_, ps_retN, fun B G0 G ρ σ H D D' r k q => k.rt .non (.val .none) G ρ σ H r (Out.refl _ _) .non q⟩
def pIf (pt : TTp) (p q : TSp) : TSp := fun D ρ => pt ρ fun b ρ1 => if b = true then p D ρ1 else q D ρ1
theorem st_if {xs ys : List Stmt} (hc : ST X c pt) (ha : SSs X xs ts p) (hb : SSs X ys us q) : SS X (.If c xs ys pos) (ts ++ us) (pIf pt p q) := by
  obtain ⟨tc, ec, rc⟩ := hc.run
  obtain ⟨t1, p1, r1⟩ := ha.run
  obtain ⟨t2, p2, r2⟩ := hb.run
  refine ⟨_, ps_if ec p1 p2, fun B G0 G ρ σ H D D' r k w => ?_⟩
  refine rc B G0 G ρ σ H _ _ r w fun b G' ρ' H' r' _ w' => ?_
  cases b with
  | true => rw [if_pos rfl] at w' ⊢; exact r1 B G0 G' ρ' σ H' D D' r' (k.sub fun _ o => o.l) w'
  | false => rw [if_neg Bool.false_ne_true] at w' ⊢; exact r2 B G0 G' ρ' σ H' D D' r' (k.sub fun _ o => o.r) w'
/-- target = value, frozen -/
def pAs (pe : TEp) (g : TGp) : TSp := fun D ρ => pe ρ fun o ρ1 => esc o ρ1 fun d ρ2 => g d ρ2 D.nx
theorem st_as {tg : Expr} {g : TGp} (he : SE X e pe) (hg : SG X tg ts g) (hs : swapsWithSole [tg] e pos.line X.env = pure false := by rfl) (hw : swappedStores [tg] e X.env = pure none := by rfl)
    (h1 : (assignEach [tg] X.env).map (·.2) = [assign tg X.env] := by rfl) : SS X (.Assign [tg] e pos) ts (pAs pe g) := by
  obtain ⟨t, et, rt⟩ := he.run
  obtain ⟨u, eu, ru⟩ := hg.run
  refine ⟨_, ps_asg et eu hs hw h1, fun B G0 G ρ σ H D D' r k w => ?_⟩
  refine rt B G0 G ρ σ H _ _ r w fun v o G1 ρ1 H1 r1 s1 o1 w1 => ?_
  obtain ⟨d, G2, ρ2, s2, rp, r2, w2⟩ := esc_ok r1 o1 w1
  exact ru B G0 G2 ρ2 σ H1 v d _ _ r2 rp w2 fun ρ3 σ3 r3 o3 w3 => k.nx G2 ρ3 σ3 H1 r3 o3 w3
/-- name = value, made anew, one's own -/
def pSo (i : Nat) (pf : TFp) : TSp := fun D ρ => pf ρ fun d ρ1 => i < ρ1.length ∧ D.nx (ρ1.set i (.ow d))
theorem st_so (i : Nat) {x : Str} {pf : TFp} {pos' : Pos} (hN : X.N.Nodup) (hf' : SF X e pf) (hi : X.N[i]? = some x := by rfl) (hx : Loc X.env.scope x := by first | exact Or.inl rfl | exact Or.inr rfl) (hs : swapsWith e (some (.Name x pos')) pos.line X.env = pure false := by rfl) (hf : X.fn x = true ∨ X.env.scope.names.lookup x = some .local := by first | exact .inl rfl | exact .inr rfl | assumption) :
    SS X (.Assign [.Name x pos'] e pos) [i] (pSo i pf) := by
  obtain ⟨t, et, rt⟩ := hf'.run
  refine ⟨_, ps_set hN hi hx et hs hf, fun B G0 G ρ σ H D D' r k w => ?_⟩
  refine rt B G0 G ρ σ H _ _ r w fun a o d G1 ρ1 H1 r1 s1 h1 h2 h3 h4 ap w1 => ?_
  exact k.nx G1 _ _ H1 (r1.setO h1 h2 h3 h4 ap w1.1) (out_set _ _ _) w1.2
/-- name = value, frozen, by ps_set -/
def pSf (i : Nat) (pe : TEp) : TSp := fun D ρ => pe ρ fun o ρ1 => esc o ρ1 fun d ρ2 => i < ρ2.length ∧ D.nx (ρ2.set i (.fz d))
theorem st_sf (i : Nat) {x : Str} {pos' : Pos} (hN : X.N.Nodup) (he : SE X e pe) (hi : X.N[i]? = some x := by rfl) (hx : Loc X.env.scope x := by first | exact Or.inl rfl | exact Or.inr rfl) (hs : swapsWith e (some (.Name x pos')) pos.line X.env = pure false := by rfl) (hf : X.fn x = true ∨ X.env.scope.names.lookup x = some .local := by first | exact .inl rfl | exact .inr rfl | assumption) :
    SS X (.Assign [.Name x pos'] e pos) [i] (pSf i pe) := by
  obtain ⟨t, et, rt⟩ := he.run
  refine ⟨_, ps_set hN hi hx et hs hf, fun B G0 G ρ σ H D D' r k w => ?_⟩
  refine rt B G0 G ρ σ H _ _ r w fun v o G1 ρ1 H1 r1 s1 o1 w1 => ?_
  obtain ⟨d, G2, ρ2, s2, rp, r2, w2⟩ := esc_ok r1 o1 w1
  exact k.nx G2 _ _ H1 (r2.setF rp w2.1) (out_set _ _ _) w2.2
/-! ### while -/
def pWh (pt : TTp) (p : TSp) : TSp := fun D ρ => ∃ W : Nat → Ro → Prop, (∃ m, W m ρ) ∧ ∀ m ρ, W m ρ →
  pt ρ fun b ρ1 => if b = true then p { D with nx := fun ρ' => ∃ m', m' < m ∧ W m' ρ', ct := fun ρ' => ∃ m', m' < m ∧ W m' ρ', bk := D.nx } ρ1 else D.nx ρ1
theorem st_while (hp : PassesOwn (model X.prog X.w) X.A X.env X.xe) (hc : ST X c pt) (hb : SSs X body ts p) : SS X (.While c body [] pos) ts (pWh pt p) := by
  obtain ⟨tc, ec, rc⟩ := hc.run
  obtain ⟨t1, p1, r1⟩ := hb.run
  refine ⟨_, ps_while hp ec p1, fun B G0 G ρ σ H D D' r k w => ?_⟩
  obtain ⟨W, ⟨m0, w0⟩, turn⟩ := w
  refine ⟨fun m σ' H' => ∃ G' ρ', R X.K B G0 G' ρ' σ' H' ∧ Out ts σ σ' ∧ W m ρ', ⟨m0, G, ρ, r, Out.refl _ _, w0⟩, fun m σ1 H1 w1 => ?_⟩
  obtain ⟨G1, ρ1, ra, oa, w1⟩ := w1
  refine rc B G0 G1 ρ1 σ1 H1 _ _ ra (turn m ρ1 w1) fun b G2 ρ2 H2 rb _ w2 => ?_
  cases b with
  | true =>
    rw [if_pos rfl] at w2 ⊢
    refine ⟨fun σ' H' => ∃ m', m' < m ∧ ∃ G' ρ', R X.K B G0 G' ρ' σ' H' ∧ Out ts σ σ' ∧ W m' ρ', fun σ' H' h => h, ?_⟩
    refine r1 B G0 G2 ρ2 σ1 H2 { D with nx := fun ρ' => ∃ m', m' < m ∧ W m' ρ', ct := fun ρ' => ∃ m', m' < m ∧ W m' ρ', bk := D.nx } _ rb ⟨?_, fun v o G' ρ' σ' H' r' o' => k.rt v o G' ρ' σ' H' r' (oa.trans' o'), fun G' ρ' σ' H' r' o' => k.nx G' ρ' σ' H' r' (oa.trans' o'), ?_⟩ w2
    · rintro G' ρ' σ' H' r' o' ⟨m', hm, w'⟩
      exact ⟨m', hm, G', ρ', r', oa.trans' o', w'⟩
    · rintro G' ρ' σ' H' r' o' ⟨m', hm, w'⟩
      exact ⟨m', hm, G', ρ', r', oa.trans' o', w'⟩
  | false =>
    rw [if_neg Bool.false_ne_true] at w2 ⊢
    exact k.nx G2 ρ2 σ1 H2 rb oa w2
/-! ### what is walked -/
abbrev TIp' := Ro → (List D → Ro → Prop) → Prop
def Walkd (K : PySem.W.Frag) (B : Bs) (G : Hp) (J : It) (ds : List D) : Prop := ∀ (i : Nat) (G1 H1 : Hp), Same G G1 → Same G1 H1 → Same B.keep H1 →
  (∀ d, ds[i]? = some d → J.go i H1 ∧ ∀ x H2, J.yld i H1 x H2 → ∃ G2, Grow G1 H1 G2 H2 ∧ Rep K G2 x d) ∧ (ds[i]? = none → J.stop i H1)
theorem Walkd.mono {K : PySem.W.Frag} {B B' : Bs} {G G' : Hp} {J : It} {ds : List D} (h : Walkd K B G J ds) (e : Same G G') (eb : Same B.keep B'.keep) : Walkd K B' G' J ds := fun i G1 H1 s1 s2 s3 => h i G1 H1 (e.trans s1) s2 (eb.trans s3)
structure SI (X : Cx) (tg iter : Expr) (p : TIp') : Prop where
  run : ∃ wi, PI X tg iter wi ∧ ∀ (B : Bs) (G0 G : Hp) (ρ : Ro) (σ : St) (H : Hp) (Q : List D → Ro → Prop) (Q' : It → Hp → Prop), R X.K B G0 G ρ σ H → p ρ Q →
    (∀ J ds G' ρ' H', R X.K B G0 G' ρ' σ H' → Same G G' → Walkd X.K B G' J ds → Q ds ρ' → Q' J H') → wi σ H Q'
def pFor (pi : TIp') (g : TGp) (p : TSp) : TSp := fun D ρ => pi ρ fun ds ρ1 => ∃ I : Nat → Ro → Prop, I 0 ρ1 ∧
  (∀ i d ρ2, ds[i]? = some d → I i ρ2 → g d ρ2 fun ρ3 => p { D with nx := I (i + 1), ct := I (i + 1), bk := D.nx } ρ3) ∧ ∀ ρ2, I ds.length ρ2 → D.nx ρ2
theorem st_for {tg iter : Expr} {pi : TIp'} {g : TGp} (hp : PassesOwn (model X.prog X.w) X.A X.env X.xe) (hc : X.calm = true) (hi : SI X tg iter pi) (hg : SG X tg ts g) (hb : SSs X body us p)
    (hs : ∀ x, foldedSetIterable iter X.env x = pure x := by intro _; rfl) : SS X (.For tg iter body [] pos) (ts ++ us) (pFor pi g p) := by
  obtain ⟨wi, ei, ri⟩ := hi.run
  obtain ⟨tg', eg, rg⟩ := hg.run
  obtain ⟨t1, p1, r1⟩ := hb.run
  refine ⟨_, ps_for hp hc ei eg p1 hs, fun B G0 G ρ σ H D D' r k w => ?_⟩
  refine ri B G0 G ρ σ H _ _ r w fun J ds G1 ρ1 H1 ra s1 wk w1 => ?_
  obtain ⟨I, i0, turn, fin⟩ := w1
  refine ⟨fun i m σ' H' => m = ds.length - i ∧ i ≤ ds.length ∧ Out (ts ++ us) σ σ' ∧ ∃ G' ρ', R X.K B G0 G' ρ' σ' H' ∧ Same G1 G' ∧ I i ρ', ⟨ds.length, by simp, Nat.zero_le _, Out.refl _ _, G1, ρ1, ra, Same.refl _, i0⟩, ?_⟩
  rintro i m σ2 H2 ⟨rfl, hi, oa, G2, ρ2, rb, s2, ii⟩
  obtain ⟨go, stop⟩ := wk i G2 H2 s2 rb.gh rb.bh
  by_cases hlt : i < ds.length
  · obtain ⟨g1, y1⟩ := go ds[i] (List.getElem?_eq_getElem hlt)
    refine .inr ⟨g1, fun σ' H' => ∃ G' ρ', R X.K B G0 G' ρ' σ' H' ∧ I (i + 1) ρ' ∧ Same G1 G' ∧ Out (ts ++ us) σ σ', fun σ' H' ⟨G', ρ', r', i', s', o'⟩ => ⟨ds.length - (i + 1), by omega, rfl, hlt, o', G', ρ', r', s', i'⟩, fun x H3 y3 => ?_⟩
    obtain ⟨G3, gr, rp⟩ := y1 x H3 y3
    have rc := rb.grow gr
    have s3 := s2.trans (gr.same rb.gh)
    refine rg B G0 G3 ρ2 σ2 H3 x ds[i] _ _ rc rp (turn i ds[i] ρ2 (List.getElem?_eq_getElem hlt) ii) fun ρ3 σ3 rd od w3 => ?_
    have back : ∀ {G' : Hp} {ρ' : Ro} {σ' : St} {H' : Hp}, R X.K B G3 G' ρ' σ' H' → R X.K B G0 G' ρ' σ' H' := fun r' => rc.unbase r'
    have bo : ∀ {σ' : St}, Out us σ3 σ' → Out (ts ++ us) σ σ' := fun o' => oa.trans' (od.trans o')
    refine r1 B G3 G3 ρ3 σ3 H3 { D with nx := I (i + 1), ct := I (i + 1), bk := D.nx } _ rd.rebase ⟨?_, fun v o G' ρ' σ' H' r' o' => k.rt v o G' ρ' σ' H' (back r') (bo o'), fun G' ρ' σ' H' r' o' => k.nx G' ρ' σ' H' (back r') (bo o'), ?_⟩ w3
    · exact fun G' ρ' σ' H' r' o' w' => ⟨G', ρ', back r', w', s3.trans r'.g0, bo o'⟩
    · exact fun G' ρ' σ' H' r' o' w' => ⟨G', ρ', back r', w', s3.trans r'.g0, bo o'⟩
  · have e : i = ds.length := by omega
    subst e
    exact .inl ⟨stop (List.getElem?_eq_none (Nat.le_refl _)), k.nx G2 ρ2 σ2 H2 rb oa (fin ρ2 ii)⟩
end
end PL
namespace PL
open PySem PySem.Spec PyProof.Rows L2
/-! ### a def's contract -/
/-- how a parameter is handed: frozen, lent, given to be changed -/
inductive PM where
  | fz | bo | mu
  deriving DecidableEq
abbrev FS := List D → (D → List D → Prop) → Prop
/-- the addresses of what is given to be changed -/
def mutA : List PM → List V → List Addr
  | .mu :: ms, .ref a :: vs => a :: mutA ms vs
  | _ :: ms, _ :: vs => mutA ms vs
  | _, _ => []
section
variable (K : PySem.W.Frag) (G H : Hp) (mus : List Addr)
def ArgOk : PM → V → D → Prop
  | .fz, v, d => Rep K G v d
  | .bo, v, d => Rep K G v d ∨ ∃ a o, v = .ref a ∧ a ∉ mus ∧ RdD H a o ∧ Obj K G o d
  | .mu, v, d => ∃ a o, v = .ref a ∧ G a = none ∧ H a = some o ∧ Obj K G o d
inductive ArgsOk : List PM → List V → List D → Prop
  | nil : ArgsOk [] [] []
  | cons {m ms v vs d ds} (h : ArgOk K G H mus m v d) (t : ArgsOk ms vs ds) : ArgsOk (m :: ms) (v :: vs) (d :: ds)
/-- what the changed ones hold -/
inductive OutsOk : List Addr → List D → Prop
  | nil : OutsOk [] []
  | cons {a as d ds o} (h : H a = some o) (q : Obj K G o d) (t : OutsOk as ds) : OutsOk (a :: as) (d :: ds)
end
def ResOk (K : PySem.W.Frag) (ro : Bool) (G' H H' : Hp) (v : V) (d : D) : Prop := match ro with
  | false => Rep K G' v d
  | true => ∃ a o, v = .ref a ∧ H a = none ∧ G' a = none ∧ H' a = some o ∧ Obj K G' o d
def spOf (K : PySem.W.Frag) (ms : List PM) (ro : Bool) (fs : FS) : Sp := fun vs H Q _ => ∃ G ds, Same G H ∧ (mutA ms vs).Nodup ∧ ArgsOk K G H (mutA ms vs) ms vs ds ∧
  ∃ Qp : D → List D → Prop, fs ds Qp ∧ ∀ d outs, Qp d outs → ∀ G' H' v, Same G G' → Same G' H' → (∀ a o, H a = some o → a ∉ mutA ms vs → H' a = some o) → (∀ a, H a ≠ none → G a = none → G' a = none) → OutsOk K G' H' (mutA ms vs) outs → ResOk K ro G' H H' v d → Q v H'
theorem ArgsOk.len {K : PySem.W.Frag} {G H : Hp} {mus : List Addr} : ∀ {ms : List PM} {vs : List V} {ds : List D}, ArgsOk K G H mus ms vs ds → vs.length = ms.length
  | _, _, _, .nil => rfl
  | _, _, _, .cons _ t => by simp [t.len]
structure Fn (P : Program) (w : World) (K : PySem.W.Frag) (mg : Str → Option Value) (base : Heap) (k : Nat) (x : Str) (ms : List PM) (ro : Bool) (fs : FS) : Prop where
  ex : ∃ f fd ps, mg x = some (.ref f) ∧ PySem.W.keepIn K (.ref f) = true ∧ Binds K fd ps [] ∧ FnOk P w K mg base CX0 k f fd ps (spOf K ms ro fs)
theorem Fn.mono {P : Program} {w : World} {K : PySem.W.Frag} {mg : Str → Option Value} {base : Heap} {k j : Nat} {x : Str} {ms : List PM} {ro : Bool} {fs : FS} (F : Fn P w K mg base k x ms ro fs) (h : k ≤ j) : Fn P w K mg base j x ms ro fs := by
  obtain ⟨f, fd, ps, h1, h2, h3, h4⟩ := F.ex
  exact ⟨f, fd, ps, h1, h2, h3, h4.mono h⟩
theorem Fn.imp {P : Program} {w : World} {K : PySem.W.Frag} {mg : Str → Option Value} {base : Heap} {k : Nat} {x : Str} {ms : List PM} {ro : Bool} {fs fs' : FS} (F : Fn P w K mg base k x ms ro fs) (h : ∀ ds Q, fs' ds Q → fs ds Q) : Fn P w K mg base k x ms ro fs' := by
  obtain ⟨f, fd, ps, h1, h2, h3, h4⟩ := F.ex
  refine ⟨f, fd, ps, h1, h2, h3, h4.imp fun vs H Q E q => ?_⟩
  obtain ⟨G, ds, s, nd, a, Qp, q, q'⟩ := q
  exact ⟨G, ds, s, nd, a, Qp, h _ _ q, q'⟩
/-! ### a call -/
/-- the operands' data, by the ways they are handed -/
def argsD : List PM → List Opd → Ro → (List D → Ro → Prop) → Prop
  | [], [], ρ, Q => Q [] ρ
  | .fz :: ms, o :: os, ρ, Q => esc o ρ fun d ρ1 => argsD ms os ρ1 fun ds ρ2 => Q (d :: ds) ρ2
  | .bo :: ms, o :: os, ρ, Q => argsD ms os ρ fun ds ρ2 => pk o ρ2 fun d => Q (d :: ds) ρ2
  | .mu :: ms, o :: os, ρ, Q => argsD ms os ρ fun ds ρ2 => match o with
    | .slot j => (match ρ2[j]? with
      | some (.ow d) => Q (d :: ds) ρ2
      | _ => False)
    | _ => False
  | _, _, _, _ => False
def muS : List PM → List Opd → List Nat
  | .mu :: ms, .slot j :: os => j :: muS ms os
  | _ :: ms, _ :: os => muS ms os
  | _, _ => []
def boS : List PM → List Opd → List Nat
  | .bo :: ms, .slot j :: os => j :: boS ms os
  | _ :: ms, _ :: os => boS ms os
  | _, _ => []
def disj (ms : List PM) (os : List Opd) : Bool := (muS ms os).all (fun j => !(boS ms os).contains j) && decide (muS ms os).Nodup
def dropS : List Nat → Ro → Ro
  | [], ρ => ρ
  | j :: js, ρ => (dropS js ρ).set j .no
def putS : List Nat → List D → Ro → Ro
  | j :: js, d :: ds, ρ => (putS js ds ρ).set j (.ow d)
  | _, _, ρ => ρ
def qCall (ms : List PM) (fs : FS) (pr : TAp) : TEp := fun ρ Q => pr ρ fun os ρ1 => disj ms os = true ∧ argsD ms os ρ1 fun ds ρ2 => fs ds fun d outs => Q (.val d) (putS (muS ms os) outs (dropS (muS ms os) ρ2))
def qCallF (ms : List PM) (fs : FS) (pr : TAp) : TFp := fun ρ Q => pr ρ fun os ρ1 => disj ms os = true ∧ argsD ms os ρ1 fun ds ρ2 => fs ds fun d outs => Q d (putS (muS ms os) outs (dropS (muS ms os) ρ2))
section
variable {K : PySem.W.Frag} {B : Bs} {G0 : Hp} {σ : St} {H : Hp}
/-- slots that hold what is at the addresses -/
inductive Held (σ : St) : List Nat → List Addr → Prop
  | nil : Held σ [] []
  | cons {j js a as} (h : σ[j]? = some (some (.ref a))) (t : Held σ js as) : Held σ (j :: js) (a :: as)
theorem Held.mem {js : List Nat} {as : List Addr} (h : Held σ js as) {a : Addr} (q : a ∈ as) : ∃ j, j ∈ js ∧ σ[j]? = some (some (.ref a)) := by
  induction h with
  | nil => cases q
  | cons h t ih =>
    rcases List.mem_cons.mp q with rfl | q
    · exact ⟨_, List.mem_cons_self, h⟩
    · obtain ⟨j, h1, h2⟩ := ih q
      exact ⟨j, List.mem_cons_of_mem _ h1, h2⟩
theorem Held.memJ {js : List Nat} {as : List Addr} (h : Held σ js as) {j : Nat} (q : j ∈ js) : ∃ a, a ∈ as ∧ σ[j]? = some (some (.ref a)) := by
  induction h with
  | nil => cases q
  | cons h t ih =>
    rcases List.mem_cons.mp q with rfl | q
    · exact ⟨_, List.mem_cons_self, h⟩
    · obtain ⟨j, h1, h2⟩ := ih q
      exact ⟨j, List.mem_cons_of_mem _ h1, h2⟩
def OwnS (ρ : Ro) (js : List Nat) : Prop := ∀ j ∈ js, ∃ d, ρ[j]? = some (Sl.ow d)
theorem argsD_ok : ∀ {ms : List PM} {os : List Opd} {vs : List V} {G : Hp} {ρ : Ro} {Q : List D → Ro → Prop}, R K B G0 G ρ σ H → Paired (OpOk K G σ) vs os → argsD ms os ρ Q →
    ∃ ds G' ρ', Same G G' ∧ R K B G0 G' ρ' σ H ∧ Q ds ρ' ∧ OwnS ρ' (muS ms os) ∧ Held σ (muS ms os) (mutA ms vs) ∧
      (∀ mus : List Addr, (∀ a ∈ mus, ∃ j d, j ∉ boS ms os ∧ ρ'[j]? = some (Sl.ow d) ∧ σ[j]? = some (some (.ref a))) → ArgsOk K G' H mus ms vs ds)
  | [], [], _, G, ρ, Q, r, .nil, q => ⟨[], G, ρ, Same.refl _, r, q, fun _ h => absurd h (by simp [muS]), .nil, fun _ _ => .nil⟩
  | .fz :: ms, o :: os, v :: vs, G, ρ, Q, r, .cons h t, q => by
    obtain ⟨d, G1, ρ1, s1, rp, r1, q1⟩ := esc_ok r h q
    obtain ⟨ds, G2, ρ2, s2, r2, q2, ow, hd, ao⟩ := argsD_ok r1 (Paired.mono' s1 t) q1
    have e1 : muS (.fz :: ms) (o :: os) = muS ms os := by cases o <;> rfl
    have e2 : mutA (.fz :: ms) (v :: vs) = mutA ms vs := by cases v <;> rfl
    have e3 : boS (.fz :: ms) (o :: os) = boS ms os := by cases o <;> rfl
    rw [e1, e2, e3]
    exact ⟨d :: ds, G2, ρ2, s1.trans s2, r2, q2, ow, hd, fun mus hm => .cons (rp.mono s2) (ao mus hm)⟩
  | .bo :: ms, o :: os, v :: vs, G, ρ, Q, r, .cons h t, q => by
    obtain ⟨ds, G2, ρ2, s2, r2, q2, ow, hd, ao⟩ := argsD_ok r t q
    have e1 : muS (.bo :: ms) (o :: os) = muS ms os := by cases o <;> rfl
    have e2 : mutA (.bo :: ms) (v :: vs) = mutA ms vs := by cases v <;> rfl
    rw [e1, e2]
    have sub : ∀ {mus : List Addr}, (∀ a ∈ mus, ∃ j d, j ∉ boS (.bo :: ms) (o :: os) ∧ ρ2[j]? = some (Sl.ow d) ∧ σ[j]? = some (some (.ref a))) → ∀ a ∈ mus, ∃ j d, j ∉ boS ms os ∧ ρ2[j]? = some (Sl.ow d) ∧ σ[j]? = some (some (.ref a)) := fun hm a ha => by
      obtain ⟨j, d', hj, e4, e5⟩ := hm a ha
      refine ⟨j, d', fun z => hj ?_, e4, e5⟩
      cases o with
      | val _ => exact z
      | slot _ => exact List.mem_cons_of_mem _ z
    cases o with
    | val d => exact ⟨d :: ds, G2, ρ2, s2, r2, q2, ow, hd, fun mus hm => .cons (.inl (h.mono s2)) (ao mus (sub hm))⟩
    | slot j' =>
      have h' : σ[j']? = some (some v) := h
      unfold pk at q2
      simp only at q2
      split at q2
      · rename_i d e
        obtain ⟨w, e5, hr⟩ := (r2.slot j' _ e).frz
        rw [h'] at e5; cases e5
        exact ⟨d :: ds, G2, ρ2, s2, r2, q2, ow, hd, fun mus hm => .cons (.inl hr) (ao mus (sub hm))⟩
      · rename_i d e
        obtain ⟨a, ob, e5, h1, h2, h3, h4⟩ := (r2.slot j' _ e).own
        rw [h'] at e5; cases e5
        refine ⟨d :: ds, G2, ρ2, s2, r2, q2, ow, hd, fun mus hm => .cons (.inr ⟨a, ob, rfl, fun ha => ?_, .inl h3, h4⟩) (ao mus (sub hm))⟩
        obtain ⟨j, d', hj, e6, e7⟩ := hm a ha
        have hjj : j' ≠ j := fun z => hj (z ▸ (List.mem_cons_self : j' ∈ boS (.bo :: ms) (.slot j' :: os)))
        exact r2.apart j' j d d' a hjj e e6 h' e7
      · rename_i d e
        obtain ⟨w, e5, hr⟩ := (r2.slot j' _ e).bor
        rw [h'] at e5; cases e5
        refine ⟨d :: ds, G2, ρ2, s2, r2, q2, ow, hd, fun mus hm => .cons ?_ (ao mus (sub hm))⟩
        rcases hr with hr | ⟨a, ob, rfl, h3, h4⟩
        · exact .inl hr
        · refine .inr ⟨a, ob, rfl, fun ha => ?_, h3.mono (B.le.trans r2.bh), h4⟩
          obtain ⟨j, d', hj, e6, e7⟩ := hm a ha
          obtain ⟨a', o', e8, b1, _⟩ := (r2.slot j _ e6).own
          rw [e7] at e8; cases e8
          rcases h3 with h3 | ⟨_, _, _, h3⟩ <;> (rw [B.le _ _ h3] at b1; cases b1)
      · rename_i d e
        obtain ⟨a, ob, kvs, e5, h1, h4⟩ := (r2.slot j' _ e).lkd
        rw [h'] at e5; cases e5
        refine ⟨d :: ds, G2, ρ2, s2, r2, q2, ow, hd, fun mus hm => .cons (.inr ⟨a, _, rfl, fun ha => ?_, .inr ⟨ob, kvs, rfl, r2.bh _ _ (B.ll _ _ h1)⟩, h4⟩) (ao mus (sub hm))⟩
        obtain ⟨j, d', hj, e6, e7⟩ := hm a ha
        obtain ⟨a', o', e8, b1, _⟩ := (r2.slot j _ e6).own
        rw [e7] at e8; cases e8
        rw [B.ll _ _ h1] at b1; cases b1
      · exact q2.elim
  | .mu :: ms, .slot j :: os, v :: vs, G, ρ, Q, r, .cons h t, q => by
    obtain ⟨ds, G2, ρ2, s2, r2, q2, ow, hd, ao⟩ := argsD_ok r t q
    have h' : σ[j]? = some (some v) := h
    simp only at q2
    split at q2
    · rename_i d e
      obtain ⟨a, o, e2, b1, g1, h1, ob⟩ := (r2.slot j _ e).own
      rw [h'] at e2; cases e2
      refine ⟨d :: ds, G2, ρ2, s2, r2, q2, fun i hi => ?_, .cons h' hd, fun mus hm => .cons ⟨a, o, rfl, g1, h1, ob⟩ (ao mus hm)⟩
      rcases List.mem_cons.mp hi with rfl | hi
      · exact ⟨d, e⟩
      · exact ow i hi
    · exact q2.elim
  | .mu :: ms, .val d :: os, v :: vs, G, ρ, Q, r, .cons h t, q => by
    obtain ⟨ds, G2, ρ2, s2, r2, q2, ow, hd, ao⟩ := argsD_ok r t q
    exact q2.elim
  | [], _ :: _, _, _, _, _, _, _, q => q.elim
  | .fz :: _, [], _, _, _, _, _, _, q => q.elim
  | .bo :: _, [], _, _, _, _, _, _, q => q.elim
  | .mu :: _, [], _, _, _, _, _, _, q => q.elim
end
end PL
namespace PL
open PySem PySem.Spec PyProof.Rows L2
section
variable {K : PySem.W.Frag} {B : Bs} {G0 G G' : Hp} {ρ : Ro} {σ : St} {H H' : Hp}
theorem R.dropS (r : R K B G0 G ρ σ H) : ∀ js, R K B G0 G (dropS js ρ) σ H
  | [] => r
  | j :: js => (R.dropS r js).drop j
theorem dropS_get : ∀ {js : List Nat} {ρ : Ro} {i : Nat} {s : Sl}, (dropS js ρ)[i]? = some s → (i ∈ js ∧ s = .no) ∨ (i ∉ js ∧ ρ[i]? = some s)
  | [], ρ, i, s, h => .inr ⟨by simp, h⟩
  | j :: js, ρ, i, s, h => by
    unfold PL.dropS at h
    by_cases hj : j = i
    · subst hj
      rw [List.getElem?_set, if_pos rfl] at h
      split at h
      · cases h; exact .inl ⟨List.mem_cons_self, rfl⟩
      · cases h
    · rw [List.getElem?_set_ne hj] at h
      rcases dropS_get h with ⟨h1, h2⟩ | ⟨h1, h2⟩
      · exact .inl ⟨List.mem_cons_of_mem _ h1, h2⟩
      · exact .inr ⟨by simp only [List.mem_cons, not_or]; exact ⟨fun z => hj z.symm, h1⟩, h2⟩
theorem dropS_len : ∀ (js : List Nat) (ρ : Ro), (dropS js ρ).length = ρ.length
  | [], _ => rfl
  | j :: js, ρ => by unfold PL.dropS; rw [List.length_set, dropS_len js ρ]
theorem putS_len : ∀ (js : List Nat) (ds : List D) (ρ : Ro), (putS js ds ρ).length = ρ.length
  | [], _, _ => by unfold putS; rfl
  | j :: js, [], _ => by unfold putS; rfl
  | j :: js, d :: ds, ρ => by unfold putS; rw [List.length_set, putS_len js ds ρ]
theorem putS_own : ∀ {js : List Nat} {ds : List D} {ρ : Ro} {i : Nat} {e : D}, (putS js ds ρ)[i]? = some (Sl.ow e) → i ∈ js ∨ ρ[i]? = some (Sl.ow e)
  | [], _, _, _, _, h => .inr (by unfold putS at h; exact h)
  | j :: js, [], _, _, _, h => .inr (by unfold putS at h; exact h)
  | j :: js, d :: ds, ρ, i, e, h => by
    unfold putS at h
    by_cases hj : j = i
    · exact .inl (by rw [hj]; exact List.mem_cons_self)
    · rw [List.getElem?_set_ne hj] at h
      rcases putS_own h with h | h
      · exact .inl (List.mem_cons_of_mem _ h)
      · exact .inr h
theorem set_same {σ : St} {j : Nat} {v : Option V} (h : σ[j]? = some v) : σ.set j v = σ := by
  apply List.ext_getElem?
  intro i
  by_cases hj : j = i
  · subst hj
    rw [List.getElem?_set_self (List.getElem?_eq_some_iff.mp h).1, h]
  · rw [List.getElem?_set_ne hj]
theorem R.putS (r : R K B G0 G ρ σ H) : ∀ {js : List Nat} {as : List Addr} {outs : List D}, Held σ js as → OutsOk K G H as outs → as.Nodup → (∀ a ∈ as, B.keep a = none ∧ G a = none) →
    (∀ (i : Nat) (e : D), ρ[i]? = some (Sl.ow e) → ∀ a ∈ as, σ[i]? ≠ some (some (.ref a))) → R K B G0 G (putS js outs ρ) σ H
  | [], [], [], .nil, .nil, _, _, _ => r
  | j :: js, a :: as, d :: ds, .cons h t, .cons e q u, nd, bg, ap => by
    have ih := R.putS r t u (List.nodup_cons.mp nd).2 (fun b hb => bg b (List.mem_cons_of_mem _ hb)) fun i e hi b hb => ap i e hi b (List.mem_cons_of_mem _ hb)
    have hj : j < (PL.putS js ds ρ).length := by rw [ih.len]; exact (List.getElem?_eq_some_iff.mp h).1
    have := ih.setO (j := j) (a := a) (bg a List.mem_cons_self).1 (bg a List.mem_cons_self).2 e q (fun i e' hi hs => ?_) hj
    · rw [set_same h] at this
      exact this
    · rcases putS_own hi with hi | hi
      · obtain ⟨b, hb, eb⟩ := t.memJ hi
        rw [hs] at eb; cases eb
        exact (List.nodup_cons.mp nd).1 hb
      · exact ap i e' hi a List.mem_cons_self hs
theorem Held.nodup (r : R K B G0 G ρ σ H) {js : List Nat} {as : List Addr} (h : Held σ js as) (ow : OwnS ρ js) (nd : js.Nodup) : as.Nodup := by
  induction h with
  | nil => exact .nil
  | cons h t ih =>
    rename_i j js a as
    refine List.nodup_cons.mpr ⟨fun hb => ?_, ih (fun i hi => ow i (List.mem_cons_of_mem _ hi)) (List.nodup_cons.mp nd).2⟩
    obtain ⟨i, hi, ei⟩ := t.mem hb
    obtain ⟨d1, e1⟩ := ow j List.mem_cons_self
    obtain ⟨d2, e2⟩ := ow i (List.mem_cons_of_mem _ hi)
    exact r.apart j i d1 d2 a (fun z => (List.nodup_cons.mp nd).1 (z ▸ hi)) e1 e2 h ei
/-- behind a call -/
theorem R.after (r : R K B G0 G ρ σ H) {js : List Nat} {as : List Addr} {outs : List D} (h : Held σ js as) (ow : OwnS ρ js) (nd : js.Nodup) (s1 : Same G G') (s2 : Same G' H') (fr : ∀ a o, H a = some o → a ∉ as → H' a = some o)
    (sp : ∀ a, H a ≠ none → G a = none → G' a = none) (oo : OutsOk K G' H' as outs) : R K B G0 G' (PL.putS js outs (PL.dropS js ρ)) σ H' := by
  have own : ∀ a ∈ as, B.keep a = none ∧ G a = none ∧ H a ≠ none := fun a ha => by
    obtain ⟨j, hj, ej⟩ := h.mem ha
    obtain ⟨d, ed⟩ := ow j hj
    obtain ⟨b, o, e2, h1, h2, h3, _⟩ := (r.slot j _ ed).own
    rw [ej] at e2; cases e2
    exact ⟨h1, h2, by rw [h3]; simp⟩
  have r1 := r.dropS js
  have r2 : R K B G0 G' (PL.dropS js ρ) σ H' := by
    refine r1.step s1 s2 (fun a o e => fr a o (r.bh a o e) fun ha => ?_) (fun a h1 h2 => ?_) fun i d a o e1 e2 b1 g1 h1 _ => ?_
    · rw [(own a ha).1] at e; cases e
    · obtain ⟨o, e⟩ := Option.ne_none_iff_exists'.mp h1
      exact sp a (by rw [r.bh a o e]; simp) h2
    · have hn : a ∉ as := fun ha => by
        obtain ⟨j, hj, ej⟩ := h.mem ha
        obtain ⟨d2, ed⟩ := ow j hj
        rcases dropS_get e1 with ⟨_, z⟩ | ⟨hi, z⟩
        · cases z
        · exact r.apart i j d d2 a (fun z2 => hi (z2 ▸ hj)) z ed e2 ej
      exact ⟨sp a (by rw [h1]; simp) g1, fr a o h1 hn⟩
  refine R.putS r2 h oo (h.nodup r ow nd) (fun a ha => ⟨(own a ha).1, sp a (own a ha).2.2 (own a ha).2.1⟩) fun i e hi a ha hs => ?_
  obtain ⟨j, hj, ej⟩ := h.mem ha
  obtain ⟨d2, ed⟩ := ow j hj
  rcases dropS_get hi with ⟨_, z⟩ | ⟨hi, z⟩
  · cases z
  · exact r.apart i j e d2 a (fun z2 => hi (z2 ▸ hj)) z ed hs ej
end
section
variable {X : Cx} {e : Expr} {es : List Expr} {pos p : Pos} {x : Str} {k : Nat} {ms : List PM} {fs : FS} {pr : TAp}
theorem call_sp {ro : Bool} {B : Bs} {G0 G : Hp} {ρ : Ro} {σ : St} {H : Hp} {vs : List V} {os : List Opd} {Q' : VK} {QQ : D → Ro → Prop} {E : XK} (r : R X.K B G0 G ρ σ H) (o1 : Paired (OpOk X.K G σ) vs os) (dj : disj ms os = true)
    (q : argsD ms os ρ fun ds ρ2 => fs ds fun d outs => QQ d (putS (muS ms os) outs (dropS (muS ms os) ρ2)))
    (k : ∀ G' H' v d ρ', R X.K B G0 G' ρ' σ H' → Same G G' → (∀ a, H a = none → ∀ (i : Nat) (e : D), ρ'[i]? = some (Sl.ow e) → σ[i]? ≠ some (some (.ref a))) → QQ d ρ' → (match ro with
      | false => Rep X.K G' v d
      | true => ∃ a o, v = .ref a ∧ H a = none ∧ G' a = none ∧ H' a = some o ∧ Obj X.K G' o d) → Q' v H') : spOf X.K ms ro fs vs H Q' E := by
  unfold disj at dj
  rw [Bool.and_eq_true] at dj
  have nd : (muS ms os).Nodup := of_decide_eq_true dj.2
  obtain ⟨ds, G1, ρ1, s1, r1, q1, ow, hd, ao⟩ := argsD_ok r o1 q
  refine ⟨G1, ds, r1.gh, hd.nodup r1 ow nd, ao _ fun a ha => ?_, ?_⟩
  · obtain ⟨j, hj, ej⟩ := hd.mem ha
    obtain ⟨d, ed⟩ := ow j hj
    refine ⟨j, d, fun z => ?_, ed, ej⟩
    have := List.all_eq_true.mp dj.1 j hj
    rw [List.contains_iff_mem.mpr z] at this
    cases this
  · refine ⟨_, q1, fun d outs q2 G' H' v s2 s3 fr sp oo rs => ?_⟩
    refine k G' H' v d _ (r1.after hd ow nd s2 s3 fr sp oo) (s1.trans s2) (fun a na i e hi => ?_) q2 (by cases ro <;> exact rs)
    rcases putS_own hi with hi | hi
    · obtain ⟨d', ed⟩ := ow i hi
      exact r1.noown na i d' ed
    · rcases dropS_get hi with ⟨_, z⟩ | ⟨_, z⟩
      · cases z
      · exact r1.noown na i e z
variable {pr : TAp}
theorem s_call {x : Str} (F : Fn X.prog X.w X.K X.mg X.base k x ms false fs) (hr : Room k X.A) (hg : Gl X x) (ha : SA X (e :: es) pr) (hdb : (x == ("__debug__" : Str)) = false := by decide) (he : starEach (e :: es) X.env = (false, eval e X.env) :: starEach es X.env := by rfl)
    (hpl : (backTo pos (starEach es X.env)).any (·.1) = false := by rfl) (hx : Passes CX0 X E0 := by exact pass0) : SE X (.Call (.Name x p) (e :: es) [] pos) (qCall ms fs pr) := by
  obtain ⟨f, fd, ps, hm, hk, hb, F⟩ := F.ex
  obtain ⟨t, et, rt⟩ := ha.run
  refine ⟨_, pe_call F hr hg hm hk hb .nil hx et hdb he hpl, fun B G0 G ρ σ H Q Q' r0 w k => ?_⟩
  refine rt B G0 G ρ σ H _ _ r0 w fun vs os G1 ρ1 H1 r1 s1 o1 w1 => ?_
  show spOf X.K ms false fs (vs ++ []) H1 Q' _
  rw [List.append_nil]
  exact call_sp (ro := false) r1 o1 w1.1 (QQ := fun d ρ => Q (.val d) ρ) w1.2 fun G' H' v d ρ' r' s' _ q rs => k v (.val d) G' ρ' H' r' (s1.trans s') rs q
theorem s_call0 {x : Str} (F : Fn X.prog X.w X.K X.mg X.base k x ms false fs) (hr : Room k X.A) (hg : Gl X x) (hdb : (x == ("__debug__" : Str)) = false := by decide) (hx : Passes CX0 X E0 := by exact pass0) : SE X (.Call (.Name x p) [] [] pos) (qCall ms fs qNil) := by
  obtain ⟨f, fd, ps, hm, hk, hb, F⟩ := F.ex
  refine ⟨_, pe_call0 F hr hg hm hk hb .nil hx hdb, fun B G0 G ρ σ H Q Q' r0 w k => ?_⟩
  exact call_sp (ro := false) (E := E0) r0 .nil w.1 (QQ := fun d ρ => Q (.val d) ρ) w.2 fun G' H' v d ρ' r' s' _ q rs => k v (.val d) G' ρ' H' r' s' rs q
theorem f_call {x : Str} (F : Fn X.prog X.w X.K X.mg X.base k x ms true fs) (hr : Room k X.A) (hg : Gl X x) (ha : SA X (e :: es) pr) (hdb : (x == ("__debug__" : Str)) = false := by decide) (he : starEach (e :: es) X.env = (false, eval e X.env) :: starEach es X.env := by rfl)
    (hpl : (backTo pos (starEach es X.env)).any (·.1) = false := by rfl) (hx : Passes CX0 X E0 := by exact pass0) : SF X (.Call (.Name x p) (e :: es) [] pos) (qCallF ms fs pr) := by
  obtain ⟨f, fd, ps, hm, hk, hb, F⟩ := F.ex
  obtain ⟨t, et, rt⟩ := ha.run
  refine ⟨_, pe_call F hr hg hm hk hb .nil hx et hdb he hpl, fun B G0 G ρ σ H Q Q' r0 w k => ?_⟩
  refine rt B G0 G ρ σ H _ _ r0 w fun vs os G1 ρ1 H1 r1 s1 o1 w1 => ?_
  show spOf X.K ms true fs (vs ++ []) H1 Q' _
  rw [List.append_nil]
  refine call_sp (ro := true) r1 o1 w1.1 (QQ := fun d ρ => Q d ρ) w1.2 fun G' H' v d ρ' r' s' nw q rs => ?_
  obtain ⟨a, o, rfl, n, g, h, ob⟩ := rs
  exact k a o d G' ρ' H' r' (s1.trans s') (r1.bh.free n) g h ob (nw a n) q
end
/-! ### a def's body keeps its contract -/
def startS : List PM → List D → Ro
  | .fz :: ms, d :: ds => .fz d :: startS ms ds
  | .bo :: ms, d :: ds => .bo d :: startS ms ds
  | .mu :: ms, d :: ds => .ow d :: startS ms ds
  | _, _ => []
def initS (n : Nat) (ms : List PM) (ds : List D) : Ro := startS ms ds ++ List.replicate (n - ms.length) .no
/-- what the given slots hold in the end -/
def outsD : Nat → List PM → Ro → (List D → Prop) → Prop
  | i, .mu :: ms, ρ, Q => match ρ[i]? with
    | some (.ow d) => outsD (i + 1) ms ρ fun ds => Q (d :: ds)
    | _ => False
  | i, _ :: ms, ρ, Q => outsD (i + 1) ms ρ Q
  | _, [], _, Q => Q []
def endsF (ms : List PM) (Q : D → List D → Prop) : PEnds where
  nx := fun ρ => outsD 0 ms ρ fun outs => Q .none outs
  rt := fun o ρ => esc o ρ fun d ρ' => outsD 0 ms ρ' fun outs => Q d outs
/-- the result is one's own -/
def endsO (ms : List PM) (Q : D → List D → Prop) : PEnds where
  nx := fun _ => False
  rt := fun o ρ => match o with
    | .slot j => ms.length ≤ j ∧ (match ρ[j]? with
      | some (.ow d) => outsD 0 ms ρ fun outs => Q d outs
      | _ => False)
    | _ => False
section
variable {K : PySem.W.Frag} {G H : Hp}
theorem startS_len : ∀ {ms : List PM} {vs : List V} {ds : List D} {mus : List Addr}, ArgsOk K G H mus ms vs ds → (startS ms ds).length = ms.length ∧ vs.length = ms.length
  | _, _, _, _, .nil => ⟨rfl, rfl⟩
  | m :: ms, v :: vs, d :: ds, mus, .cons _ t => by
    obtain ⟨h1, h2⟩ := startS_len t
    cases m <;> exact ⟨by simp [startS, h1], by simp [h2]⟩
/-- the heap without what is given to be changed -/
def less (H : Hp) (mus : List Addr) : Hp := fun a => if a ∈ mus then none else H a
theorem less_some {H : Hp} {mus : List Addr} {a : Addr} {o : HO} : less H mus a = some o ↔ a ∉ mus ∧ H a = some o := by
  unfold less
  by_cases h : a ∈ mus
  · simp [h]
  · simp [h]
theorem less_same (H : Hp) (mus : List Addr) : Same (less H mus) H := fun a o h => (less_some.mp h).2
def baseB (H : Hp) (mus : List Addr) : Bs := ⟨less H mus, less H mus, Same.refl _, fun _ => none, fun _ _ h => by cases h⟩
theorem start_slot : ∀ {ms : List PM} {vs : List V} {ds : List D} {mus : List Addr}, ArgsOk K G H mus ms vs ds → (∀ a ∈ mutA ms vs, a ∈ mus) → ∀ (i : Nat) (s : Sl), (startS ms ds)[i]? = some s → SlOk K (baseB H mus) G H s ((vs.map some)[i]?)
  | _, _, _, _, .nil, _, i, s, h => by simp [startS] at h
  | m :: ms, v :: vs, d :: ds, mus, .cons a t, hm, 0, s, h => by
    cases m with
    | fz => cases h; exact a
    | bo =>
      cases h
      rcases a with a | ⟨b, o, rfl, h1, h2, h3⟩
      · exact (.inl a : Top K G (less H mus) v d)
      · exact (.inr ⟨b, o, rfl, h2.imp (fun z => less_some.mpr ⟨h1, z⟩) (fun ⟨ob, kvs, z1, z2⟩ => ⟨ob, kvs, z1, less_some.mpr ⟨h1, z2⟩⟩), h3⟩ : Top K G (less H mus) _ d)
    | mu =>
      cases h
      obtain ⟨b, o, rfl, h1, h2, h3⟩ := a
      refine SlOk.ow_mk ?_ h1 h2 h3
      show less H mus b = none
      unfold less
      rw [if_pos (hm b List.mem_cons_self)]
  | m :: ms, v :: vs, d :: ds, mus, .cons a t, hm, i + 1, s, h => by
    have h' : (startS ms ds)[i]? = some s := by cases m <;> simpa [startS] using h
    refine start_slot t (fun b hb => hm b ?_) i s h'
    cases m <;> cases v <;> first | exact hb | exact List.mem_cons_of_mem _ hb
theorem start_own : ∀ {ms : List PM} {vs : List V} {ds : List D} {mus : List Addr}, ArgsOk K G H mus ms vs ds → ∀ (i : Nat) (e : D) (a : Addr), (startS ms ds)[i]? = some (Sl.ow e) → (vs.map some)[i]? = some (some (.ref a)) → a ∈ mutA ms vs
  | _, _, _, _, .nil, i, e, a, h, _ => by simp [startS] at h
  | m :: ms, v :: vs, d :: ds, mus, .cons b t, 0, e, a, h, h2 => by
    cases m with
    | fz => cases h
    | bo => cases h
    | mu =>
      have : v = .ref a := by simpa using h2
      subst this
      exact List.mem_cons_self
  | m :: ms, v :: vs, d :: ds, mus, .cons b t, i + 1, e, a, h, h2 => by
    have h' : (startS ms ds)[i]? = some (Sl.ow e) := by cases m <;> simpa [startS] using h
    have := start_own t i e a h' (by simpa using h2)
    cases m <;> cases v <;> first | exact this | exact List.mem_cons_of_mem _ this
theorem start_apart : ∀ {ms : List PM} {vs : List V} {ds : List D} {mus : List Addr}, ArgsOk K G H mus ms vs ds → (mutA ms vs).Nodup → ∀ (i j : Nat) (d e : D) (a : Addr), i < j → (startS ms ds)[i]? = some (Sl.ow d) → (startS ms ds)[j]? = some (Sl.ow e) → (vs.map some)[i]? = some (some (.ref a)) → (vs.map some)[j]? = some (some (.ref a)) → False
  | _, _, _, _, .nil, _, i, j, d, e, a, _, h, _, _, _ => by simp [startS] at h
  | m :: ms, v :: vs, d :: ds, mus, .cons b t, nd, i, j + 1, d1, e1, a, hij, h1, h2, h3, h4 => by
    have h2' : (startS ms ds)[j]? = some (Sl.ow e1) := by cases m <;> simpa [startS] using h2
    have h4' : (vs.map some)[j]? = some (some (.ref a)) := by simpa using h4
    have nd' : (mutA ms vs).Nodup := by
      cases m <;> cases v <;> first | exact nd | exact (List.nodup_cons.mp nd).2
    cases i with
    | zero =>
      cases m with
      | fz => cases h1
      | bo => cases h1
      | mu =>
        have : v = .ref a := by simpa using h3
        subst this
        exact (List.nodup_cons.mp nd).1 (start_own t j e1 a h2' h4')
    | succ i =>
      have h1' : (startS ms ds)[i]? = some (Sl.ow d1) := by cases m <;> simpa [startS] using h1
      exact start_apart t nd' i j d1 e1 a (by omega) h1' h2' (by simpa using h3) h4'
/-- the slots at the entry -/
theorem R.init {ms : List PM} {vs : List V} {ds : List D} (s : Same G H) (h : ArgsOk K G H (mutA ms vs) ms vs ds) (nd : (mutA ms vs).Nodup) (n : Nat) : R K (baseB H (mutA ms vs)) G G (initS n ms ds) (vs.map some ++ List.replicate (n - vs.length) none) H := by
  obtain ⟨l1, l2⟩ := startS_len h
  have old : ∀ (i : Nat) (e : D), (initS n ms ds)[i]? = some (Sl.ow e) → (startS ms ds)[i]? = some (Sl.ow e) ∧ (vs.map some ++ List.replicate (n - vs.length) none)[i]? = (vs.map some)[i]? := fun i e h => by
    unfold initS at h
    by_cases hi : i < ms.length
    · rw [List.getElem?_append_left (by rw [l1]; exact hi)] at h
      exact ⟨h, List.getElem?_append_left (by rw [List.length_map, l2]; exact hi)⟩
    · rw [List.getElem?_append_right (by rw [l1]; omega), List.getElem?_replicate] at h
      split at h <;> cases h
  refine ⟨s, Same.refl _, less_same _ _, fun _ _ h => h, ?_, fun i sl e => ?_, fun i j d e a hij h1 h2 h3 h4 => ?_⟩
  · unfold initS
    rw [List.length_append, List.length_append, List.length_map, List.length_replicate, List.length_replicate, l1, l2]
  · unfold initS at e
    by_cases hi : i < ms.length
    · rw [List.getElem?_append_left (by rw [l1]; exact hi)] at e
      rw [List.getElem?_append_left (by rw [List.length_map, l2]; exact hi)]
      exact start_slot h (fun _ h => h) i sl e
    · rw [List.getElem?_append_right (by rw [l1]; omega), List.getElem?_replicate] at e
      split at e <;> cases e
      trivial
  · obtain ⟨k1, k2⟩ := old i d h1
    obtain ⟨k3, k4⟩ := old j e h2
    rw [k2] at h3
    rw [k4] at h4
    rcases Nat.lt_or_gt_of_ne hij with hlt | hgt
    · exact start_apart h nd i j d e a hlt k1 k3 h3 h4
    · exact start_apart h nd j i e d a hgt k3 k1 h4 h3
/-- what the changed slots hold -/
theorem outs_ok {B : Bs} {G0 G' H' : Hp} {ρ : Ro} {σ : St} (r : R K B G0 G' ρ σ H') : ∀ {ms : List PM} {vs : List V} {i : Nat} {Q : List D → Prop}, (∀ (j : Nat) (v : V), vs[j]? = some v → ms[j]? = some PM.mu → σ[i + j]? = some (some v)) → vs.length = ms.length →
    outsD i ms ρ Q → ∃ outs, OutsOk K G' H' (mutA ms vs) outs ∧ Q outs ∧ ∀ b ∈ mutA ms vs, G' b = none ∧ ∃ (j : Nat) (d : D), j < i + ms.length ∧ ρ[j]? = some (Sl.ow d) ∧ σ[j]? = some (some (.ref b))
  | [], [], i, Q, _, _, q => ⟨[], .nil, by cases i <;> exact q, fun b hb => by cases hb⟩
  | m :: ms, v :: vs, i, Q, hs, hl, q => by
    have hs' : ∀ (j : Nat) (v : V), vs[j]? = some v → ms[j]? = some PM.mu → σ[i + 1 + j]? = some (some v) := fun j a h1 h2 => by
      have := hs (j + 1) a (by simpa using h1) (by simpa using h2)
      rw [← this]; congr 1; omega
    have go := fun (Q' : List D → Prop) (q' : outsD (i + 1) ms ρ Q') => outs_ok r (ms := ms) (vs := vs) (i := i + 1) (Q := Q') hs' (by simpa using hl) q'
    have wk : ∀ {b : Addr}, (G' b = none ∧ ∃ (j : Nat) (d : D), j < i + 1 + ms.length ∧ ρ[j]? = some (Sl.ow d) ∧ σ[j]? = some (some (.ref b))) → (G' b = none ∧ ∃ (j : Nat) (d : D), j < i + (m :: ms).length ∧ ρ[j]? = some (Sl.ow d) ∧ σ[j]? = some (some (.ref b))) := fun ⟨h1, j, d, h2, h3⟩ => ⟨h1, j, d, by rw [List.length_cons]; omega, h3⟩
    cases m with
    | fz =>
      obtain ⟨outs, h1, h2, h3⟩ := go Q q
      have e : mutA (.fz :: ms) (v :: vs) = mutA ms vs := by cases v <;> rfl
      rw [e]
      exact ⟨outs, h1, h2, fun b hb => wk (h3 b hb)⟩
    | bo =>
      obtain ⟨outs, h1, h2, h3⟩ := go Q q
      have e : mutA (.bo :: ms) (v :: vs) = mutA ms vs := by cases v <;> rfl
      rw [e]
      exact ⟨outs, h1, h2, fun b hb => wk (h3 b hb)⟩
    | mu =>
      unfold outsD at q
      split at q
      · rename_i d e
        obtain ⟨outs, h1, h2, h3⟩ := go _ q
        have e5 := hs 0 v rfl rfl
        obtain ⟨a', o, e6, _, g6, h4, h5⟩ := (r.slot i _ e).own
        rw [show σ[i]? = some (some v) from e5] at e6
        cases e6
        refine ⟨d :: outs, .cons h4 h5 h1, h2, fun b hb => ?_⟩
        rcases List.mem_cons.mp hb with rfl | hb
        · exact ⟨g6, i, d, by rw [List.length_cons]; omega, e, e5⟩
        · exact wk (h3 b hb)
      · exact q.elim
end
/-- THE RULE for a def -/
theorem ok_mk {P : Program} {w : World} {K : PySem.W.Frag} {mg : Str → Option Value} {base : Heap} {x : Str} {st : Stmt} {f : Addr} {fd : FuncData} {N ps : List Str} {k : Nat} {ms : List PM} {ro : Bool} {fs : FS} {ts : List Nat}
    (F : Fun K x x st f fd) (S : FnScope N ps (defScope st)) (hl : ms.length = ps.length)
    (hts : ∀ j, ms[j]? = some .mu → j ∉ ts)
    (hbody : ∀ (cdv : Value) (A : Around) (outer : List Env) (s : Shared) (H : Hp) (E : XK), Room k (A.deeper (envOfC x (defScope st) s.heap.objs.size f cdv)) →
      ∃ p, SSs (cxOf CX0 P w K mg base N x (defScope st) f cdv A outer s H E).nox (defBody st) ts p ∧ ∀ ds Q, fs ds Q → p (if ro = true then endsO ms Q else endsF ms Q) (initS N.length ms ds)) : FnOk P w K mg base CX0 (k + 1) f fd ps (spOf K ms ro fs) := by
  refine F.ok S (fun vs H Q E h => ?_) fun cdv A outer s H vs Q E hr h => ?_
  · obtain ⟨G, ds, _, _, a, _⟩ := h
    rw [a.len, hl]
  · obtain ⟨G, ds, s0, nd, a, Qp, q1, q2⟩ := h
    obtain ⟨p, hp, hq⟩ := hbody cdv A outer s H E hr
    obtain ⟨t, pt, rt⟩ := hp.run
    refine ⟨t, pt, ?_⟩
    have r0 := R.init s0 a nd N.length
    refine rt (baseB H (mutA ms vs)) G G _ _ H _ _ r0 ?_ (hq ds Qp q1)
    have vl : vs.length = ms.length := a.len
    have fr : ∀ {G' : Hp} {ρ' : Ro} {σ' : St} {H' : Hp}, R K (baseB H (mutA ms vs)) G G' ρ' σ' H' → ∀ b o, H b = some o → b ∉ mutA ms vs → H' b = some o := fun r' b o e hb => r'.bh b o (less_some.mpr ⟨hb, e⟩)
    have pin : ∀ {σ' : St}, Out ts (L2.start N vs) σ' → ∀ (j : Nat) (v : V), vs[j]? = some v → ms[j]? = some PM.mu → σ'[0 + j]? = some (some v) := fun {σ'} o j v h1 h2 => by
      rw [Nat.zero_add, o.2 j (hts j h2)]
      unfold L2.start
      have hj : j < vs.length := (List.getElem?_eq_some_iff.mp h1).1
      rw [List.getElem?_append_left (by rw [List.length_map]; exact hj), List.getElem?_map, h1]
      rfl
    have fin : ∀ {G' : Hp} {ρ' : Ro} {σ' : St} {H' : Hp} {v : V} {d : D}, R K (baseB H (mutA ms vs)) G G' ρ' σ' H' → Out ts (L2.start N vs) σ' → (outsD 0 ms ρ' fun outs => Qp d outs) → (∀ (hm : ∀ b ∈ mutA ms vs, G' b = none ∧ ∃ (j : Nat) (d : D), j < 0 + ms.length ∧ ρ'[j]? = some (Sl.ow d) ∧ σ'[j]? = some (some (.ref b))), ResOk K ro G' H H' v d) → Q v H' := fun {G' ρ' σ' H' v d} r' o' w rs => by
      obtain ⟨outs, h1, h2, h3⟩ := outs_ok r' (pin o') vl w
      refine q2 d outs h2 G' H' v r'.g0 r'.gh (fr r') (fun b n1 n2 => ?_) h1 (rs h3)
      by_cases hb : b ∈ mutA ms vs
      · exact (h3 b hb).1
      · obtain ⟨o, e⟩ := Option.ne_none_iff_exists'.mp n1
        exact r'.sep b (show less H (mutA ms vs) b ≠ none by rw [less_some.mpr ⟨hb, e⟩]; simp) n2
    cases ro with
    | false =>
      refine ⟨fun G' ρ' σ' H' r' o' w => ?_, fun v o G' ρ' σ' H' r' o' ov w => ?_, fun G' ρ' σ' H' r' o' w => w, fun G' ρ' σ' H' r' o' w => w⟩
      · exact fin (v := V.non) (d := .none) r' o' w fun _ => Rep.non
      · obtain ⟨d, G2, ρ2, s2, rp, r2, w2⟩ := esc_ok r' ov (show esc o ρ' (fun d ρ2 => outsD 0 ms ρ2 fun outs => Qp d outs) from w)
        exact fin r2 o' w2 fun _ => rp
    | true =>
      refine ⟨fun G' ρ' σ' H' r' o' w => w.elim, fun v o G' ρ' σ' H' r' o' ov w => ?_, fun G' ρ' σ' H' r' o' w => w, fun G' ρ' σ' H' r' o' w => w⟩
      cases o with
      | val d => exact w.elim
      | slot j =>
        obtain ⟨hj, w⟩ := (show ms.length ≤ j ∧ (match ρ'[j]? with
          | some (.ow d) => outsD 0 ms ρ' fun outs => Qp d outs
          | _ => False) from w)
        split at w
        · rename_i d e
          obtain ⟨a', ob, e6, b6, g6, h4, h5⟩ := (r'.slot j _ e).own
          have ov : σ'[j]? = some (some v) := ov
          rw [ov] at e6
          cases e6
          refine fin r' o' w fun hm => ⟨a', ob, rfl, ?_, g6, h4, h5⟩
          cases ha : H a' with
          | none => rfl
          | some oo =>
            exfalso
            by_cases hb : a' ∈ mutA ms vs
            · obtain ⟨_, i, d', hi, e7, e8⟩ := hm a' hb
              exact r'.apart i j d' d a' (by omega) e7 e e8 ov
            · have b6 : less H (mutA ms vs) a' = none := b6
              rw [less_some.mpr ⟨hb, ha⟩] at b6
              cases b6
        · exact w.elim
end PL
namespace PL
open PySem PySem.Spec PyProof.Rows L2
theorem PI.or {X : Cx} {tg iter : Expr} {wi wi' : TI} (h : PI X tg iter wi) (h' : PI X tg iter wi') : PI X tg iter (fun σ H R => wi σ H R ∨ wi' σ H R) := by
  refine ⟨fun pins s σ H R I q => ?_⟩
  rcases q with q | q
  · exact h.run pins s σ H R I q
  · exact h'.run pins s σ H R I q
section
variable {K : PySem.W.Frag} {B : Bs} {G0 G : Hp} {ρ : Ro} {σ : St} {H : Hp}
/-- what is walked stands still: frozen, or lent -/
def itr (o : Opd) (ρ : Ro) (Q : D → Ro → Prop) : Prop := match o with
  | .val d => Q d ρ
  | .slot j => match ρ[j]? with
    | some (.fz d) => Q d ρ
    | some (.ow d) => Q d (ρ.set j (.fz d))
    | some (.bo d) => Q d ρ
    | _ => False
theorem itr_ok (r : R K B G0 G ρ σ H) {v : V} {o : Opd} {Q : D → Ro → Prop} (h : OpOk K G σ v o) (q : itr o ρ Q) : ∃ d G' ρ', Same G G' ∧ Top K G' B.lent v d ∧ R K B G0 G' ρ' σ H ∧ Q d ρ' := by
  cases o with
  | val d => exact ⟨d, G, ρ, Same.refl _, .inl h, r, q⟩
  | slot j =>
    have h : σ[j]? = some (some v) := h
    unfold itr at q
    simp only at q
    split at q
    · rename_i d e
      obtain ⟨w, e2, hr⟩ := (r.slot j _ e).frz
      rw [h] at e2; cases e2
      exact ⟨d, G, ρ, Same.refl _, .inl hr, r, q⟩
    · rename_i d e
      obtain ⟨a, G', e2, s, rp, r'⟩ := r.freeze e
      rw [h] at e2; cases e2
      exact ⟨d, G', _, s, .inl rp, r', q⟩
    · rename_i d e
      obtain ⟨w, e2, hr⟩ := (r.slot j _ e).bor
      rw [h] at e2; cases e2
      exact ⟨d, G, ρ, Same.refl _, hr, r, q⟩
    · exact q.elim
/-- a list that stands still, whatever comes -/
theorem Top.listS {v : V} {ds : List D} (h : Top K G B.lent v (.list ds)) : ∃ a xs, v = .ref a ∧ RepL K G xs ds ∧ ∀ G1 H1, Same G G1 → Same G1 H1 → Same B.keep H1 → SqL K H1 a xs := by
  rcases h with h | ⟨a, o, rfl, e, h⟩
  · cases h with
    | lst hq hl hi => exact ⟨_, _, rfl, ⟨hl, hi⟩, fun G1 H1 s1 s2 _ => .inl (Rd.mono (s1.trans s2) hq)⟩
  · cases o <;> first | exact h.elim | exact ⟨a, _, rfl, h, fun G1 H1 _ _ s3 => .inl ((e.mono (B.le.trans s3)).rd)⟩
theorem Top.tupleS {v : V} {ds : List D} (h : Top K G B.lent v (.tuple ds)) : ∃ a xs, v = .ref a ∧ RepL K G xs ds ∧ ∀ G1 H1, Same G G1 → Same G1 H1 → Same B.keep H1 → SqT K H1 a xs := by
  cases h.rep rfl with
  | tup hq hl hi => exact ⟨_, _, rfl, ⟨hl, hi⟩, fun G1 H1 s1 s2 _ => .inl (.inl ((s1.trans s2) _ _ hq))⟩
end
section
variable {X : Cx} {e a b c : Expr} {es : List Expr} {pos p : Pos} {tg : Expr} {pa pb pc : TEp}
/-! ### what is walked -/
def seqD (d : D) (Q : List D → Prop) : Prop := match d with
  | .list ds => Q ds
  | .tuple ds => Q ds
  | _ => False
def iSeq (pa : TEp) : TIp' := fun ρ Q => pa ρ fun o ρ1 => itr o ρ1 fun d ρ2 => seqD d fun ds => Q ds ρ2
theorem walk_list {K : PySem.W.Frag} {B : Bs} {G : Hp} {a : Addr} {xs : List V} {ds : List D} (l : RepL K G xs ds) (h : ∀ G1 H1, Same G G1 → Same G1 H1 → Same B.keep H1 → SqL K H1 a xs) : Walkd K B G (Itl K a) ds := fun i G1 H1 s1 s2 s3 => by
  have hq := h G1 H1 s1 s2 s3
  refine ⟨fun d e => ?_, fun e => ⟨xs, hq, by rw [l.len]; exact List.getElem?_eq_none_iff.mp e⟩⟩
  obtain ⟨x, hx, rx⟩ := l.get e
  refine ⟨⟨xs, x, hq, hx⟩, fun y H2 hy => ?_⟩
  obtain ⟨rfl, hy⟩ := hy
  have := hy xs hq
  rw [hx] at this; cases this
  exact ⟨G1, .refl, rx.mono s1⟩
theorem walk_tup {K : PySem.W.Frag} {B : Bs} {G : Hp} {a : Addr} {xs : List V} {ds : List D} (l : RepL K G xs ds) (h : ∀ G1 H1, Same G G1 → Same G1 H1 → Same B.keep H1 → SqT K H1 a xs) : Walkd K B G (Itt K a) ds := fun i G1 H1 s1 s2 s3 => by
  have hq := h G1 H1 s1 s2 s3
  refine ⟨fun d e => ?_, fun e => ⟨xs, hq, by rw [l.len]; exact List.getElem?_eq_none_iff.mp e⟩⟩
  obtain ⟨x, hx, rx⟩ := l.get e
  refine ⟨⟨xs, x, hq, hx⟩, fun y H2 hy => ?_⟩
  obtain ⟨rfl, hy⟩ := hy
  have := hy xs hq
  rw [hx] at this; cases this
  exact ⟨G1, .refl, rx.mono s1⟩
/-- a list or a tuple, by what the value is -/
def wSeq (K : PySem.W.Frag) (t : TE) : TI := fun σ H R => t σ H fun x H1 => ∃ a, x = .ref a ∧ (((∃ xs, SqL K H1 a xs) ∧ R (Itl K a) H1) ∨ ((∃ xs, SqT K H1 a xs) ∧ R (Itt K a) H1))
theorem pi_seq {t : TE} (h : PE X e t) : PI X tg e (wSeq X.K t) := by
  constructor
  intro pins s σ H R I q
  refine thn (h.run pins s σ H _ I q) ?_
  rintro v s1 ⟨x, H1, I1, rv, a, rfl, q1⟩
  obtain rfl : v = Value.ref a := rv
  have fresh : ∀ b ∈ [s1.heap.objs.size], FpOk X pins H1 b := fun b hb => by
    rw [List.mem_singleton.mp hb]
    exact I1.fpOk (Nat.le_refl _) (I1.hok.fresh (Nat.le_refl _))
  have kept : ∀ ob : PySem.Obj, Inv X pins σ H1 { s1 with heap := s1.heap.push ob } := fun ob => I1.kept (t' := s1.toks) fun _ _ z => Heap.get?_push_of_some _ z
  rcases q1 with ⟨⟨xs, hx⟩, q1⟩ | ⟨⟨xs, hx⟩, q1⟩
  · obtain ⟨its, _, pl, _⟩ := I1.list hx
    exact wpAny_pyIter_list pl.isList ⟨_, _, _, _, H1, rfl, kept _, turn_list a _, ⟨_, Heap.get?_push_size _ rfl, rfl, rfl⟩, fresh, q1⟩
  · obtain ⟨its, _, pl, _⟩ := I1.tuple hx
    exact wpAny_pyIter_tuple (show s1.heap.IsTuple a its.toArray from pl) ⟨_, _, _, _, H1, rfl, kept _, turn_tuple a _, ⟨_, Heap.get?_push_size _ rfl, rfl, rfl⟩, fresh, q1⟩
theorem i_seq (ha : SE X e pa) : SI X tg e (iSeq pa) := by
  obtain ⟨ta, ea, ra⟩ := ha.run
  refine ⟨_, pi_seq ea, fun B G0 G ρ σ H Q Q' r q k => ?_⟩
  refine ra B G0 G ρ σ H _ _ r q fun v o G1 ρ1 H1 r1 s1 o1 q1 => ?_
  obtain ⟨d, G2, ρ2, s2, t, r2, q2⟩ := itr_ok r1 o1 q1
  match d, q2 with
  | .list ds, q2 =>
    obtain ⟨a, xs, rfl, l, h⟩ := t.listS
    exact ⟨a, rfl, .inl ⟨⟨xs, h G2 H1 (Same.refl _) r2.gh r2.bh⟩, k _ ds G2 ρ2 H1 r2 (s1.trans s2) (walk_list l h) q2⟩⟩
  | .tuple ds, q2 =>
    obtain ⟨a, xs, rfl, l, h⟩ := t.tupleS
    exact ⟨a, rfl, .inr ⟨⟨xs, h G2 H1 (Same.refl _) r2.gh r2.bh⟩, k _ ds G2 ρ2 H1 r2 (s1.trans s2) (walk_tup l h) q2⟩⟩
/-- a range -/
def rangeD (lo hi : Int) : List D := (List.range (hi - lo).toNat).map fun i => .int (lo + (i : Nat))
theorem rangeD_len (lo hi : Int) : (rangeD lo hi).length = (hi - lo).toNat := by unfold rangeD; rw [List.length_map, List.length_range]
theorem rangeD_get {lo hi : Int} {i : Nat} {d : D} (h : (rangeD lo hi)[i]? = some d) : i < (hi - lo).toNat ∧ d = .int (lo + (i : Nat)) := by
  unfold rangeD at h
  rw [List.getElem?_map] at h
  by_cases hi' : i < (hi - lo).toNat
  · rw [List.getElem?_range hi'] at h
    exact ⟨hi', (Option.some.inj h).symm⟩
  · rw [List.getElem?_eq_none (by rw [List.length_range]; omega)] at h
    cases h
theorem walk_rng {K : PySem.W.Frag} {B : Bs} {G : Hp} (lo hi : Int) : Walkd K B G (Itr lo (hi - lo).toNat) (rangeD lo hi) := fun i G1 H1 s1 s2 s3 => by
  refine ⟨fun d e => ?_, fun e => ?_⟩
  · obtain ⟨h, rfl⟩ := rangeD_get e
    refine ⟨h, fun y H2 hy => ?_⟩
    obtain ⟨rfl, rfl⟩ := hy
    exact ⟨G1, .refl, .int _⟩
  · have := List.getElem?_eq_none_iff.mp e
    rw [rangeD_len] at this
    exact this
def iRange1 (pr : TAp) : TIp' := fun ρ Q => pr ρ fun os ρ1 => pkL os ρ1 fun ds => match ds with
  | [.int j] => -(2 ^ 62) ≤ j ∧ j < 2 ^ 62 ∧ Q (rangeD 0 j) ρ1
  | _ => False
theorem i_range1 {pr : TAp} (hg : Gl X "range") (hm : X.mg "range" = none) (ha : SA X [a] pr) (hs : starEach [a] X.env = [(false, eval a X.env)] := by rfl) : SI X tg (.Call (.Name "range" p) [a] [] pos) (iRange1 pr) := by
  obtain ⟨ta, ea, ra⟩ := ha.run
  refine ⟨_, pi_range1 hg hm ea hs, fun B G0 G ρ σ H Q Q' r q k => ?_⟩
  refine ra B G0 G ρ σ H _ _ r q fun vs os G1 ρ1 H1 r1 s1 o1 q1 => ?_
  obtain ⟨ds, t1, q2⟩ := pkL_ok r1 o1 q1
  match ds, q2 with
  | [.int j], q2 =>
    obtain ⟨v, rfl, h⟩ := one_top t1
    refine ⟨j, by rw [h.int], q2.1, q2.2.1, k _ _ G1 ρ1 H1 r1 s1 ?_ q2.2.2⟩
    have := walk_rng (K := X.K) (B := B) (G := G1) 0 j
    rw [Int.sub_zero] at this
    exact this
def iRange2 (pr : TAp) : TIp' := fun ρ Q => pr ρ fun os ρ1 => pkL os ρ1 fun ds => match ds with
  | [.int i, .int j] => (-(2 ^ 62) ≤ i ∧ i < 2 ^ 62 ∧ -(2 ^ 62) ≤ j ∧ j < 2 ^ 62) ∧ Q (rangeD i j) ρ1
  | _ => False
theorem i_range2 {pr : TAp} (hg : Gl X "range") (hm : X.mg "range" = none) (ha : SA X [a, b] pr) (hs : starEach [a, b] X.env = [(false, eval a X.env), (false, eval b X.env)] := by rfl) (hs2 : starEach [b] X.env = [(false, eval b X.env)] := by rfl) :
    SI X tg (.Call (.Name "range" p) [a, b] [] pos) (iRange2 pr) := by
  obtain ⟨ta, ea, ra⟩ := ha.run
  refine ⟨_, pi_range2 hg hm ea hs hs2, fun B G0 G ρ σ H Q Q' r q k => ?_⟩
  refine ra B G0 G ρ σ H _ _ r q fun vs os G1 ρ1 H1 r1 s1 o1 q1 => ?_
  obtain ⟨ds, t1, q2⟩ := pkL_ok r1 o1 q1
  match ds, q2 with
  | [.int i, .int j], q2 =>
    obtain ⟨v, u, rfl, h, h'⟩ := two_top t1
    exact ⟨i, j, by rw [h.int, h'.int], q2.1, k _ _ G1 ρ1 H1 r1 s1 (walk_rng i j) q2.2⟩
/-- range(a, b, -1) -/
def downD (i j : Int) : List D := (List.range (i - j).toNat).map fun n => .int (i - (n : Nat))
theorem downD_len (lo hi : Int) : (downD lo hi).length = (lo - hi).toNat := by unfold downD; rw [List.length_map, List.length_range]
theorem downD_get {lo hi : Int} {i : Nat} {d : D} (h : (downD lo hi)[i]? = some d) : i < (lo - hi).toNat ∧ d = .int (lo - (i : Nat)) := by
  unfold downD at h
  rw [List.getElem?_map] at h
  by_cases hi' : i < (lo - hi).toNat
  · rw [List.getElem?_range hi'] at h
    exact ⟨hi', (Option.some.inj h).symm⟩
  · rw [List.getElem?_eq_none (by rw [List.length_range]; omega)] at h
    cases h
def iDown (pr : TAp) : TIp' := fun ρ Q => pr ρ fun os ρ1 => pkL os ρ1 fun ds => match ds with
  | [.int i, .int j, .int k] => k = -1 ∧ (-(2 ^ 62) ≤ i ∧ i < 2 ^ 62 ∧ -(2 ^ 62) ≤ j ∧ j < 2 ^ 62) ∧ Q (downD i j) ρ1
  | _ => False
theorem i_down {pr : TAp} (hg : Gl X "range") (hm : X.mg "range" = none) (ha : SA X [a, b, c] pr) (hs : starEach [a, b, c] X.env = (false, eval a X.env) :: starEach [b, c] X.env := by rfl) (hs2 : (backTo pos (starEach [b, c] X.env)).any (·.1) = false := by rfl) :
    SI X tg (.Call (.Name "range" p) [a, b, c] [] pos) (iDown pr) := by
  obtain ⟨ta, ea, ra⟩ := ha.run
  refine ⟨_, pi_range3 hg hm ea hs hs2, fun B G0 G ρ σ H Q Q' r q k => ?_⟩
  refine ra B G0 G ρ σ H _ _ r q fun vs os G1 ρ1 H1 r1 s1 o1 q1 => ?_
  obtain ⟨ds, t1, q2⟩ := pkL_ok r1 o1 q1
  match ds, q2 with
  | [.int i, .int j, .int m], q2 =>
    obtain ⟨rfl, ⟨b1, b2, b3, b4⟩, q3⟩ := q2
    cases t1 with
    | cons h t1 =>
      obtain ⟨v, u, rfl, h', h''⟩ := two_top t1
      refine ⟨i, j, -1, _, by rw [h.int, h'.int, h''.int], RgC.neg b1 b2 b3 b4, k _ (downD i j) G1 ρ1 H1 r1 s1 (fun n G2 H2 s2 s3 s4 => ⟨fun d e => ?_, fun e => ?_⟩) q3⟩
      · obtain ⟨h, rfl⟩ := downD_get e
        refine ⟨h, fun y H3 hy => ?_⟩
        obtain ⟨rfl, rfl⟩ := hy
        refine ⟨G2, .refl, ?_⟩
        have : i + (n : Nat) * (-1 : Int) = i - (n : Nat) := by omega
        rw [this]
        exact .int _
      · have := List.getElem?_eq_none_iff.mp e
        rw [downD_len] at this
        exact this
/-! ### list comprehensions -/
def wipeS : Ro → List Nat → Ro
  | ρ, [] => ρ
  | ρ, v :: vs => (wipeS ρ vs).set v .no
/-- the block's own names as they were ahead of it, where frozen -/
def backS (ρ0 : Ro) : List Nat → Ro → Ro
  | [], ρ => ρ
  | v :: vs, ρ => (backS ρ0 vs ρ).set v (match ρ0[v]? with
    | some (.fz d) => .fz d
    | _ => .no)
end
section
variable {K : PySem.W.Frag} {B : Bs} {G0 G : Hp} {ρ : Ro} {σ : St} {H : Hp}
theorem R.wiped (r : R K B G0 G ρ σ H) : ∀ vs : List Nat, R K B G0 G (wipeS ρ vs) (wipe σ vs) H
  | [] => r
  | v :: vs => by
    have ih := R.wiped r vs
    have ih' := ih.drop v
    unfold wipeS L2.wipe
    refine ⟨ih'.gh, ih'.g0, ih'.bh, ih'.sep, by rw [List.length_set, List.length_set]; exact ih.len, fun i s e => ?_, fun i j d e a hij h1 h2 h3 h4 => ?_⟩
    · by_cases hv : v = i
      · subst hv
        rw [List.getElem?_set, if_pos rfl] at e
        split at e
        · cases e; trivial
        · cases e
      · rw [List.getElem?_set_ne hv]
        exact ih'.slot i s e
    · have f : ∀ m dm, ((wipeS ρ vs).set v Sl.no)[m]? = some (Sl.ow dm) → v ≠ m := fun m dm q z => by
        subst z
        rw [List.getElem?_set, if_pos rfl] at q
        split at q <;> cases q
      rw [List.getElem?_set_ne (f i d h1)] at h3
      rw [List.getElem?_set_ne (f j e h2)] at h4
      exact ih'.apart i j d e a hij h1 h2 h3 h4
theorem wipeS_len (ρ : Ro) : ∀ vs : List Nat, (wipeS ρ vs).length = ρ.length
  | [] => rfl
  | v :: vs => by unfold wipeS; rw [List.length_set, wipeS_len ρ vs]
theorem backS_own {ρ0 : Ro} : ∀ {vs : List Nat} {ρ : Ro} {j : Nat} {e : D}, (backS ρ0 vs ρ)[j]? = some (Sl.ow e) → j ∉ vs ∧ ρ[j]? = some (Sl.ow e)
  | [], _, _, _, h => ⟨by simp, h⟩
  | v :: vs, ρ, j, e, h => by
    unfold backS at h
    by_cases hv : v = j
    · subst hv
      rw [List.getElem?_set, if_pos rfl] at h
      split at h
      · split at h <;> cases h
      · cases h
    · rw [List.getElem?_set_ne hv] at h
      obtain ⟨h1, h2⟩ := backS_own h
      exact ⟨by simp only [List.mem_cons, not_or]; exact ⟨fun z => hv z.symm, h1⟩, h2⟩
/-- behind a block: the outer slots again -/
theorem R.back {G' H' : Hp} {ρ' : Ro} (r0 : R K B G0 G ρ σ H) (s : Same G G') : ∀ {vs : List Nat}, R K B G0 G' (wipeS ρ' vs) (wipe σ vs) H' → R K B G0 G' (backS ρ vs (wipeS ρ' vs)) σ H' := fun {vs} r => by
  have key : ∀ (us : List Nat) (i : Nat) (sl : Sl), (backS ρ us (wipeS ρ' vs))[i]? = some sl → (∀ u ∈ us, u ∈ vs) → (i ∈ us ∧ (sl = .no ∨ ∃ d, sl = .fz d ∧ ρ[i]? = some (.fz d))) ∨ (i ∉ us ∧ (wipeS ρ' vs)[i]? = some sl) := fun us => by
    induction us with
    | nil => exact fun i sl h _ => .inr ⟨by simp, h⟩
    | cons u us ih =>
      intro i sl h hs
      unfold backS at h
      by_cases hu : u = i
      · subst hu
        rw [List.getElem?_set, if_pos rfl] at h
        split at h
        · refine .inl ⟨List.mem_cons_self, ?_⟩
          cases h
          split
          · rename_i d e; exact .inr ⟨d, rfl, e⟩
          · exact .inl rfl
        · cases h
      · rw [List.getElem?_set_ne hu] at h
        rcases ih i sl h fun u' hu' => hs u' (List.mem_cons_of_mem _ hu') with ⟨h1, h2⟩ | ⟨h1, h2⟩
        · exact .inl ⟨List.mem_cons_of_mem _ h1, h2⟩
        · exact .inr ⟨by simp only [List.mem_cons, not_or]; exact ⟨fun z => hu z.symm, h1⟩, h2⟩
  have bl : ∀ (us : List Nat), (backS ρ us (wipeS ρ' vs)).length = (wipeS ρ' vs).length := fun us => by
    induction us with
    | nil => rfl
    | cons u us ih => unfold backS; rw [List.length_set, ih]
  have wo : ∀ i, i ∉ vs → (wipe σ vs)[i]? = σ[i]? := fun i hi => by rw [wipe_get, if_neg hi]
  refine ⟨r.gh, r.g0, r.bh, r.sep, by rw [bl, r.len, wipe_length], fun i sl e => ?_, fun i j d e a hij h1 h2 h3 h4 => ?_⟩
  · rcases key vs i sl e fun _ h => h with ⟨h1, rfl | ⟨d, rfl, h2⟩⟩ | ⟨h1, h2⟩
    · trivial
    · obtain ⟨v, e2, h⟩ := (r0.slot i _ h2).frz
      rw [e2]; exact h.mono s
    · rw [← wo i h1]
      exact r.slot i sl h2
  · have f : ∀ m dm, (backS ρ vs (wipeS ρ' vs))[m]? = some (Sl.ow dm) → m ∉ vs ∧ (wipeS ρ' vs)[m]? = some (Sl.ow dm) := fun m dm q => by
      rcases key vs m _ q fun _ h => h with ⟨h1, z | ⟨d, z, h2⟩⟩ | z
      · cases z
      · cases z
      · exact z
    obtain ⟨k1, k2⟩ := f i d h1
    obtain ⟨k3, k4⟩ := f j e h2
    rw [← wo i k1] at h3
    rw [← wo j k3] at h4
    exact r.apart i j d e a hij k2 k4 h3 h4
end
structure STs (X : Cx) (ifs : List Expr) (p : TTp) : Prop where
  run : ∃ t, PTs X ifs t ∧ ∀ (B : Bs) (G0 G : Hp) (ρ : Ro) (σ : St) (H : Hp) (Q : Bool → Ro → Prop) (Q' : Bool → Hp → Prop), R X.K B G0 G ρ σ H → p ρ Q →
    (∀ b G' ρ' H', R X.K B G0 G' ρ' σ H' → Same G G' → Q b ρ' → Q' b H') → t σ H Q'
def qYes : TTp := fun ρ Q => Q true ρ
section
variable {X : Cx} {e a b c elt tg iter : Expr} {ifs : List Expr} {es : List Expr} {pos p : Pos} {pe : TEp} {pt : TTp} {pi : TIp'} {g : TGp} {ts : List Nat} {scope : Scope} {own : List (Str × Nat)}
theorem sts_nil : STs X [] qYes := ⟨_, pts_nil, fun B G0 G ρ σ H Q Q' r q k => k true G ρ H r (Same.refl _) q⟩
theorem sts_one (h : ST X c pt) : STs X [c] pt := by
  obtain ⟨t, et, rt⟩ := h.run
  exact ⟨_, pts_one et, rt⟩
def qLc (pi : TIp') (g : TGp) (pt : TTp) (pe : TEp) (vs : List Nat) : TFp := fun ρ Q => pi ρ fun ds ρ1 => ∃ I : Nat → List D → Ro → Prop, I 0 [] (wipeS ρ1 vs) ∧
  (∀ i d acc ρ2, ds[i]? = some d → I i acc ρ2 → g d ρ2 fun ρ3 => pt ρ3 fun k ρ4 => if k = true then pe ρ4 fun o ρ5 => esc o ρ5 fun y ρ6 => acc.length < sizeLine ∧ I (i + 1) (acc ++ [y]) (wipeS ρ6 vs) else I (i + 1) acc (wipeS ρ4 vs)) ∧
  ∀ acc ρ2, I ds.length acc ρ2 → Q (.list acc) (backS ρ1 vs ρ2)
/-- the reading of a comprehension over what is walked -/
theorem lc_run {wi : TI} {tgt : TG} {tt : TT} {te : TE} {vs : List Nat} (hts : ∀ i ∈ ts, i ∈ vs)
    (ri : ∀ (B : Bs) (G0 G : Hp) (ρ : Ro) (σ : St) (H : Hp) (Q : List D → Ro → Prop) (Q' : It → Hp → Prop), R X.K B G0 G ρ σ H → pi ρ Q → (∀ J ds G' ρ' H', R X.K B G0 G' ρ' σ H' → Same G G' → Walkd X.K B G' J ds → Q ds ρ' → Q' J H') → wi σ H Q')
    (rg : ∀ (B : Bs) (G0 G : Hp) (ρ : Ro) (σ : St) (H : Hp) (v : V) (d : D) (Q : Ro → Prop) (Q' : St → Hp → Prop), R X.K B G0 G ρ σ H → Rep X.K G v d → g d ρ Q → (∀ ρ' σ', R X.K B G0 G ρ' σ' H → Out ts σ σ' → Q ρ' → Q' σ' H) → tgt v σ H Q')
    (rt : ∀ (B : Bs) (G0 G : Hp) (ρ : Ro) (σ : St) (H : Hp) (Q : Bool → Ro → Prop) (Q' : Bool → Hp → Prop), R X.K B G0 G ρ σ H → pt ρ Q → (∀ b G' ρ' H', R X.K B G0 G' ρ' σ H' → Same G G' → Q b ρ' → Q' b H') → tt σ H Q')
    (re : ∀ (B : Bs) (G0 G : Hp) (ρ : Ro) (σ : St) (H : Hp) (Q : Opd → Ro → Prop) (Q' : VK), R X.K B G0 G ρ σ H → pe ρ Q → (∀ v o G' ρ' H', R X.K B G0 G' ρ' σ H' → Same G G' → OpOk X.K G' σ v o → Q o ρ' → Q' v H') → te σ H Q')
    (B : Bs) (G0 G : Hp) (ρ : Ro) (σ : St) (H : Hp) (Q : D → Ro → Prop) (Q' : VK) (r0 : R X.K B G0 G ρ σ H) (q : qLc pi g pt pe vs ρ Q)
    (k : ∀ a o d G' ρ' H', R X.K B G0 G' ρ' σ H' → Same G G' → B.keep a = none → G' a = none → H' a = some o → Obj X.K G' o d → (∀ (i : Nat) (e : D), ρ'[i]? = some (Sl.ow e) → σ[i]? ≠ some (some (.ref a))) → Q d ρ' → Q' (.ref a) H') : tLc wi tgt tt te vs σ H Q' := by
  refine ri B G0 G ρ σ H _ _ r0 q fun J ds G1 ρ1 H1 r1 s1 wk q1 => ?_
  intro Da nD
  obtain ⟨I, i0, turn, fin⟩ := q1
  have bD : B.keep Da = none := r1.bh.free nD
  have gD : G1 Da = none := r1.gh.free nD
  have rD := r1.fresh (o := .lst []) nD
  refine ⟨fun i m H' => m = ds.length - i ∧ i ≤ ds.length ∧ ∃ G' ρ' acc xs, R X.K B G0 G' ρ' (wipe σ vs) H' ∧ Same G1 G' ∧ G' Da = none ∧ H' Da = some (.lst xs) ∧ RepL X.K G' xs acc ∧ (∀ (i : Nat) (e : D), ρ'[i]? = some (Sl.ow e) → (wipe σ vs)[i]? ≠ some (some (.ref Da))) ∧ I i acc ρ' ∧ ∃ ρ'', ρ' = wipeS ρ'' vs,
    ⟨ds.length, by simp, Nat.zero_le _, G1, wipeS ρ1 vs, [], [], rD.wiped vs, Same.refl _, gD, upd_same, .nil, ?_, i0, ρ1, rfl⟩, ?_⟩
  · intro i e hi hs
    have w := (r1.wiped vs).noown nD i e hi
    exact w hs
  rintro i m H2 ⟨rfl, hi, G2, ρ2, acc, xs, r2, s2, g2, h2, l2, ap2, ii, ρ3, rfl⟩
  obtain ⟨go, stop⟩ := wk i G2 H2 s2 r2.gh r2.bh
  by_cases hlt : i < ds.length
  · obtain ⟨g3, y3⟩ := go ds[i] (List.getElem?_eq_getElem hlt)
    refine .inr ⟨g3, fun H' => ∃ G' ρ' acc xs, R X.K B G0 G' ρ' (wipe σ vs) H' ∧ Same G1 G' ∧ G' Da = none ∧ H' Da = some (.lst xs) ∧ RepL X.K G' xs acc ∧ (∀ (i : Nat) (e : D), ρ'[i]? = some (Sl.ow e) → (wipe σ vs)[i]? ≠ some (some (.ref Da))) ∧ I (i + 1) acc ρ' ∧ ∃ ρ'', ρ' = wipeS ρ'' vs,
      fun H' h => ⟨ds.length - (i + 1), by omega, rfl, hlt, h⟩, fun x H3 hy => ?_⟩
    obtain ⟨G3, gr, rp⟩ := y3 x H3 hy
    have s3 := gr.same r2.gh
    have hD3 : H3 Da = some (.lst xs) := gr.sameH _ _ h2
    have gD3 : G3 Da = none := by
      rcases gr with ⟨rfl, rfl⟩ | ⟨p, o, n, rfl, rfl⟩
      · exact g2
      · rw [upd_ne (ne_of_none h2 n)]; exact g2
    have r3 := (r2.grow gr).moreB bD gD3 hD3 ap2
    refine rg _ G0 G3 _ _ H3 x ds[i] _ _ r3 rp (turn i ds[i] acc _ (List.getElem?_eq_getElem hlt) ii) fun ρ4 σ4 r4 o4 q4 => ?_
    have hw : wipe σ4 vs = wipe σ vs := by
      rw [o4.wipe hts]
      apply List.ext_getElem?
      intro n
      by_cases hn : n ∈ vs <;> simp [wipe_get, wipe_length, hn]
    refine ⟨hw, rt _ G0 G3 ρ4 σ4 H3 _ _ r4 q4 fun b G5 ρ5 H5 r5 s5 q5 => ?_⟩
    have keep : ∀ {G' : Hp} {ρ' : Ro} {H' : Hp}, R X.K (B.up Da (.lst xs) bD) G0 G' ρ' σ4 H' → Same G3 G' → H' Da = some (.lst xs) ∧ G' Da = none ∧ (∀ (i : Nat) (e : D), (wipeS ρ' vs)[i]? = some (Sl.ow e) → (wipe σ vs)[i]? ≠ some (some (.ref Da))) ∧ R X.K B G0 G' (wipeS ρ' vs) (wipe σ vs) H' := fun {G' ρ' H'} r' s' => by
      have kp : (B.up Da (.lst xs) bD).keep Da = some (.lst xs) := upd_same
      refine ⟨r'.bh _ _ kp, ?_, ?_, ?_⟩
      · have : G0 Da = none := r2.g0.free g2
        exact r'.sep Da (by rw [kp]; simp) this
      · rw [← hw]
        exact (r'.wiped vs).keepNo kp
      · have := r'.lessB.wiped vs
        rw [hw] at this
        exact this
    cases b with
    | false =>
      rw [if_neg Bool.false_ne_true] at q5 ⊢
      obtain ⟨k1, k2, k3, k4⟩ := keep r5 s5
      exact ⟨G5, _, acc, xs, k4, (s2.trans s3).trans s5, k2, k1, l2.mono (s3.trans s5), k3, q5, ρ5, rfl⟩
    | true =>
      rw [if_pos rfl] at q5 ⊢
      refine re _ G0 G5 ρ5 σ4 H5 _ _ r5 q5 fun v o G6 ρ6 H6 r6 s6 o6 q6 => ?_
      obtain ⟨y, G7, ρ7, s7, rp7, r7, hz, q7⟩ := esc_ok r6 o6 q6
      obtain ⟨k1, k2, k3, k4⟩ := keep r7 ((s5.trans s6).trans s7)
      have l7 := l2.mono (((s3.trans s5).trans s6).trans s7)
      refine ⟨xs, k1, by rw [l7.len]; exact hz, G7, _, acc ++ [y], xs ++ [v], k4.other bD k2 k3, ((((s2.trans s3).trans s5).trans s6).trans s7), k2, upd_same, l7.snoc rp7, k3, q7, ρ7, rfl⟩
  · have e : i = ds.length := by omega
    subst e
    refine .inl ⟨stop (List.getElem?_eq_none (Nat.le_refl _)), ?_⟩
    have rb : R X.K B G0 G2 (backS ρ1 vs (wipeS ρ3 vs)) σ H2 := r1.back s2 r2
    refine k Da (.lst xs) (.list acc) G2 _ H2 rb (s1.trans s2) bD g2 h2 l2 (fun j e hj hs => ?_) (fin acc (wipeS ρ3 vs) ii)
    obtain ⟨n1, n2⟩ := backS_own hj
    exact ap2 j e n2 (by rw [wipe_get, if_neg n1]; exact hs)
/-! the readings, the same in every block -/
def starE (K : PySem.W.Frag) (p : TEp) : TE := fun σ H Q' => ∃ (B : Bs) (G0 G : Hp) (ρ : Ro) (Q : Opd → Ro → Prop), R K B G0 G ρ σ H ∧ p ρ Q ∧ ∀ v o G' ρ' H', R K B G0 G' ρ' σ H' → Same G G' → OpOk K G' σ v o → Q o ρ' → Q' v H'
theorem SE.star {p : TEp} (h : SE X e p) : PE X e (starE X.K p) := by
  obtain ⟨t, et, rt⟩ := h.run
  exact ⟨fun pins s σ H Q' I ⟨B, G0, G, ρ, Q, r, q, k⟩ => et.run pins s σ H Q' I (rt B G0 G ρ σ H Q Q' r q k)⟩
def starTs (K : PySem.W.Frag) (p : TTp) : TT := fun σ H Q' => ∃ (B : Bs) (G0 G : Hp) (ρ : Ro) (Q : Bool → Ro → Prop), R K B G0 G ρ σ H ∧ p ρ Q ∧ ∀ b G' ρ' H', R K B G0 G' ρ' σ H' → Same G G' → Q b ρ' → Q' b H'
theorem STs.star {p : TTp} (h : STs X ifs p) : PTs X ifs (starTs X.K p) := by
  obtain ⟨t, et, rt⟩ := h.run
  exact ⟨fun pins s σ H Q' I ⟨B, G0, G, ρ, Q, r, q, k⟩ => et.run pins s σ H Q' I (rt B G0 G ρ σ H Q Q' r q k)⟩
def starG (K : PySem.W.Frag) (ts : List Nat) (g : TGp) : TG := fun v σ H Q' => ∃ (B : Bs) (G0 G : Hp) (ρ : Ro) (d : D) (Q : Ro → Prop), R K B G0 G ρ σ H ∧ Rep K G v d ∧ g d ρ Q ∧ ∀ ρ' σ', R K B G0 G ρ' σ' H → Out ts σ σ' → Q ρ' → Q' σ' H
theorem SG.star {g : TGp} (h : SG X tg ts g) : PG X tg (starG X.K ts g) := by
  obtain ⟨t, et, rt⟩ := h.run
  exact ⟨fun pins s σ H v u Q' I rv ⟨B, G0, G, ρ, d, Q, r, rp, q, k⟩ => et.run pins s σ H v u Q' I rv (rt B G0 G ρ σ H v d Q Q' r rp q k)⟩
section
variable (hc : X.calm = true) (hN : X.N.Nodup) (hi : SI X tg iter pi) (ok : BlkOk X.N X.env.scope scope own) (hts : ∀ i ∈ ts, i ∈ own.map (·.2))
    (hg : ∀ (s : Shared) (H : Hp) (C : Addr) (cl : List (Str × Addr)) (fp : List Addr), SG (X.blk s H scope (compEnvC scope cl C X.env) fp) tg ts g) (ht : ∀ (s : Shared) (H : Hp) (C : Addr) (cl : List (Str × Addr)) (fp : List Addr), STs (X.blk s H scope (compEnvC scope cl C X.env) fp) ifs pt)
    (he : ∀ (s : Shared) (H : Hp) (C : Addr) (cl : List (Str × Addr)) (fp : List Addr), SE (X.blk s H scope (compEnvC scope cl C X.env) fp) elt pe) (hs : ∀ x, foldedSetIterable iter X.env x = pure x)
include hc hN hi ok hts hg ht he hs
/-- [elt for tg in iter if ..], made anew -/
theorem f_lc0 : SF X (.ListComp elt [⟨tg, iter, ifs, 0⟩] scope pos) (qLc pi g pt pe (own.map (·.2))) := by
  obtain ⟨wi, ei, ri⟩ := hi.run
  refine ⟨_, pe_lc (g := starG X.K ts g) (tt := starTs X.K pt) (te := starE X.K pe) hc hN ei ok (fun s H C cl fp => (hg s H C cl fp).star) (fun s H C cl fp => (ht s H C cl fp).star) (fun s H C cl fp => (he s H C cl fp).star) hs, ?_⟩
  exact lc_run hts ri (fun B G0 G ρ σ H v d Q Q' r rp q k => ⟨B, G0, G, ρ, d, Q, r, rp, q, k⟩) (fun B G0 G ρ σ H Q Q' r q k => ⟨B, G0, G, ρ, Q, r, q, k⟩) (fun B G0 G ρ σ H Q Q' r q k => ⟨B, G0, G, ρ, Q, r, q, k⟩)
/-- name = [..] on one line -/
theorem st_lc0 (i : Nat) {y : Str} {py spos : Pos} (hy : X.N[i]? = some y) (hyl : X.env.scope.names.lookup y = some .local) (hsw : swapsWith (.ListComp elt [⟨tg, iter, ifs, 0⟩] scope pos) (some (.Name y py)) spos.line X.env = pure true) :
    SS X (.Assign [.Name y py] (.ListComp elt [⟨tg, iter, ifs, 0⟩] scope pos) spos) [i] (pSo i (qLc pi g pt pe (own.map (·.2)))) := by
  obtain ⟨wi, ei, ri⟩ := hi.run
  refine ⟨_, ps_setLc (g := starG X.K ts g) (tt := starTs X.K pt) (te := starE X.K pe) hc hN hy hyl hsw ei ok (fun s H C cl fp => (hg s H C cl fp).star) (fun s H C cl fp => (ht s H C cl fp).star) (fun s H C cl fp => (he s H C cl fp).star) hs, fun B G0 G ρ σ H D D' r k w => ?_⟩
  refine lc_run hts ri (fun B G0 G ρ σ H v d Q Q' r rp q k => ⟨B, G0, G, ρ, d, Q, r, rp, q, k⟩) (fun B G0 G ρ σ H Q Q' r q k => ⟨B, G0, G, ρ, Q, r, q, k⟩) (fun B G0 G ρ σ H Q Q' r q k => ⟨B, G0, G, ρ, Q, r, q, k⟩) B G0 G ρ σ H _ _ r w fun a o d G1 ρ1 H1 r1 s1 h1 h2 h3 h4 ap w1 => ?_
  exact k.nx G1 _ _ H1 (r1.setO h1 h2 h3 h4 ap w1.1) (out_set _ _ _) w1.2
end
theorem f_lc (own : List (Str × Nat)) (hc : X.calm = true) (hN : X.N.Nodup) (hi : SI X tg iter pi)
    (hg : ∀ (s : Shared) (H : Hp) (C : Addr) (cl : List (Str × Addr)) (fp : List Addr), SG (X.blk s H scope (compEnvC scope cl C X.env) fp) tg ts g) (ht : ∀ (s : Shared) (H : Hp) (C : Addr) (cl : List (Str × Addr)) (fp : List Addr), STs (X.blk s H scope (compEnvC scope cl C X.env) fp) ifs pt)
    (he : ∀ (s : Shared) (H : Hp) (C : Addr) (cl : List (Str × Addr)) (fp : List Addr), SE (X.blk s H scope (compEnvC scope cl C X.env) fp) elt pe) (ok : BlkOk X.N X.env.scope scope own := by exact blkOk_by (by decide +kernel)) (hts : ∀ i ∈ ts, i ∈ own.map (·.2) := by decide) (hs : ∀ x, foldedSetIterable iter X.env x = pure x := by intro _; rfl) :
    SF X (.ListComp elt [⟨tg, iter, ifs, 0⟩] scope pos) (qLc pi g pt pe (own.map (·.2))) := f_lc0 hc hN hi ok hts hg ht he hs
theorem st_lc (i : Nat) (own : List (Str × Nat)) {y : Str} {py spos : Pos} (hc : X.calm = true) (hN : X.N.Nodup) (hi : SI X tg iter pi)
    (hg : ∀ (s : Shared) (H : Hp) (C : Addr) (cl : List (Str × Addr)) (fp : List Addr), SG (X.blk s H scope (compEnvC scope cl C X.env) fp) tg ts g) (ht : ∀ (s : Shared) (H : Hp) (C : Addr) (cl : List (Str × Addr)) (fp : List Addr), STs (X.blk s H scope (compEnvC scope cl C X.env) fp) ifs pt)
    (he : ∀ (s : Shared) (H : Hp) (C : Addr) (cl : List (Str × Addr)) (fp : List Addr), SE (X.blk s H scope (compEnvC scope cl C X.env) fp) elt pe) (hy : X.N[i]? = some y := by rfl) (hyl : X.env.scope.names.lookup y = some .local := by rfl)
    (hsw : swapsWith (.ListComp elt [⟨tg, iter, ifs, 0⟩] scope pos) (some (.Name y py)) spos.line X.env = pure true := by exact sw_true rfl rfl rfl (by decide +kernel)) (ok : BlkOk X.N X.env.scope scope own := by exact blkOk_by (by decide +kernel)) (hts : ∀ i ∈ ts, i ∈ own.map (·.2) := by decide) (hs : ∀ x, foldedSetIterable iter X.env x = pure x := by intro _; rfl) :
    SS X (.Assign [.Name y py] (.ListComp elt [⟨tg, iter, ifs, 0⟩] scope pos) spos) [i] (pSo i (qLc pi g pt pe (own.map (·.2)))) := st_lc0 hc hN hi ok hts hg ht he hs i hy hyl hsw
end
end PL
namespace PL
open PySem PySem.Spec PyProof.Rows L2
section
variable {X : Cx} {e a b c : Expr} {es : List Expr} {pos p apos cpos : Pos} {pa pb pe : TEp} {pr : TAp}
/-! ### methods of one's own list -/
abbrev SemM := List D → List D → (D → List D → Prop) → Prop
structure MtO (X : Cx) (id : String) (s : SemM) : Prop where
  run : ∃ r, MtR X id r ∧ ∀ (G H : Hp) (l : Addr) (xs vs : List V) (ds as : List D) (Q : D → List D → Prop) (Q' : VK), H l = some (.lst xs) → RepL X.K G xs ds → RepL X.K G vs as → s ds as Q →
    (∀ v c xs' ds', Rep X.K G v c → RepL X.K G xs' ds' → Q c ds' → Q' v (upd H l (.lst xs'))) → r (.ref l) vs H Q'
def ownL (j : Nat) (ρ : Ro) (Q : List D → Prop) : Prop := match ρ[j]? with
  | some (.ow (.list ds)) => Q ds
  | _ => False
def qMt (j : Nat) (s : SemM) (pr : TAp) : TEp := fun ρ Q => ownL j ρ (fun _ => True) ∧ pr ρ fun os ρ1 => escL os ρ1 fun as ρ2 => ownL j ρ2 fun ds => s ds as fun c ds' => Q (.val c) (ρ2.set j (.ow (.list ds')))
theorem ownL_ok {K : PySem.W.Frag} {B : Bs} {G0 G : Hp} {ρ : Ro} {σ : St} {H : Hp} (r : R K B G0 G ρ σ H) {j : Nat} {Q : List D → Prop} (q : ownL j ρ Q) : ∃ l xs ds, ρ[j]? = some (.ow (.list ds)) ∧ σ[j]? = some (some (.ref l)) ∧ H l = some (.lst xs) ∧ RepL K G xs ds ∧ Q ds := by
  unfold ownL at q
  split at q
  · rename_i ds e
    obtain ⟨a, o, e2, _, _, h3, h4⟩ := (r.slot j _ e).own
    cases o <;> first | exact h4.elim | exact ⟨a, _, ds, e, e2, h3, h4, q⟩
  · exact q.elim
theorem mt_run {s : SemM} {r : V → List V → Hp → VK → Prop}
    (hx : ∀ (G H : Hp) (l : Addr) (xs vs : List V) (ds as : List D) (Q : D → List D → Prop) (Q' : VK), H l = some (.lst xs) → RepL X.K G xs ds → RepL X.K G vs as → s ds as Q → (∀ v c xs' ds', Rep X.K G v c → RepL X.K G xs' ds' → Q c ds' → Q' v (upd H l (.lst xs'))) → r (.ref l) vs H Q')
    {B : Bs} {G0 G : Hp} {ρ : Ro} {σ : St} {H : Hp} {j : Nat} {l : Addr} {os : List Opd} {vs : List V} {Q : Opd → Ro → Prop} {Q' : VK} (r0 : R X.K B G0 G ρ σ H) (el : σ[j]? = some (some (.ref l))) (o0 : Paired (OpOk X.K G σ) vs os)
    (q : escL os ρ fun as ρ2 => ownL j ρ2 fun ds => s ds as fun c ds' => Q (.val c) (ρ2.set j (.ow (.list ds'))))
    (k : ∀ v o G' ρ' H', R X.K B G0 G' ρ' σ H' → Same G G' → OpOk X.K G' σ v o → Q o ρ' → Q' v H') : r (.ref l) vs H Q' := by
  obtain ⟨as, G2, ρ2, s2, rl, r2, q2⟩ := escL_ok r0 o0 q
  obtain ⟨l', xs, ds, e1, e2, h3, l3, q3⟩ := ownL_ok r2 q2
  rw [el] at e2; cases e2
  refine hx G2 H l xs vs ds as _ Q' h3 l3 rl q3 fun v c xs' ds' rc rx qq => ?_
  exact k v (.val c) G2 _ _ (r2.write e1 el (show Obj X.K G2 (.lst xs') (.list ds') from rx)) s2 rc qq
variable {x name : Str} {id : String} {s : SemM}
theorem s_mt (j : Nat) (hm : MtO X id s) (slot : Slot "list" name id) (hty : typeOf (.builtin id) = pure (.type "method_descriptor")) (ha : SA X (e :: es) pr) (hN : X.N[j]? = some x := by rfl) (hv : Vis X.env.scope x := by first | exact Or.inl rfl | exact Or.inr (Or.inl rfl) | exact Or.inr (Or.inr rfl)) (hd : (x == ("__debug__" : Str)) = false := by decide)
    (hcd : (x == ("__classdict__" : Str)) = false := by decide) (hbase : attributeBase (.Name x p) name X.env (eval (.Name x p) X.env) = eval (.Name x p) X.env := by rfl)
    (hfew : ((backTo cpos (starEach (e :: es) X.env)).all (fun x => !x.1) && (backToKw cpos (keywordEach [] X.env)).all (fun x => x.1.isSome) && decide ((e :: es).length + ([] : List Keyword).length + (if ([] : List Keyword).isEmpty then 0 else 1) < 30)) = true := by rfl)
    (hline : (apos.endLine == cpos.line) = true := by rfl) (hs : starEach (e :: es) X.env = (false, eval e X.env) :: starEach es X.env := by rfl) (hplain : (backTo cpos (starEach es X.env)).any (·.1) = false := by rfl) :
    SE X (.Call (.Attribute (.Name x p) name apos) (e :: es) [] cpos) (qMt j s pr) := by
  obtain ⟨r, hr, hx⟩ := hm.run
  obtain ⟨t, et, rt⟩ := ha.run
  refine ⟨_, pe_bm PySem.F.plainAttrs_list slot hty hr (pe_var hN hv hd hcd) et hbase hfew hline hs hplain, fun B G0 G ρ σ H Q Q' r0 w k => ?_⟩
  obtain ⟨w0, w1⟩ := w
  obtain ⟨l, xs, ds, e1, e2, h3, l3, _⟩ := ownL_ok r0 w0
  refine ⟨.ref l, e2, .inl ⟨rfl, xs, .inl (.inl h3)⟩, ?_⟩
  exact rt B G0 G ρ σ H _ _ r0 w1 fun vs os G1 ρ1 H1 r1 s1 o1 q1 => mt_run hx r1 e2 o1 q1 fun v o G' ρ' H' r' s' o' q' => k v o G' ρ' H' r' (s1.trans s') o' q'
theorem s_mt0 (j : Nat) (hm : MtO X id s) (slot : Slot "list" name id) (hty : typeOf (.builtin id) = pure (.type "method_descriptor")) (hN : X.N[j]? = some x := by rfl) (hv : Vis X.env.scope x := by first | exact Or.inl rfl | exact Or.inr (Or.inl rfl) | exact Or.inr (Or.inr rfl)) (hd : (x == ("__debug__" : Str)) = false := by decide)
    (hcd : (x == ("__classdict__" : Str)) = false := by decide) (hbase : attributeBase (.Name x p) name X.env (eval (.Name x p) X.env) = eval (.Name x p) X.env := by rfl) (hline : (apos.endLine == cpos.line) = true := by rfl) :
    SE X (.Call (.Attribute (.Name x p) name apos) [] [] cpos) (qMt j s qNil) := by
  obtain ⟨r, hr, hx⟩ := hm.run
  refine ⟨_, pe_bm0 PySem.F.plainAttrs_list slot hty hr (pe_var hN hv hd hcd) hbase hline, fun B G0 G ρ σ H Q Q' r0 w k => ?_⟩
  obtain ⟨w0, w1⟩ := w
  obtain ⟨l, xs, ds, e1, e2, h3, l3, _⟩ := ownL_ok r0 w0
  exact ⟨.ref l, e2, .inl ⟨rfl, xs, .inl (.inl h3)⟩, mt_run hx r0 e2 .nil w1 k⟩
def sAppend : SemM
  | ds, [d], Q => ds.length < sizeLine ∧ Q .none (ds ++ [d])
  | _, _, _ => False
theorem mo_append : MtO X "list.append" sAppend := by
  refine ⟨_, mt_append, fun G H l xs vs ds as Q Q' h lx la q k => ?_⟩
  match as, q with
  | [d], q =>
    obtain ⟨v, vr, rfl, rv, rt⟩ := la.consInv
    rw [rt.nilInv]
    exact ⟨l, xs, v, rfl, rfl, h, by rw [lx.len]; exact q.1, k .non .none _ _ .non (lx.snoc rv) q.2⟩
def sPop : SemM
  | ds, [], Q => ∃ d, ds[ds.length - 1]? = some d ∧ Q d ds.dropLast
  | ds, [.int i], Q => -(2 ^ 63) ≤ i ∧ i < 2 ^ 63 ∧ ∃ k d, seqIndex? i ds.length = some k ∧ ds[k]? = some d ∧ Q d (ds.eraseIdx k)
  | _, _, _ => False
theorem mo_pop0 : MtO X "list.pop" (fun ds as Q => as = [] ∧ sPop ds [] Q) := by
  refine ⟨_, mt_pop, fun G H l xs vs ds as Q Q' h lx la q k => ?_⟩
  obtain ⟨rfl, d, e, q⟩ := q
  rw [la.nilInv]
  obtain ⟨v, ev, rv⟩ := lx.get e
  exact ⟨l, xs, v, rfl, rfl, h, by rw [lx.len]; exact ev, k v d _ _ rv lx.dropLast q⟩
theorem mo_pop1 : MtO X "list.pop" sPop := by
  obtain ⟨r0, m0, h0⟩ := (mo_pop0 (X := X)).run
  refine ⟨_, m0.or mt_popAt, fun G H l xs vs ds as Q Q' h lx la q k => ?_⟩
  match as, q with
  | [], q => exact .inl (h0 G H l xs vs ds [] Q Q' h lx la ⟨rfl, q⟩ k)
  | [.int i], q =>
    obtain ⟨b1, b2, n, d, e1, e2, q⟩ := q
    obtain ⟨v, vr, rfl, rv, rt⟩ := la.consInv
    rw [rt.nilInv]
    cases rv
    obtain ⟨y, ey, ry⟩ := lx.get e2
    exact .inr ⟨l, xs, i, n, y, rfl, rfl, h, b1, b2, by rw [lx.len]; exact e1, ey, k y d _ _ ry (lx.eraseIdx n) q⟩
def sReverse : SemM
  | ds, [], Q => Q .none ds.reverse
  | _, _, _ => False
theorem mo_reverse : MtO X "list.reverse" sReverse := by
  refine ⟨_, mt_reverse, fun G H l xs vs ds as Q Q' h lx la q k => ?_⟩
  match as, q with
  | [], q =>
    rw [la.nilInv]
    exact ⟨l, xs, rfl, rfl, h, k .non .none _ _ .non lx.reverse q⟩
/-! ### x[i] = e, x one's own list -/
def pSub (j : Nat) (pe pi : TEp) : TSp := fun D ρ => pe ρ fun o ρ1 => esc o ρ1 fun d ρ2 => ownL j ρ2 (fun _ => True) ∧ pi ρ2 fun oi ρ3 => pk oi ρ3 fun di => int? di fun i => ownL j ρ3 fun ds => ∃ n, ixN ds.length i = some n ∧ D.nx (ρ3.set j (.ow (.list (ds.set n d))))
theorem st_sub (j : Nat) {i value : Expr} {pv pi : TEp} {xpos tpos : Pos} (hv : SE X value pv) (hi : SE X i pi) (hN : X.N[j]? = some x := by rfl) (hvis : Vis X.env.scope x := by first | exact Or.inl rfl | exact Or.inr (Or.inl rfl) | exact Or.inr (Or.inr rfl)) (hd : (x == ("__debug__" : Str)) = false := by decide)
    (hcd : (x == ("__classdict__" : Str)) = false := by decide) (hs : swapsWithSole [.Subscript (.Name x xpos) i tpos] value pos.line X.env = pure false := by rfl) (hw : swappedStores [.Subscript (.Name x xpos) i tpos] value X.env = pure none := by rfl)
    (h1 : (assignEach [.Subscript (.Name x xpos) i tpos] X.env).map (·.2) = [assign (.Subscript (.Name x xpos) i tpos) X.env] := by rfl)
    (ha : ∀ v, assign (.Subscript (.Name x xpos) i tpos) X.env v = (do
      let ov ← holding [v] (eval (.Name x xpos) X.env)
      let iv ← holding [v, ov] (eval i X.env)
      standAt tpos
      holding [v, ov, iv] (setItem ov iv v)
      release [v, ov, iv] []) := by intro _; rfl) : SS X (.Assign [.Subscript (.Name x xpos) i tpos] value pos) [] (pSub j pv pi) := by
  obtain ⟨t, et, rt⟩ := hv.run
  obtain ⟨ti, ei, ri⟩ := hi.run
  refine ⟨_, ps_asg et (pg_sub (pe_var hN hvis hd hcd) ei set_list ha) hs hw h1, fun B G0 G ρ σ H D D' r k w => ?_⟩
  refine rt B G0 G ρ σ H _ _ r w fun v o G1 ρ1 H1 r1 s1 o1 w1 => ?_
  obtain ⟨d, G2, ρ2, s2, rp, r2, w0, w2⟩ := esc_ok r1 o1 w1
  obtain ⟨l, xs, ds, e1, e2, h3, l3, _⟩ := ownL_ok r2 w0
  refine ⟨.ref l, e2, ?_⟩
  refine ri B G0 G2 ρ2 σ H1 _ _ r2 w2 fun vi oi G3 ρ3 H3 r3 s3 o3 w3 => ?_
  obtain ⟨di, ti, w4⟩ := pk_ok r3 o3 w3
  obtain ⟨n, _, rfl, w5⟩ := int_top ti w4
  obtain ⟨l', xs', ds', e1', e2', h3', l3', m, em, w6⟩ := ownL_ok r3 w5
  rw [e2] at e2'; cases e2'
  refine ⟨l, xs', n, m, rfl, rfl, h3', by rw [l3'.len]; exact em, ?_⟩
  exact k.nx G3 _ σ _ (r3.write e1' e2 (show Obj X.K G3 (.lst (xs'.set m v)) (.list (ds'.set m d)) from l3'.set m (rp.mono s3))) (Out.refl _ _) w6
/-! ### slices -/
structure SO (X : Cx) (e : Option Expr) (p : Ro → (Option Int → Ro → Prop) → Prop) : Prop where
  run : ∃ t, PO X e t ∧ ∀ (B : Bs) (G0 G : Hp) (ρ : Ro) (σ : St) (H : Hp) (Q : Option Int → Ro → Prop) (Q' : Option Int → Hp → Prop), R X.K B G0 G ρ σ H → p ρ Q →
    (∀ i G' ρ' H', R X.K B G0 G' ρ' σ H' → Same G G' → Q i ρ' → Q' i H') → t σ H Q'
def qNoP : Ro → (Option Int → Ro → Prop) → Prop := fun ρ Q => Q none ρ
def qP (pe : TEp) : Ro → (Option Int → Ro → Prop) → Prop := fun ρ Q => pe ρ fun o ρ1 => pk o ρ1 fun d => int? d fun i => Q (some i) ρ1
theorem so_no : SO X none qNoP := ⟨_, po_none, fun B G0 G ρ σ H Q Q' r q k => k none G ρ H r (Same.refl _) q⟩
theorem so_e (h : SE X e pe) : SO X (some e) (qP pe) := by
  obtain ⟨t, et, rt⟩ := h.run
  refine ⟨_, po_some et, fun B G0 G ρ σ H Q Q' r q k => ?_⟩
  refine rt B G0 G ρ σ H _ _ r q fun v o G1 ρ1 H1 r1 s1 o1 q1 => ?_
  obtain ⟨d, t1, q2⟩ := pk_ok r1 o1 q1
  obtain ⟨i, _, rfl, q3⟩ := int_top t1 q2
  exact ⟨i, rfl, k _ G1 ρ1 H1 r1 s1 q3⟩
def cutD (xs : List D) (lo hi : Option Int) : List D := (xs.drop (HT.sIx xs.length 0 lo)).take (HT.sIx xs.length xs.length hi - HT.sIx xs.length 0 lo)
theorem RepL.cut {K : PySem.W.Frag} {G : Hp} {xs : List V} {ds : List D} (h : RepL K G xs ds) (lo hi : Option Int) : RepL K G (cutV xs lo hi) (cutD ds lo hi) := by
  unfold cutV cutD
  rw [h.len]
  exact (h.drop _).take _
def list? (d : D) (Q : List D → Prop) : Prop := match d with
  | .list ds => Q ds
  | _ => False
def qSlL (pe : TEp) (pl ph : Ro → (Option Int → Ro → Prop) → Prop) : TFp := fun ρ Q => pe ρ fun o ρ1 => pl ρ1 fun lo ρ2 => ph ρ2 fun hi ρ3 => pk o ρ3 fun d => list? d fun ds => Q (.list (cutD ds lo hi)) ρ3
theorem f_sl {lo hi : Option Expr} {pl ph : Ro → (Option Int → Ro → Prop) → Prop} {p2 : Pos} (h : SE X e pe) (hl : SO X lo pl) (hh : SO X hi ph) : SF X (.Subscript e (.Slice lo hi none p2) pos) (qSlL pe pl ph) := by
  obtain ⟨t, et, rt⟩ := h.run
  obtain ⟨tl, el, rl⟩ := hl.run
  obtain ⟨th, eh, rh⟩ := hh.run
  refine ⟨_, pe_slice sl_list et el eh, fun B G0 G ρ σ H Q Q' r q k => ?_⟩
  refine rt B G0 G ρ σ H _ _ r q fun v o G1 ρ1 H1 r1 s1 o1 q1 => ?_
  refine rl B G0 G1 ρ1 σ H1 _ _ r1 q1 fun i G2 ρ2 H2 r2 s2 q2 => ?_
  refine rh B G0 G2 ρ2 σ H2 _ _ r2 q2 fun j G3 ρ3 H3 r3 s3 q3 => ?_
  obtain ⟨d, t3, q4⟩ := pk_ok r3 (o1.mono (s2.trans s3)) q3
  match d, q4 with
  | .list ds, q4 =>
    obtain ⟨a, xs, rfl, h1, l1⟩ := t3.list r3.gh
    refine ⟨a, xs, rfl, .inl h1, fun p n => ?_⟩
    exact k p _ (.list (cutD ds i j)) G3 ρ3 _ (r3.fresh n) ((s1.trans s2).trans s3) (r3.bh.free n) (r3.gh.free n) upd_same (show RepL _ _ _ _ from l1.cut i j) (r3.noown n) q4
def qRev (pe : TEp) : TFp := fun ρ Q => pe ρ fun o ρ1 => pk o ρ1 fun d => list? d fun ds => Q (.list ds.reverse) ρ1
theorem f_rev {k : Nat} {p1 p2 p3 : Pos} (h : SE X e pe) : SF X (.Subscript e (.Slice none none (some (.UnaryOp .USub (.Constant (.int 1) k p1) p2)) p3) pos) (qRev pe) := by
  obtain ⟨t, et, rt⟩ := h.run
  refine ⟨_, pe_revL et, fun B G0 G ρ σ H Q Q' r q k => ?_⟩
  refine rt B G0 G ρ σ H _ _ r q fun v o G1 ρ1 H1 r1 s1 o1 q1 => ?_
  obtain ⟨d, t1, q2⟩ := pk_ok r1 o1 q1
  match d, q2 with
  | .list ds, q2 =>
    obtain ⟨a, xs, rfl, h1, l1⟩ := t1.list r1.gh
    refine ⟨a, xs, rfl, .inl h1, fun p n => ?_⟩
    exact k p _ (.list ds.reverse) G1 ρ1 _ (r1.fresh n) s1 (r1.bh.free n) (r1.gh.free n) upd_same (show RepL _ _ _ _ from l1.reverse) (r1.noown n) q2
/-! ### list(range(..)) -/
structure SR (X : Cx) (e : Expr) (p : Ro → (Int → Int → Ro → Prop) → Prop) : Prop where
  run : ∃ t, PRg X e t ∧ ∀ (B : Bs) (G0 G : Hp) (ρ : Ro) (σ : St) (H : Hp) (Q : Int → Int → Ro → Prop) (Q' : Int → Int → Hp → Prop), R X.K B G0 G ρ σ H → p ρ Q →
    (∀ i j G' ρ' H', R X.K B G0 G' ρ' σ H' → Same G G' → Q i j ρ' → Q' i j H') → t σ H Q'
def qR1 (pe : TEp) : Ro → (Int → Int → Ro → Prop) → Prop := fun ρ Q => pe ρ fun o ρ1 => pk o ρ1 fun d => int? d fun i => Q 0 i ρ1
def qR2 (pa pb : TEp) : Ro → (Int → Int → Ro → Prop) → Prop := fun ρ Q => pa ρ fun o ρ1 => pb ρ1 fun u ρ2 => pk o ρ2 fun d => int? d fun i => pk u ρ2 fun d => int? d fun j => Q i j ρ2
theorem sr_1 (hg : Gl X "range") (hm : X.mg "range" = none) (h : SE X a pa) (na : starEach [a] X.env = (false, eval a X.env) :: starEach [] X.env := by rfl) : SR X (.Call (.Name "range" p) [a] [] pos) (qR1 pa) := by
  obtain ⟨t, et, rt⟩ := h.run
  refine ⟨_, prg_1 hg hm et na, fun B G0 G ρ σ H Q Q' r q k => ?_⟩
  refine rt B G0 G ρ σ H _ _ r q fun v o G1 ρ1 H1 r1 s1 o1 q1 => ?_
  obtain ⟨d, t1, q2⟩ := pk_ok r1 o1 q1
  obtain ⟨i, _, rfl, q3⟩ := int_top t1 q2
  exact ⟨i, rfl, k _ _ G1 ρ1 H1 r1 s1 q3⟩
theorem sr_2 (hg : Gl X "range") (hm : X.mg "range" = none) (h : SE X a pa) (h' : SE X b pb) (na : starEach [a, b] X.env = (false, eval a X.env) :: starEach [b] X.env := by rfl) (nb : starEach [b] X.env = (false, eval b X.env) :: starEach [] X.env := by rfl) (hpl : (backTo pos (starEach [b] X.env)).any (·.1) = false := by rfl) : SR X (.Call (.Name "range" p) [a, b] [] pos) (qR2 pa pb) := by
  obtain ⟨t, et, rt⟩ := h.run
  obtain ⟨t', et', rt'⟩ := h'.run
  refine ⟨_, prg_2 hg hm et et' na nb hpl, fun B G0 G ρ σ H Q Q' r q k => ?_⟩
  refine rt B G0 G ρ σ H _ _ r q fun v o G1 ρ1 H1 r1 s1 o1 q1 => ?_
  refine rt' B G0 G1 ρ1 σ H1 _ _ r1 q1 fun v' o' G2 ρ2 H2 r2 s2 o2 q2 => ?_
  obtain ⟨d, t1, q3⟩ := pk_ok r2 (o1.mono s2) q2
  obtain ⟨i, _, rfl, q4⟩ := int_top t1 q3
  obtain ⟨d', t2, q5⟩ := pk_ok r2 o2 q4
  obtain ⟨j, _, rfl, q6⟩ := int_top t2 q5
  exact ⟨i, j, rfl, rfl, k _ _ G2 ρ2 H2 r2 (s1.trans s2) q6⟩
def qLR (p : Ro → (Int → Int → Ro → Prop) → Prop) : TFp := fun ρ Q => p ρ fun i j ρ1 => RgOk i j ∧ Q (.list (rangeD i j)) ρ1
theorem f_lr {p' : Ro → (Int → Int → Ro → Prop) → Prop} (hc : X.calm = true) (hg : Gl X "list") (hm : X.mg "list" = none) (h : SR X e p') (na : starEach [e] X.env = (false, eval e X.env) :: starEach [] X.env := by rfl) : SF X (.Call (.Name "list" p) [e] [] pos) (qLR p') := by
  obtain ⟨t, et, rt⟩ := h.run
  refine ⟨_, pe_listRg hc hg hm et na, fun B G0 G ρ σ H Q Q' r q k => ?_⟩
  refine rt B G0 G ρ σ H _ _ r q fun i j G1 ρ1 H1 r1 s1 q1 => ?_
  refine ⟨q1.1, fun p n => ?_⟩
  have e : rangeD i j = ((List.range (j - i).toNat).map fun n => i + (n : Nat)).map .int := by unfold rangeD; rw [List.map_map]; rfl
  have e' : rgV i j = ((List.range (j - i).toNat).map fun n => i + (n : Nat)).map V.int := by unfold rgV; rw [List.map_map]; rfl
  exact k p _ (.list (rangeD i j)) G1 ρ1 _ (r1.fresh n) s1 (r1.bh.free n) (r1.gh.free n) upd_same (show RepL _ _ _ _ by rw [e, e']; exact RepL.of_ints _) (r1.noown n) q1.2
end
end PL
namespace PL
open PySem PySem.Spec PyProof.Rows L2
/-! ### several values at once, each frozen or one's own -/
abbrev TBp := Ro → (List (D × Bool) → Ro → Prop) → Prop
inductive ItemsOk (K : PySem.W.Frag) (B : Bs) (G H : Hp) (ρ : Ro) (σ : St) : List V → List (D × Bool) → List Addr → Prop
  | nil : ItemsOk K B G H ρ σ [] [] []
  | fz {v d vs ks as} (h : Rep K G v d) (t : ItemsOk K B G H ρ σ vs ks as) : ItemsOk K B G H ρ σ (v :: vs) ((d, false) :: ks) as
  | ow {a o d vs ks as} (h1 : B.keep a = none) (h2 : G a = none) (h3 : H a = some o) (h4 : Obj K G o d) (ap : ∀ (i : Nat) (e : D), ρ[i]? = some (Sl.ow e) → σ[i]? ≠ some (some (.ref a))) (nw : a ∉ as) (t : ItemsOk K B G H ρ σ vs ks as) : ItemsOk K B G H ρ σ (.ref a :: vs) ((d, true) :: ks) (a :: as)
structure SB (X : Cx) (es : List Expr) (p : TBp) : Prop where
  run : ∃ t, PA X es t ∧ ∀ (B : Bs) (G0 G : Hp) (ρ : Ro) (σ : St) (H : Hp) (Q : List (D × Bool) → Ro → Prop) (Q' : List V → Hp → Prop), R X.K B G0 G ρ σ H → p ρ Q →
    (∀ vs ks as G' ρ' H', R X.K B G0 G' ρ' σ H' → Same G G' → ItemsOk X.K B G' H' ρ' σ vs ks as → Q ks ρ' → Q' vs H') → t σ H Q'
section
variable {X : Cx} {e a b c : Expr} {es : List Expr} {pos : Pos} {pe : TEp} {pf : TFp} {pr : TBp}
def bNil : TBp := fun ρ Q => Q [] ρ
def bE (pe : TEp) (pr : TBp) : TBp := fun ρ Q => pe ρ fun o ρ1 => esc o ρ1 fun d ρ2 => pr ρ2 fun ks ρ3 => Q ((d, false) :: ks) ρ3
def bF (pf : TFp) (pr : TBp) : TBp := fun ρ Q => pf ρ fun d ρ1 => pr ρ1 fun ks ρ2 => Q ((d, true) :: ks) ρ2
theorem sb_nil : SB X [] bNil := ⟨_, pa_nil, fun B G0 G ρ σ H Q Q' r p k => k [] [] [] G ρ H r (Same.refl _) .nil p⟩
theorem sb_e (ha : SE X a pe) (hr : SB X es pr) (hs : starEach (a :: es) X.env = (false, eval a X.env) :: starEach es X.env := by rfl) : SB X (a :: es) (bE pe pr) := by
  obtain ⟨ta, ea, ra⟩ := ha.run
  obtain ⟨tr, er, rr⟩ := hr.run
  refine ⟨_, pa_cons ea er hs, fun B G0 G ρ σ H Q Q' r p k => ?_⟩
  refine ra B G0 G ρ σ H _ _ r p fun v o G1 ρ1 H1 r1 s1 o1 q1 => ?_
  obtain ⟨d, G2, ρ2, s2, rp, r2, q2⟩ := esc_ok r1 o1 q1
  refine rr B G0 G2 ρ2 σ H1 _ _ r2 q2 fun vs ks as G3 ρ3 H3 r3 s3 i3 q3 => ?_
  exact k (v :: vs) _ as G3 ρ3 H3 r3 ((s1.trans s2).trans s3) (.fz (rp.mono s3) i3) q3
theorem ItemsOk.weak {K : PySem.W.Frag} {B : Bs} {G H : Hp} {ρ : Ro} {σ : St} {p : Addr} {o : HO} {n : B.keep p = none} {vs : List V} {ks : List (D × Bool)} {as : List Addr} (h : ItemsOk K (B.up p o n) G H ρ σ vs ks as) : ItemsOk K B G H ρ σ vs ks as ∧ p ∉ as := by
  induction h with
  | nil => exact ⟨.nil, by simp⟩
  | fz h t ih => exact ⟨.fz h ih.1, ih.2⟩
  | ow h1 h2 h3 h4 ap nw t ih =>
    rename_i a o' d vs ks as
    have h1 : upd B.keep p o a = none := h1
    have hp : a ≠ p := fun z => by rw [z, upd_same] at h1; cases h1
    rw [upd_ne hp] at h1
    exact ⟨.ow h1 h2 h3 h4 ap nw ih.1, by simp only [List.mem_cons, not_or]; exact ⟨fun z => hp z.symm, ih.2⟩⟩
theorem sb_f (ha : SF X a pf) (hr : SB X es pr) (hs : starEach (a :: es) X.env = (false, eval a X.env) :: starEach es X.env := by rfl) : SB X (a :: es) (bF pf pr) := by
  obtain ⟨ta, ea, ra⟩ := ha.run
  obtain ⟨tr, er, rr⟩ := hr.run
  refine ⟨_, pa_cons ea er hs, fun B G0 G ρ σ H Q Q' r p k => ?_⟩
  refine ra B G0 G ρ σ H _ _ r p fun v o d G1 ρ1 H1 r1 s1 b1 g1 h1 ob ap q1 => ?_
  have rB := r1.moreB b1 g1 h1 ap
  refine rr (B.up v o b1) G0 G1 ρ1 σ H1 _ _ rB q1 fun vs ks as G3 ρ3 H3 r3 s3 i3 q3 => ?_
  obtain ⟨i4, nw⟩ := i3.weak
  have kp : (B.up v o b1).keep v = some o := upd_same
  refine k (.ref v :: vs) _ (v :: as) G3 ρ3 H3 r3.lessB (s1.trans s3) (.ow b1 ?_ (r3.bh _ _ kp) (ob.mono s3) (r3.keepNo kp) nw i4) q3
  exact r3.sep v (by rw [kp]; simp) (r1.g0.free g1)
end
def slK : D × Bool → Sl
  | (d, false) => .fz d
  | (d, true) => .ow d
def setKs : Ro → List Nat → List (D × Bool) → Ro
  | ρ, j :: js, k :: ks => setKs (ρ.set j (slK k)) js ks
  | ρ, _, _ => ρ
def setVs : St → List Nat → List V → St
  | σ, j :: js, v :: vs => setVs (σ.set j (some v)) js vs
  | σ, _, _ => σ
theorem setVs_out : ∀ (js : List Nat) (vs : List V) (σ : St), Out js σ (setVs σ js vs)
  | [], _, σ => by unfold setVs; exact Out.refl _ _
  | j :: js, [], σ => by unfold setVs; exact Out.refl _ _
  | j :: js, v :: vs, σ => by
    unfold setVs
    exact ((out_set σ j (some v)).trans (setVs_out js vs _))
theorem ItemsOk.stored {K : PySem.W.Frag} {B : Bs} {G H : Hp} {ρ : Ro} {σ : St} {j : Nat} {v : V} {d : D} {vs : List V} {ks : List (D × Bool)} {as : List Addr} (t : ItemsOk K B G H ρ σ vs ks as) : ItemsOk K B G H (ρ.set j (.fz d)) (σ.set j (some v)) vs ks as := by
  induction t with
  | nil => exact .nil
  | fz h' t ih => exact .fz h' ih
  | ow h1 h2 h3 h4 ap nw t ih =>
    refine .ow h1 h2 h3 h4 (fun i e hi hs => ?_) nw ih
    by_cases hji : j = i
    · subst hji
      rw [List.getElem?_set, if_pos rfl] at hi
      split at hi <;> cases hi
    · rw [List.getElem?_set_ne hji] at hi hs
      exact ap i e hi hs
theorem ItemsOk.storedO {K : PySem.W.Frag} {B : Bs} {G H : Hp} {ρ : Ro} {σ : St} {j : Nat} {a : Addr} {d : D} {vs : List V} {ks : List (D × Bool)} {as : List Addr} (t : ItemsOk K B G H ρ σ vs ks as) (nw : a ∉ as) : ItemsOk K B G H (ρ.set j (.ow d)) (σ.set j (some (.ref a))) vs ks as := by
  induction t with
  | nil => exact .nil
  | fz h' t ih => exact .fz h' (ih nw)
  | ow h1 h2 h3 h4 ap nw' t ih =>
    rename_i b o d' vs' ks' as'
    simp only [List.mem_cons, not_or] at nw
    refine .ow h1 h2 h3 h4 (fun i e hi hs => ?_) nw' (ih nw.2)
    by_cases hji : j = i
    · subst hji
      rw [List.getElem?_set, if_pos rfl] at hs
      split at hs
      · have : V.ref a = V.ref b := by simpa using hs
        cases this
        exact nw.1 rfl
      · cases hs
    · rw [List.getElem?_set_ne hji] at hi hs
      exact ap i e hi hs
theorem R.setKs {K : PySem.W.Frag} {B : Bs} {G0 G H : Hp} : ∀ {js : List Nat} {vs : List V} {ks : List (D × Bool)} {as : List Addr} {ρ : Ro} {σ : St}, R K B G0 G ρ σ H → ItemsOk K B G H ρ σ vs ks as → (∀ j ∈ js, j < ρ.length) → ks.length = js.length → R K B G0 G (setKs ρ js ks) (setVs σ js vs) H := by
  intro js
  induction js with
  | nil =>
    intro vs ks as ρ σ r t hj hl
    have : ks = [] := List.length_eq_zero_iff.mp hl
    subst this
    cases t
    exact r
  | cons j js ih =>
    intro vs ks as ρ σ r t hj hl
    cases t with
    | nil => cases hl
    | fz h t =>
      have r1 := r.setF h (hj j List.mem_cons_self)
      exact ih r1 t.stored (fun i hi => by rw [List.length_set]; exact hj i (List.mem_cons_of_mem _ hi)) (by simpa using hl)
    | ow h1 h2 h3 h4 ap nw t =>
      have r1 := r.setO h1 h2 h3 h4 ap (hj j List.mem_cons_self)
      exact ih r1 (t.storedO nw) (fun i hi => by rw [List.length_set]; exact hj i (List.mem_cons_of_mem _ hi)) (by simpa using hl)
section
variable {X : Cx} {e a b c : Expr} {es : List Expr} {pos : Pos} {pr : TBp}
/-- x, y = e, e' : all are reckoned ahead of the stores -/
def pPar (js : List Nat) (pr : TBp) : TSp := fun D ρ => pr ρ fun ks ρ1 => ks.length = js.length ∧ (∀ j ∈ js, j < ρ1.length) ∧ D.nx (setKs ρ1 js ks)
theorem ItemsOk.len {K : PySem.W.Frag} {B : Bs} {G H : Hp} {ρ : Ro} {σ : St} {vs : List V} {ks : List (D × Bool)} {as : List Addr} (h : ItemsOk K B G H ρ σ vs ks as) : vs.length = ks.length := by
  induction h with
  | nil => rfl
  | fz h t ih => simp [ih]
  | ow h1 h2 h3 h4 ap nw t ih => simp [ih]
theorem st_par2 (i j : Nat) {x y : Str} {px py pt : Pos} {kt k2 pt2} (hc : X.calm = true) (hN : X.N.Nodup) (ha : SB X [a, b] pr) (hi : X.N[i]? = some x := by rfl) (hj : X.N[j]? = some y := by rfl) (hij : i ≠ j := by decide)
    (hx : X.env.scope.names.lookup x = some .local := by rfl) (hy : X.env.scope.names.lookup y = some .local := by rfl)
    (hw : swappedStores [.Tuple [.Name x px, .Name y py] kt pt] (.Tuple [a, b] k2 pt2) X.env = pure (some [x, y]) := by rfl)
    (hs : swapsWithSole [.Tuple [.Name x px, .Name y py] kt pt] (.Tuple [a, b] k2 pt2) pos.line X.env = pure false := by rfl) :
    SS X (.Assign [.Tuple [.Name x px, .Name y py] kt pt] (.Tuple [a, b] k2 pt2) pos) [i, j] (pPar [i, j] pr) := by
  obtain ⟨t, et, rt⟩ := ha.run
  refine ⟨_, ps_par hc hN hi hj hij hx hy et hw hs, fun B G0 G ρ σ H D D' r k w => ?_⟩
  refine rt B G0 G ρ σ H _ _ r w fun vs ks as G1 ρ1 H1 r1 s1 i1 w1 => ?_
  have vl := i1.len.trans w1.1
  match vs, vl with
  | [v, u], _ => exact ⟨v, u, rfl, k.nx G1 _ _ H1 (r1.setKs i1 w1.2.1 w1.1) (setVs_out [i, j] [v, u] σ) w1.2.2⟩
theorem st_par3 (i j l : Nat) {x y z : Str} {px py pz pt : Pos} {kt k2 pt2} (hc : X.calm = true) (hN : X.N.Nodup) (ha : SB X [a, b, c] pr) (hi : X.N[i]? = some x := by rfl) (hj : X.N[j]? = some y := by rfl) (hl : X.N[l]? = some z := by rfl) (hij : i ≠ j := by decide) (hil : i ≠ l := by decide) (hjl : j ≠ l := by decide)
    (hx : X.env.scope.names.lookup x = some .local := by rfl) (hy : X.env.scope.names.lookup y = some .local := by rfl) (hz : X.env.scope.names.lookup z = some .local := by rfl)
    (hw : swappedStores [.Tuple [.Name x px, .Name y py, .Name z pz] kt pt] (.Tuple [a, b, c] k2 pt2) X.env = pure (some [x, y, z]) := by rfl)
    (hs : swapsWithSole [.Tuple [.Name x px, .Name y py, .Name z pz] kt pt] (.Tuple [a, b, c] k2 pt2) pos.line X.env = pure false := by rfl) :
    SS X (.Assign [.Tuple [.Name x px, .Name y py, .Name z pz] kt pt] (.Tuple [a, b, c] k2 pt2) pos) [i, j, l] (pPar [i, j, l] pr) := by
  obtain ⟨t, et, rt⟩ := ha.run
  refine ⟨_, ps_par3 hc hN hi hj hl hij hil hjl hx hy hz et hw hs, fun B G0 G ρ σ H D D' r k w => ?_⟩
  refine rt B G0 G ρ σ H _ _ r w fun vs ks as G1 ρ1 H1 r1 s1 i1 w1 => ?_
  have vl := i1.len.trans w1.1
  match vs, vl with
  | [v, u, y], _ => exact ⟨v, u, y, rfl, k.nx G1 _ _ H1 (r1.setKs i1 w1.2.1 w1.1) (setVs_out [i, j, l] [v, u, y] σ) w1.2.2⟩
/-- names, one after another -/
def gNames : List Nat → TGs
  | [] => gNil
  | j :: js => gCons (gName j) (gNames js)
theorem gNames_ok : ∀ {js : List Nat} {vs : List V} {σ : St} {H : Hp} {Q : St → Hp → Prop}, vs.length = js.length → Q (setVs σ js vs) H → gNames js vs σ H Q
  | [], [], _, _, _, _, q => ⟨rfl, q⟩
  | j :: js, v :: vs, σ, H, Q, hl, q => ⟨v, vs, rfl, gNames_ok (by simpa using hl) q⟩
structure SN (X : Cx) (tgs : List Expr) (js : List Nat) : Prop where
  run : PGs X tgs (gNames js)
theorem sn_nil : SN X [] [] := ⟨pgs_nil⟩
theorem sn_cons (i : Nat) {x : Str} {js : List Nat} {tgs : List Expr} (hN : X.N.Nodup) (h : SN X tgs js) (hi : X.N[i]? = some x := by rfl) (hx : Loc X.env.scope x := by first | exact Or.inl rfl | exact Or.inr rfl) (hf : X.fn x = true ∨ X.env.scope.names.lookup x = some .local := by first | exact .inl rfl | exact .inr rfl | assumption)
    (hs : (assignEach (.Name x pos :: tgs) X.env).map (·.2) = assign (.Name x pos) X.env :: (assignEach tgs X.env).map (·.2) := by rfl) : SN X (.Name x pos :: tgs) (i :: js) := ⟨pgs_cons (pg_name hN hi hx hf) h.run hs⟩
theorem st_parT {tgs : List Expr} {js : List Nat} {n kt k2 : Nat} {pt pt2 : Pos} (hc : X.calm = true) (ha : SB X es pr) (hg : SN X tgs js) (hlen : js.length = n := by rfl) (hn : (assignEach tgs X.env).length = n := by rfl) (hst : (assignEach tgs X.env).findIdx? (·.1) = none := by rfl) (h16 : n ≤ 16777216 := by decide)
    (hs : swapsWithSole [.Tuple tgs kt pt] (.Tuple es k2 pt2) pos.line X.env = pure false := by rfl) (hw : swappedStores [.Tuple tgs kt pt] (.Tuple es k2 pt2) X.env = pure none := by rfl)
    (h1 : (assignEach [.Tuple tgs kt pt] X.env).map (·.2) = [assign (.Tuple tgs kt pt) X.env] := by rfl) :
    SS X (.Assign [.Tuple tgs kt pt] (.Tuple es k2 pt2) pos) js (pPar js pr) := by
  obtain ⟨t, et, rt⟩ := ha.run
  refine ⟨_, ps_asg (pe_tup et) (pg_tup hc hg.run hn hst) hs hw h1, fun B G0 G ρ σ H D D' r k w => ?_⟩
  refine rt B G0 G ρ σ H _ _ r w fun vs ks as G1 ρ1 H1 r1 s1 i1 w1 => ?_
  have vl := i1.len.trans w1.1
  refine ⟨by rw [vl, hlen, sizeLine_eq]; exact h16, fun p np => ⟨p, vs, rfl, .inl (.inl upd_same), by rw [vl, hlen], gNames_ok vl ?_⟩⟩
  have r2 := r1.fresh (o := .tup vs) np
  have i2 : ItemsOk X.K B G1 (upd H1 p (.tup vs)) ρ1 σ vs ks as := by
    clear w1 vl k w r2
    generalize HO.tup vs = o
    induction i1 with
    | nil => exact .nil
    | fz h t ih => exact .fz h ih
    | ow h1 h2 h3 h4 ap nw t ih => exact .ow h1 h2 (by rw [upd_ne (ne_of_none h3 np)]; exact h3) h4 ap nw ih
  exact k.nx G1 _ _ _ (r2.setKs i2 w1.2.1 w1.1) (setVs_out js vs σ) w1.2.2
end
/-! ### the end of a law: its own contract -/
def fsLaw : FS := fun ds Q => ∃ ns : List Int, ds = [.list (ns.map .int)] ∧ ns.length ≤ 63 ∧ Q (.bool true) []
def noList (K : PySem.W.Frag) : Bool := K.all fun p => !(p.2.cls == .type "list")
theorem mem_look {α : Type} {a : Addr} {o : α} : ∀ {l : List (Addr × α)}, l.lookup a = some o → (a, o) ∈ l
  | [], h => by cases h
  | (b, u) :: l, h => by
    rw [List.lookup_cons] at h
    by_cases e : a = b
    · subst e
      simp at h
      subst h
      exact List.mem_cons_self
    · rw [beq_eq_false_iff_ne.mpr e] at h
      exact List.mem_cons_of_mem _ (mem_look h)
theorem noList_no {K : PySem.W.Frag} (h : noList K = true) {a : Addr} {o : PySem.Obj} (e : K.lookup a = some o) (c : o.cls = .type "list") : False := by
  have m : (a, o) ∈ K := mem_look e
  have := List.all_eq_true.mp h (a, o) m
  simp [c] at this
theorem sp_law {K : PySem.W.Frag} (hK : noList K = true) {H : Hp} {a : Addr} {ns : List Int} (hl : ns.length ≤ 63) (hS : SqL K H a (ns.map V.int)) : spOf K [.fz] false fsLaw [.ref a] H (fun v _ => v = .bl true) fun _ _ _ => False := by
  have hr : Rd H a (.lst (ns.map V.int)) := by
    rcases hS with h | ⟨o, its, n, h1, h2, _⟩
    · exact h
    · exact (noList_no hK h1 h2).elim
  have rl : RepL K H (ns.map V.int) (ns.map .int) := RepL.of_ints ns
  refine ⟨H, [.list (ns.map .int)], Same.refl _, .nil, .cons (Rep.lst hr rl.len rl.at_) .nil, fun d outs => d = .bool true, ⟨ns, rfl, hl, rfl⟩, fun d outs e G' H' v _ _ _ _ _ rs => ?_⟩
  subst e
  cases (show Rep K G' v (.bool true) from rs)
  rfl
end PL
namespace PL
open PySem PySem.Spec PyProof.Rows L2
/-- the built-in names are still the built-in ones -/
structure Bi (mg : Str → Option Value) : Prop where
  len : mg "len" = none
  range : mg "range" = none
  sum : mg "sum" = none
  max : mg "max" = none
  min : mg "min" = none
  abs : mg "abs" = none
  int : mg "int" = none
  str : mg "str" = none
  bool : mg "bool" = none
  list : mg "list" = none
  tuple : mg "tuple" = none
  set : mg "set" = none
  sorted : mg "sorted" = none
  all : mg "all" = none
  any : mg "any" = none
  zip : mg "zip" = none
  enumerate : mg "enumerate" = none
  reversed : mg "reversed" = none
  isinstance : mg "isinstance" = none
def chkM (ms : List PM) (ts : List Nat) : Bool := (List.range ms.length).all fun j => !(decide (ms[j]? = some .mu)) || !(ts.contains j)
theorem chkM_ok {ms : List PM} {ts : List Nat} (h : chkM ms ts = true) : ∀ j, ms[j]? = some .mu → j ∉ ts := fun j hj hm => by
  have hl : j < ms.length := (List.getElem?_eq_some_iff.mp hj).1
  have := List.all_eq_true.mp h j (List.mem_range.mpr hl)
  rw [decide_eq_true hj, List.contains_iff_mem.mpr hm] at this
  cases this
theorem Fn.mk2 {P : Program} {w : World} {K : PySem.W.Frag} {mg : Str → Option Value} {base : Heap} {x : Str} {st : Stmt} {f : Addr} {fd : FuncData} {N ps : List Str} {k : Nat} {ms : List PM} {ro : Bool} {fs : FS} {ts : List Nat}
    (F : Fun K x x st f fd) (S : FnScope N ps (defScope st)) (hb : Binds K fd ps []) (hm : mg x = some (.ref f)) (hl : ms.length = ps.length)
    (hts : chkM ms ts = true)
    (hbody : ∀ (cdv : Value) (A : Around) (outer : List Env) (s : Shared) (H : Hp) (E : XK), Room k (A.deeper (envOfC x (defScope st) s.heap.objs.size f cdv)) →
      ∃ p, SSs (cxOf CX0 P w K mg base N x (defScope st) f cdv A outer s H E).nox (defBody st) ts p ∧ ∀ ds Q, fs ds Q → p (if ro = true then endsO ms Q else endsF ms Q) (initS N.length ms ds)) : Fn P w K mg base (k + 1) x ms ro fs :=
  ⟨f, fd, ps, hm, F.kp, hb, ok_mk F S hl (chkM_ok hts) hbody⟩
theorem ok_mk2 {P : Program} {w : World} {K : PySem.W.Frag} {mg : Str → Option Value} {base : Heap} {x : Str} {st : Stmt} {f : Addr} {fd : FuncData} {N ps : List Str} {k : Nat} {ms : List PM} {ro : Bool} {fs : FS} {ts : List Nat}
    (F : Fun K x x st f fd) (S : FnScope N ps (defScope st)) (hl : ms.length = ps.length) (hts : chkM ms ts = true)
    (hbody : ∀ (cdv : Value) (A : Around) (outer : List Env) (s : Shared) (H : Hp) (E : XK), Room k (A.deeper (envOfC x (defScope st) s.heap.objs.size f cdv)) →
      ∃ p, SSs (cxOf CX0 P w K mg base N x (defScope st) f cdv A outer s H E).nox (defBody st) ts p ∧ ∀ ds Q, fs ds Q → p (if ro = true then endsO ms Q else endsF ms Q) (initS N.length ms ds)) : FnOk P w K mg base CX0 (k + 1) f fd ps (spOf K ms ro fs) :=
  ok_mk F S hl (chkM_ok hts) hbody
end PL
namespace PL
open PySem PySem.Spec PyProof.Rows L2
/-! ### dicts: plain data -/
def dgetD : List (D × D) → D → Option D
  | [], _ => none
  | (a, v) :: r, k => if PyData.eqv a k = true then some v else dgetD r k
def dputD (ps : List (D × D)) (k v : D) : List (D × D) := if ps.any (fun p => PyData.eqv p.1 k) then ps.map (fun p => if PyData.eqv p.1 k = true then (p.1, v) else p) else ps ++ [(k, v)]
theorem eqv_kD (a b : Key) : PyData.eqv (kD a) (kD b) = decide (a = b) := by
  cases a <;> cases b
  · rename_i i j
    show (i == j) = _
    rw [Bool.beq_eq_decide_eq]
    by_cases h : i = j
    · subst h; simp
    · have : ¬ (Sum.inl i : Key) = Sum.inl j := fun z => h (Sum.inl.inj z)
      rw [decide_eq_false h, decide_eq_false this]
  · exact (decide_eq_false (fun z => nomatch z)).symm
  · exact (decide_eq_false (fun z => nomatch z)).symm
  · rename_i i j
    show (i == j) = _
    by_cases h : i = j
    · subst h; simp
    · have : ¬ (Sum.inr i : Key) = Sum.inr j := fun z => h (Sum.inr.inj z)
      rw [decide_eq_false this]
      exact beq_eq_false_iff_ne.mpr h
theorem eqv_ktD : ∀ a b : List Key, PyData.eqv (ktD a) (ktD b) = decide (a = b)
  | [], [] => rfl
  | [], b :: bs => rfl
  | a :: as, [] => rfl
  | a :: as, b :: bs => by
    show (PyData.eqv (kD a) (kD b) && PyData.eqvAll (as.map kD) (bs.map kD)) = _
    have ih : PyData.eqvAll (as.map kD) (bs.map kD) = decide (as = bs) := eqv_ktD as bs
    rw [eqv_kD, ih]
    by_cases h1 : a = b
    · by_cases h2 : as = bs
      · subst h1; subst h2; simp
      · have : ¬ (a :: as = b :: bs) := fun z => h2 (List.cons.inj z).2
        rw [decide_eq_false h2, decide_eq_false this, Bool.and_false]
    · have : ¬ (a :: as = b :: bs) := fun z => h1 (List.cons.inj z).1
      rw [decide_eq_false h1, decide_eq_false this, Bool.false_and]
section
variable {κ : Type} [DecidableEq κ] {K : PySem.W.Frag} {G : Hp} {f : κ → D}
/-- pairs of a dict and what stands for them -/
structure KvOk (f : κ → D) (K : PySem.W.Frag) (G : Hp) (kvs : List (κ × V)) (ps : List (D × D)) : Prop where
  len : kvs.length = ps.length
  keys : ps.map (·.1) = kvs.map (fun p => f p.1)
  vals : RepL K G (kvs.map (·.2)) (ps.map (·.2))
theorem KvOk.inv {p : κ × V} {kvs : List (κ × V)} {qs : List (D × D)} (h : KvOk f K G (p :: kvs) qs) : ∃ q ps, qs = q :: ps ∧ q.1 = f p.1 ∧ Rep K G p.2 q.2 ∧ KvOk f K G kvs ps := by
  cases qs with
  | nil => exact absurd h.len (by simp)
  | cons q ps =>
    have hk := h.keys
    simp only [List.map_cons, List.cons.injEq] at hk
    exact ⟨q, ps, rfl, hk.1, h.vals.head, ⟨by simpa using h.len, hk.2, h.vals.tail⟩⟩
theorem KvOk.nilInv {qs : List (D × D)} (h : KvOk f K G [] qs) : qs = [] := List.length_eq_zero_iff.mp h.len.symm
theorem KvOk.cons {k : κ} {v : V} {d : D} {kvs : List (κ × V)} {ps : List (D × D)} (r : Rep K G v d) (h : KvOk f K G kvs ps) : KvOk f K G ((k, v) :: kvs) ((f k, d) :: ps) :=
  ⟨by simp [h.len], by simp [h.keys], RepL.cons r h.vals⟩
theorem KvOk.nil : KvOk f K G ([] : List (κ × V)) [] := ⟨rfl, rfl, .nil⟩
theorem KvOk.get (hf : ∀ a b : κ, PyData.eqv (f a) (f b) = decide (a = b)) : ∀ {kvs : List (κ × V)} {ps : List (D × D)}, KvOk f K G kvs ps → ∀ k, (∀ d, dgetD ps (f k) = some d → ∃ v, valV kvs k = some v ∧ Rep K G v d) ∧ (dgetD ps (f k) = none → valV kvs k = none)
  | [], ps, h, k => by
    rw [h.nilInv]
    exact ⟨fun d e => (nomatch e), fun _ => rfl⟩
  | p :: kvs, qs, h, k => by
    obtain ⟨q, ps, rfl, e1, rv, t⟩ := h.inv
    obtain ⟨q1, q2⟩ := q
    simp only at e1 rv
    subst e1
    unfold dgetD
    rw [hf]
    by_cases hk : p.1 = k
    · rw [if_pos (decide_eq_true hk)]
      exact ⟨fun d e => ⟨p.2, valV_pos hk, by cases e; exact rv⟩, fun e => by cases e⟩
    · rw [if_neg (by rw [decide_eq_false hk]; exact Bool.false_ne_true), valV_neg hk]
      exact KvOk.get hf t k
theorem KvOk.any (hf : ∀ a b : κ, PyData.eqv (f a) (f b) = decide (a = b)) (k : κ) : ∀ {kvs : List (κ × V)} {ps : List (D × D)}, KvOk f K G kvs ps → ps.any (fun p => PyData.eqv p.1 (f k)) = kvs.any (fun p => decide (p.1 = k))
  | [], ps, h => by rw [h.nilInv]; rfl
  | p :: kvs, qs, h => by
    obtain ⟨q, ps, rfl, e1, rv, t⟩ := h.inv
    rw [List.any_cons, List.any_cons, e1, hf, t.any hf k]
theorem KvOk.set (hf : ∀ a b : κ, PyData.eqv (f a) (f b) = decide (a = b)) {k : κ} {v : V} {d : D} (r : Rep K G v d) : ∀ {kvs : List (κ × V)} {ps : List (D × D)}, KvOk f K G kvs ps → KvOk f K G (kvs.map (fun q => if q.1 = k then (q.1, v) else q)) (ps.map (fun p => if PyData.eqv p.1 (f k) = true then (p.1, d) else p))
  | [], ps, h => by rw [h.nilInv]; exact .nil
  | p :: kvs, qs, h => by
    obtain ⟨q, ps, rfl, e1, rv, t⟩ := h.inv
    obtain ⟨q1, q2⟩ := q
    simp only at e1 rv
    subst e1
    rw [List.map_cons, List.map_cons]
    simp only
    rw [hf]
    by_cases hk : p.1 = k
    · rw [if_pos hk, if_pos (decide_eq_true hk)]
      exact .cons r (t.set hf r)
    · rw [if_neg hk, if_neg (by rw [decide_eq_false hk]; exact Bool.false_ne_true)]
      exact .cons rv (t.set hf r)
theorem KvOk.snoc {k : κ} {v : V} {d : D} (r : Rep K G v d) : ∀ {kvs : List (κ × V)} {ps : List (D × D)}, KvOk f K G kvs ps → KvOk f K G (kvs ++ [(k, v)]) (ps ++ [(f k, d)])
  | [], ps, h => by rw [h.nilInv]; exact .cons r .nil
  | p :: kvs, qs, h => by
    obtain ⟨q, ps, rfl, e1, rv, t⟩ := h.inv
    obtain ⟨q1, q2⟩ := q
    simp only at e1 rv
    subst e1
    exact .cons rv (t.snoc r)
theorem KvOk.put (hf : ∀ a b : κ, PyData.eqv (f a) (f b) = decide (a = b)) {k : κ} {v : V} {d : D} (r : Rep K G v d) {kvs : List (κ × V)} {ps : List (D × D)} (h : KvOk f K G kvs ps) : KvOk f K G (putK kvs k v) (dputD ps (f k) d) := by
  unfold putK dputD
  rw [h.any hf k]
  split
  · exact h.set hf r
  · exact h.snoc r
end
/-- no marker of a dict with tuples as keys -/
def isK : List (D × D) → Bool
  | (.none, _) :: _ => false
  | _ => true
/-- the dict that is looked into by a key -/
def dsel (ps : List (D × D)) (k : D) (Q : List (D × D) → Prop) : Prop := match k with
  | .int _ => isK ps = true ∧ Q ps
  | .str _ => isK ps = true ∧ Q ps
  | .tuple ds => ∃ (ns : List Int) (qs : List (D × D)), ds = ns.map .int ∧ ps = (.none, .none) :: qs ∧ Q qs
  | _ => False
section
variable {K : PySem.W.Frag} {G H : Hp}
theorem Top.dict {v : V} {ps : List (D × D)} (s : Same G H) (h : Top K G H v (.dict ps)) : ∃ a, v = .ref a ∧ ((∃ kvs, Rd H a (.dK kvs) ∧ KvOk kD K G kvs ps) ∨ ∃ kvs qs, ps = (.none, .none) :: qs ∧ Rd H a (.dT kvs) ∧ KvOk ktD K G kvs qs) := by
  rcases h with h | ⟨a, o, rfl, e, h⟩
  · cases h with
    | dk h hl hk hi => exact ⟨_, rfl, .inl ⟨_, .inl (s _ _ h), hl, hk, by rw [List.length_map, List.length_map, hl], hi⟩⟩
    | dt h hl hk hi => exact ⟨_, rfl, .inr ⟨_, _, rfl, .inl (s _ _ h), hl, hk, by rw [List.length_map, List.length_map, hl], hi⟩⟩
  · cases o <;> first | exact h.elim | skip
    · exact ⟨a, rfl, .inl ⟨_, e.rd, h.1, h.2.1, h.2.2⟩⟩
    · cases ps with
      | nil => exact h.elim
      | cons q ps =>
        obtain ⟨rfl, h1, h2, h3⟩ := h
        exact ⟨a, rfl, .inr ⟨_, _, rfl, e.rd, h1, h2, h3⟩⟩
theorem KvOk.isK {kvs : List (Key × V)} {ps : List (D × D)} (h : KvOk kD K G kvs ps) : isK ps = true := by
  cases kvs with
  | nil => rw [h.nilInv]; rfl
  | cons p kvs =>
    obtain ⟨q, ps, rfl, e1, _⟩ := h.inv
    obtain ⟨q1, q2⟩ := q
    simp only at e1
    subst e1
    obtain ⟨k, v⟩ := p
    cases k <;> rfl
theorem inlD (ns : List Int) : ktD (ns.map Sum.inl) = .tuple (ns.map .int) := by
  unfold ktD
  rw [List.map_map]; rfl
theorem inlV (ns : List Int) : (ns.map (Sum.inl : Int → Key)).map kV = ns.map V.int := by rw [List.map_map]; rfl
/-- what stands at a key -/
theorem dget_top {v u : V} {ps : List (D × D)} {k : D} {Q : List (D × D) → Prop} (s : Same G H) (h : Top K G H v (.dict ps)) (hk : Top K G H u k) (q : dsel ps k Q) :
    ∃ a qs, v = .ref a ∧ Q qs ∧ IsD H a ∧ (∀ d, dgetD qs k = some d → ∃ y, DGet H a u (some y) ∧ Rep K G y d) ∧ (dgetD qs k = none → DGet H a u none) := by
  obtain ⟨a, rfl, hh⟩ := h.dict s
  have key : ∀ (k' : Key), k = kD k' → u = kV k' → PL.isK ps = true → Q ps → ∃ a' qs, V.ref a = .ref a' ∧ Q qs ∧ IsD H a' ∧ (∀ d, dgetD qs k = some d → ∃ y, DGet H a' u (some y) ∧ Rep K G y d) ∧ (dgetD qs k = none → DGet H a' u none) := fun k' e1 e2 hK qq => by
    subst e1 e2
    rcases hh with ⟨kvs, hr, ok⟩ | ⟨kvs, qs, rfl, _, _⟩
    · obtain ⟨g1, g2⟩ := ok.get eqv_kD k'
      refine ⟨a, ps, rfl, qq, .inl ⟨kvs, hr⟩, fun d e => ?_, fun e => .inl ⟨kvs, k', hr, rfl, (g2 e).symm⟩⟩
      obtain ⟨y, e3, r⟩ := g1 d e
      exact ⟨y, .inl ⟨kvs, k', hr, rfl, e3.symm⟩, r⟩
    · cases hK
  cases k with
  | int i => exact key (.inl i) rfl hk.int q.1 q.2
  | str i => exact key (.inr i) rfl hk.str q.1 q.2
  | tuple ds =>
    obtain ⟨ns, qs, rfl, rfl, q⟩ := q
    obtain ⟨b, xs, rfl, hb, l⟩ := hk.tupleH s
    have e := l.ints
    subst e
    rcases hh with ⟨kvs, hr, ok⟩ | ⟨kvs, qs', e, hr, ok⟩
    · have := ok.isK
      cases this
    · cases e
      obtain ⟨g1, g2⟩ := ok.get eqv_ktD (ns.map Sum.inl)
      rw [inlD] at g1 g2
      refine ⟨a, qs, rfl, q, .inr ⟨kvs, hr⟩, fun d e => ?_, fun e => .inr ⟨kvs, _, b, hr, rfl, by rw [inlV]; exact hb, (g2 e).symm⟩⟩
      obtain ⟨y, e3, r⟩ := g1 d e
      exact ⟨y, .inr ⟨kvs, _, b, hr, rfl, by rw [inlV]; exact hb, e3.symm⟩, r⟩
  | none => exact q.elim
  | bool b => exact q.elim
  | list ds => exact q.elim
  | dict ds => exact q.elim
end
section
variable {X : Cx} {e a b c : Expr} {es : List Expr} {pos p apos cpos : Pos} {pa pb pe pc : TEp}
/-! ### d[k], k in d, d.get(k, x), len(d) -/
def sDget : Sem2
  | .dict ps, k, Q => dsel ps k fun qs => ∃ d, dgetD qs k = some d ∧ Q d
  | _, _, _ => False
theorem s_dget {m : Nat} (hr : Room m X.A) (ha : SE X a pa) (hb : SE X b pb) (hs : NoSl b := by exact fun _ _ => rfl) : SE X (.Subscript a b pos) (qBin sDget pa pb) := by
  obtain ⟨ta, ea, ra⟩ := ha.run
  obtain ⟨tb, eb, rb⟩ := hb.run
  refine ⟨_, pe_dget (hu_of hr) ea eb hs, fun B G0 G ρ σ H Q Q' r0 p k => ?_⟩
  refine bin_run (r := fun x y H Q => ∃ a v, x = .ref a ∧ DGet H a y (some v) ∧ Q v H) (op := fun d e ρ2 => sDget d e fun c => Q (.val c) ρ2) ra rb r0 p fun x y d e G' ρ' H' r1 s1 t1 t2 q => ?_
  match d, q with
  | .dict ps, q =>
    unfold sDget at q
    obtain ⟨a, qs, rfl, ⟨d, e1, q⟩, _, g1, _⟩ := dget_top r1.gh t1 t2 q
    obtain ⟨y', dg, rp⟩ := g1 d e1
    exact ⟨a, y', rfl, dg, k y' (.val d) G' ρ' H' r1 s1 rp q⟩
def sDin : Sem2
  | k, .dict ps, Q => dsel ps k fun qs => Q (.bool (dgetD qs k).isSome)
  | _, _, _ => False
def sDnotin : Sem2
  | k, .dict ps, Q => dsel ps k fun qs => Q (.bool (!(dgetD qs k).isSome))
  | _, _, _ => False
theorem din_of {H : Hp} {a : Addr} {u : V} {qs : List (D × D)} {k : D} {G : Hp} (g1 : ∀ d, dgetD qs k = some d → ∃ y, DGet H a u (some y) ∧ Rep X.K G y d) (g2 : dgetD qs k = none → DGet H a u none) : ∃ o, DGet H a u o ∧ o.isSome = (dgetD qs k).isSome := by
  cases e : dgetD qs k with
  | none => exact ⟨none, g2 e, rfl⟩
  | some d =>
    obtain ⟨y, dg, _⟩ := g1 d e
    exact ⟨some y, dg, rfl⟩
theorem opd_din {m : Nat} (hr : Room m X.A) : OpD X (compareOp .In) sDin := by
  refine ⟨fun y x H Q => ∃ a o, x = .ref a ∧ DGet H a y o ∧ Q (.bl o.isSome) H, fun pins s σ H x y v u Q I rx ry ⟨a, o, e, g, q⟩ => ?_, fun G H x y d e Q Q' s0 t1 t2 q k => ?_⟩
  · subst e
    obtain rfl : u = Value.ref a := ry
    exact d_in (hu_of hr) I g rx fun s3 I3 => ⟨.bl o.isSome, H, I3, rfl, q⟩
  · match e, q with
    | .dict ps, q =>
      unfold sDin at q
      obtain ⟨a, qs, rfl, q, _, g1, g2⟩ := dget_top s0 t2 t1 q
      obtain ⟨o, dg, eo⟩ := din_of g1 g2
      exact ⟨a, o, rfl, dg, by rw [eo]; exact k _ _ G H .refl (.bl _) q⟩
theorem opd_dnotin {m : Nat} (hr : Room m X.A) : OpD X (compareOp .NotIn) sDnotin := by
  refine ⟨fun y x H Q => ∃ a o, x = .ref a ∧ DGet H a y o ∧ Q (.bl (!o.isSome)) H, fun pins s σ H x y v u Q I rx ry ⟨a, o, e, g, q⟩ => ?_, fun G H x y d e Q Q' s0 t1 t2 q k => ?_⟩
  · subst e
    obtain rfl : u = Value.ref a := ry
    exact d_notIn (hu_of hr) I g rx fun s3 I3 => ⟨.bl (!o.isSome), H, I3, rfl, q⟩
  · match e, q with
    | .dict ps, q =>
      unfold sDnotin at q
      obtain ⟨a, qs, rfl, q, _, g1, g2⟩ := dget_top s0 t2 t1 q
      obtain ⟨o, dg, eo⟩ := din_of g1 g2
      exact ⟨a, o, rfl, dg, by rw [eo]; exact k _ _ G H .refl (.bl _) q⟩
def qGet2 (pa pb pc : TEp) : TEp := fun ρ Q => pa ρ fun a ρ1 => pk a ρ1 (fun d => ∃ ps, d = .dict ps) ∧ pb ρ1 fun b ρ2 => pc ρ2 fun c ρ3 => pk a ρ3 fun d => pk b ρ3 fun k => esc c ρ3 fun x ρ4 => match d with
  | .dict ps => dsel ps k fun qs => Q (.val ((dgetD qs k).getD x)) ρ4
  | _ => False
theorem s_get2 {m : Nat} {f : Expr} (hr : Room m X.A) (ha : SE X a pa) (hb : SE X b pb) (hc : SE X f pc) (mm : M2 X a "get" apos b f cpos := by exact ⟨rfl, rfl, rfl, rfl⟩) : SE X (.Call (.Attribute a "get" apos) [b, f] [] cpos) (qGet2 pa pb pc) := by
  obtain ⟨ta, ea, ra⟩ := ha.run
  obtain ⟨tb, eb, rb⟩ := hb.run
  obtain ⟨tc, ec, rc⟩ := hc.run
  refine ⟨_, pe_dget2 (hu_of hr) ea eb ec mm, fun B G0 G ρ σ H Q Q' r0 p k => ?_⟩
  refine ra B G0 G ρ σ H _ _ r0 p fun v o G1 ρ1 H1 r1 s1 o1 q1 => ?_
  obtain ⟨q0, q1⟩ := q1
  obtain ⟨d0, t0, ps0, rfl⟩ := pk_ok r1 o1 q0
  obtain ⟨a', rfl, w⟩ := t0.dict r1.gh
  refine ⟨a', rfl, ?_, ?_⟩
  · rcases w with ⟨kvs, w, _⟩ | ⟨kvs, _, _, w, _⟩
    · exact .inl ⟨kvs, w⟩
    · exact .inr ⟨kvs, w⟩
  refine rb B G0 G1 ρ1 σ H1 _ _ r1 q1 fun v2 o' G2 ρ2 H2 r2 s2 o2 q2 => ?_
  refine rc B G0 G2 ρ2 σ H2 _ _ r2 q2 fun v3 o'' G3 ρ3 H3 r3 s3 o3 q3 => ?_
  obtain ⟨d, t1, q4⟩ := pk_ok r3 (o1.mono (s2.trans s3)) q3
  obtain ⟨kd, t2, q5⟩ := pk_ok r3 (o2.mono s3) q4
  obtain ⟨x, G4, ρ4, s4, rx, r4, q6⟩ := esc_ok r3 o3 q5
  match d, q6 with
  | .dict ps, q6 =>
    have t1' : Top X.K G4 H3 (.ref a') (.dict ps) := t1.mono s4 (Same.refl _)
    have t2' : Top X.K G4 H3 v2 kd := t2.mono s4 (Same.refl _)
    obtain ⟨a2, qs, e2, q7, _, g1, g2⟩ := dget_top r4.gh t1' t2' q6
    cases e2
    cases e : dgetD qs kd with
    | none =>
      rw [e] at q7
      exact ⟨none, g2 e, k v3 (.val x) G4 ρ4 H3 r4 (((s1.trans s2).trans s3).trans s4) rx q7⟩
    | some dv =>
      rw [e] at q7
      obtain ⟨y, dg, ry⟩ := g1 dv e
      exact ⟨some y, dg, k y (.val dv) G4 ρ4 H3 r4 (((s1.trans s2).trans s3).trans s4) ry q7⟩
/-! ### new dicts -/
def qDnew (d : D) : TFp := fun ρ Q => Q d ρ
theorem f_dK : SF X (.Dict [] [] pos) (qDnew (.dict [])) :=
  ⟨_, pe_dnewK, fun B G0 G ρ σ H Q Q' r q k p n => k p _ (.dict []) G ρ _ (r.fresh n) (Same.refl _) (r.bh.free n) (r.gh.free n) upd_same (show Obj X.K G (.dK []) (.dict []) from ⟨rfl, rfl, .nil⟩) (r.noown n) q⟩
theorem f_dT : SF X (.Dict [] [] pos) (qDnew (.dict [(.none, .none)])) :=
  ⟨_, pe_dnewT, fun B G0 G ρ σ H Q Q' r q k p n => k p _ (.dict [(.none, .none)]) G ρ _ (r.fresh n) (Same.refl _) (r.bh.free n) (r.gh.free n) upd_same (show Obj X.K G (.dT []) (.dict [(.none, .none)]) from ⟨rfl, rfl, rfl, .nil⟩) (r.noown n) q⟩
/-- {i: e} with a written int -/
def qD1 (i : Int) (pe : TEp) : TFp := fun ρ Q => pe ρ fun o ρ1 => esc o ρ1 fun d ρ2 => Q (.dict [(.int i, d)]) ρ2
theorem f_d1 {i : Int} {j} {pi : Pos} (h : SE X e pe) : SF X (.Dict [some (.Constant (.int i) j pi)] [e] pos) (qD1 i pe) := by
  obtain ⟨t, et, rt⟩ := h.run
  refine ⟨_, pe_disp (pps_cons pe_int et pps_nil) (by rfl) (by rfl) (fun z => by cases z) (by simp [sizeLine]), fun B G0 G ρ σ H Q Q' r0 q k p n => ?_⟩
  have r0B := r0.freshB (o := .dK []) n
  refine rt _ G0 G ρ σ _ _ _ r0B q fun v o G1 ρ1 H1 r1 s1 o1 q1 => ?_
  obtain ⟨d, G2, ρ2, s2, rp, r2, q2⟩ := esc_ok r1 o1 q1
  have kp : (B.up p (.dK []) (r0.bh.free n)).keep p = some (.dK []) := upd_same
  have bn := r0.bh.free n
  have gn : G2 p = none := r2.sep p (by rw [kp]; simp) (r0.g0.free (r0.gh.free n))
  refine ⟨r2.bh _ _ kp, [(Sum.inl i, v)], rfl, by simp [sizeLine], ?_⟩
  exact k p _ (.dict [(.int i, d)]) G2 ρ2 _ (r2.lessB.other bn gn (r2.keepNo kp)) (s1.trans s2) bn gn upd_same (show Obj X.K G2 (.dK _) (.dict [(.int i, d)]) from ⟨rfl, rfl, RepL.cons rp .nil⟩) (r2.keepNo kp) q2
end
end PL
namespace PL
open PySem PySem.Spec PyProof.Rows L2
/-! ### x[i] = e, x one's own list or dict -/
def sSet : D → D → D → (D → Prop) → Prop
  | .list ds, .int i, v, Q => ∃ n, ixN ds.length i = some n ∧ Q (.list (ds.set n v))
  | .dict ps, .int i, v, Q => isK ps = true ∧ ps.length < sizeLine ∧ Q (.dict (dputD ps (.int i) v))
  | .dict ps, .str i, v, Q => isK ps = true ∧ ps.length < sizeLine ∧ Q (.dict (dputD ps (.str i) v))
  | .dict ps, .tuple ds, v, Q => ∃ (ns : List Int) (qs : List (D × D)), ds = ns.map .int ∧ ps = (.none, .none) :: qs ∧ qs.length < sizeLine ∧ Q (.dict ((.none, .none) :: dputD qs (.tuple ds) v))
  | _, _, _, _ => False
def ownA (j : Nat) (ρ : Ro) (Q : D → Prop) : Prop := match ρ[j]? with
  | some (.ow d) => Q d
  | _ => False
theorem ownA_ok {K : PySem.W.Frag} {B : Bs} {G0 G : Hp} {ρ : Ro} {σ : St} {H : Hp} (r : R K B G0 G ρ σ H) {j : Nat} {Q : D → Prop} (q : ownA j ρ Q) : ∃ a o d, ρ[j]? = some (.ow d) ∧ σ[j]? = some (some (.ref a)) ∧ H a = some o ∧ Obj K G o d ∧ Q d := by
  unfold ownA at q
  split at q
  · rename_i d e
    obtain ⟨a, o, e2, _, _, h3, h4⟩ := (r.slot j _ e).own
    exact ⟨a, o, d, e, e2, h3, h4, q⟩
  · exact q.elim
theorem set_or {X : Cx} {t t' : TSet} (h : PSet X t) (h' : PSet X t') : PSet X (fun o i v H Q => t o i v H Q ∨ t' o i v H Q) := fun pins s σ H o i v ov iv u Q I r1 r2 r3 q =>
  q.elim (h pins s σ H o i v ov iv u Q I r1 r2 r3) (h' pins s σ H o i v ov iv u Q I r1 r2 r3)
theorem Obj.dict {K : PySem.W.Frag} {G : Hp} {o : HO} {ps : List (D × D)} (h : Obj K G o (.dict ps)) : (∃ kvs, o = .dK kvs ∧ KvOk kD K G kvs ps) ∨ ∃ kvs qs, o = .dT kvs ∧ ps = (.none, .none) :: qs ∧ KvOk ktD K G kvs qs := by
  cases o <;> first | exact h.elim | skip
  · exact .inl ⟨_, rfl, h.1, h.2.1, h.2.2⟩
  · cases ps with
    | nil => exact h.elim
    | cons q ps =>
      obtain ⟨rfl, h1, h2, h3⟩ := h
      exact .inr ⟨_, _, rfl, rfl, h1, h2, h3⟩
theorem KvOk.objK {K : PySem.W.Frag} {G : Hp} {kvs : List (Key × V)} {ps : List (D × D)} (h : KvOk kD K G kvs ps) : Obj K G (.dK kvs) (.dict ps) := ⟨h.len, h.keys, h.vals⟩
theorem KvOk.objT {K : PySem.W.Frag} {G : Hp} {kvs : List (List Key × V)} {ps : List (D × D)} (h : KvOk ktD K G kvs ps) : Obj K G (.dT kvs) (.dict ((.none, .none) :: ps)) := ⟨rfl, h.len, h.keys, h.vals⟩
theorem set_top {K : PySem.W.Frag} {G H : Hp} {a : Addr} {o : HO} {d di dv : D} {vi v : V} {Q : D → Prop} {Q' : Hp → Prop} (s : Same G H) (h3 : H a = some o) (h4 : Obj K G o d) (ti : Top K G H vi di) (rv : Rep K G v dv) (q : sSet d di dv Q)
    (k : ∀ o' d', Obj K G o' d' → Q d' → Q' (upd H a o')) : rSetL (.ref a) vi v H Q' ∨ rSetD (.ref a) vi v H Q' := by
  have key : ∀ (k' : Key) (ps : List (D × D)), di = kD k' → vi = kV k' → d = .dict ps → isK ps = true → ps.length < sizeLine → Q (.dict (dputD ps di dv)) → rSetD (.ref a) vi v H Q' := fun k' ps e1 e2 e3 hK hl qq => by
    subst e1 e2 e3
    rcases h4.dict with ⟨kvs, rfl, ok⟩ | ⟨kvs, qs, rfl, rfl, _⟩
    · exact ⟨a, _, rfl, .inl ⟨kvs, k', h3, rfl, by rw [ok.len]; exact hl, rfl⟩, k _ _ (ok.put eqv_kD rv).objK qq⟩
    · cases hK
  cases d with
  | list ds =>
    cases di <;> first | exact q.elim | skip
    obtain ⟨n, e, q⟩ := q
    obtain rfl := ti.int
    cases o <;> first | exact h4.elim | skip
    rename_i xs
    have h4 : RepL K G xs ds := h4
    exact .inl ⟨a, xs, _, n, rfl, rfl, h3, by rw [h4.len]; exact e, k (.lst (xs.set n v)) (.list (ds.set n dv)) (h4.set n rv) q⟩
  | dict ps =>
    cases di <;> first | exact q.elim | skip
    · rename_i i
      exact .inr (key (.inl i) ps rfl ti.int rfl q.1 q.2.1 q.2.2)
    · rename_i i
      exact .inr (key (.inr i) ps rfl ti.str rfl q.1 q.2.1 q.2.2)
    · obtain ⟨ns, qs, rfl, rfl, hl, q⟩ := q
      obtain ⟨b, xs, rfl, hb, l⟩ := ti.tupleH s
      have e := l.ints
      subst e
      rcases h4.dict with ⟨kvs, rfl, ok⟩ | ⟨kvs, qs', rfl, e, ok⟩
      · cases ok.isK
      · cases e
        refine .inr ⟨a, _, rfl, .inr ⟨kvs, ns.map Sum.inl, b, h3, rfl, by rw [inlV]; exact hb, by rw [ok.len]; exact hl, rfl⟩, ?_⟩
        have p := (ok.put eqv_ktD (k := ns.map Sum.inl) rv).objT
        rw [inlD] at p
        exact k _ _ p q
  | _ => exact q.elim
section
variable {X : Cx} {e a b c : Expr} {es : List Expr} {pos p apos cpos : Pos} {x : Str}
def pSub2 (j : Nat) (pe pi : TEp) : TSp := fun D ρ => pe ρ fun o ρ1 => esc o ρ1 fun d ρ2 => ownA j ρ2 (fun _ => True) ∧ pi ρ2 fun oi ρ3 => pk oi ρ3 fun di => ownA j ρ3 fun dc => sSet dc di d fun d' => D.nx (ρ3.set j (.ow d'))
theorem st_sub2 {m : Nat} (hr : Room m X.A) (j : Nat) {i value : Expr} {pv pi : TEp} {xpos tpos : Pos} (hv : SE X value pv) (hi : SE X i pi) (hN : X.N[j]? = some x := by rfl) (hvis : Vis X.env.scope x := by first | exact Or.inl rfl | exact Or.inr (Or.inl rfl) | exact Or.inr (Or.inr rfl)) (hd : (x == ("__debug__" : Str)) = false := by decide)
    (hcd : (x == ("__classdict__" : Str)) = false := by decide) (hs : swapsWithSole [.Subscript (.Name x xpos) i tpos] value pos.line X.env = pure false := by rfl) (hw : swappedStores [.Subscript (.Name x xpos) i tpos] value X.env = pure none := by rfl)
    (h1 : (assignEach [.Subscript (.Name x xpos) i tpos] X.env).map (·.2) = [assign (.Subscript (.Name x xpos) i tpos) X.env] := by rfl)
    (ha : ∀ v, assign (.Subscript (.Name x xpos) i tpos) X.env v = (do
      let ov ← holding [v] (eval (.Name x xpos) X.env)
      let iv ← holding [v, ov] (eval i X.env)
      standAt tpos
      holding [v, ov, iv] (setItem ov iv v)
      release [v, ov, iv] []) := by intro _; rfl) : SS X (.Assign [.Subscript (.Name x xpos) i tpos] value pos) [] (pSub2 j pv pi) := by
  obtain ⟨t, et, rt⟩ := hv.run
  obtain ⟨ti, ei, ri⟩ := hi.run
  refine ⟨_, ps_asg et (pg_sub (pe_var hN hvis hd hcd) ei (set_or set_list (set_dict (hu_of hr))) ha) hs hw h1, fun B G0 G ρ σ H D D' r k w => ?_⟩
  refine rt B G0 G ρ σ H _ _ r w fun v o G1 ρ1 H1 r1 s1 o1 w1 => ?_
  obtain ⟨d, G2, ρ2, s2, rp, r2, w0, w2⟩ := esc_ok r1 o1 w1
  obtain ⟨l, ob, dc, e1, e2, h3, l3, _⟩ := ownA_ok r2 w0
  refine ⟨.ref l, e2, ?_⟩
  refine ri B G0 G2 ρ2 σ H1 _ _ r2 w2 fun vi oi G3 ρ3 H3 r3 s3 o3 w3 => ?_
  obtain ⟨di, ti, w4⟩ := pk_ok r3 o3 w3
  obtain ⟨l', ob', dc', e1', e2', h3', l3', w5⟩ := ownA_ok r3 w4
  rw [e2] at e2'; cases e2'
  exact set_top r3.gh h3' l3' ti (rp.mono s3) w5 fun o' d' ob2 q => k.nx G3 _ σ _ (r3.write e1' e2 ob2) (Out.refl _ _) q
/-! ### own slots that are moved -/
def bM (j : Nat) (pr : TBp) : TBp := fun ρ Q => ownA j ρ fun d => pr (ρ.set j .no) fun ks ρ' => Q ((d, true) :: ks) ρ'
theorem R.moved {K : PySem.W.Frag} {B : Bs} {G0 G : Hp} {ρ : Ro} {σ : St} {H : Hp} (r : R K B G0 G ρ σ H) {j : Nat} {d : D} (e : ρ[j]? = some (.ow d)) : ∃ a o, σ[j]? = some (some (.ref a)) ∧ B.keep a = none ∧ G a = none ∧ H a = some o ∧ Obj K G o d ∧ R K B G0 G (ρ.set j .no) σ H ∧ ∀ (i : Nat) (e : D), (ρ.set j .no)[i]? = some (Sl.ow e) → σ[i]? ≠ some (some (.ref a)) := by
  obtain ⟨a, o, e2, h1, h2, h3, h4⟩ := (r.slot j _ e).own
  refine ⟨a, o, e2, h1, h2, h3, h4, r.drop j, fun i e' hi hs => ?_⟩
  by_cases hj : j = i
  · subst hj
    rw [List.getElem?_set, if_pos rfl] at hi
    split at hi <;> cases hi
  · rw [List.getElem?_set_ne hj] at hi
    exact r.apart j i d e' a hj e hi e2 hs
theorem sb_mv (j : Nat) {pr : TBp} (hr : SB X es pr) (hN : X.N[j]? = some x := by rfl) (hv : Vis X.env.scope x := by first | exact Or.inl rfl | exact Or.inr (Or.inl rfl) | exact Or.inr (Or.inr rfl)) (hd : (x == ("__debug__" : Str)) = false := by decide)
    (hcd : (x == ("__classdict__" : Str)) = false := by decide) (hs : starEach (.Name x p :: es) X.env = (false, eval (.Name x p) X.env) :: starEach es X.env := by rfl) : SB X (.Name x p :: es) (bM j pr) := by
  obtain ⟨tr, er, rr⟩ := hr.run
  refine ⟨_, pa_cons (pe_var hN hv hd hcd) er hs, fun B G0 G ρ σ H Q Q' r q k => ?_⟩
  unfold bM ownA at q
  split at q
  · rename_i d e
    obtain ⟨a, o, e2, b1, g1, h1, ob, r1, ap⟩ := r.moved e
    have rB := r1.moreB b1 g1 h1 ap
    refine ⟨.ref a, e2, ?_⟩
    refine rr (B.up a o b1) G0 G _ σ H _ _ rB q fun vs ks as G3 ρ3 H3 r3 s3 i3 q3 => ?_
    obtain ⟨i4, nw⟩ := i3.weak
    have kp : (B.up a o b1).keep a = some o := upd_same
    refine k (.ref a :: vs) _ (a :: as) G3 ρ3 H3 r3.lessB s3 (.ow b1 ?_ (r3.bh _ _ kp) (ob.mono s3) (r3.keepNo kp) nw i4) q3
    exact r3.sep a (by rw [kp]; simp) (r1.g0.free g1)
  · exact q.elim
/-- y = x, x one's own and not used any more -/
def fM (j : Nat) : TFp := fun ρ Q => ownA j ρ fun d => Q d (ρ.set j .no)
theorem f_mv (j : Nat) (hN : X.N[j]? = some x := by rfl) (hv : Vis X.env.scope x := by first | exact Or.inl rfl | exact Or.inr (Or.inl rfl) | exact Or.inr (Or.inr rfl)) (hd : (x == ("__debug__" : Str)) = false := by decide)
    (hcd : (x == ("__classdict__" : Str)) = false := by decide) : SF X (.Name x p) (fM j) := by
  refine ⟨_, pe_var hN hv hd hcd, fun B G0 G ρ σ H Q Q' r q k => ?_⟩
  unfold fM ownA at q
  split at q
  · rename_i d e
    obtain ⟨a, o, e2, b1, g1, h1, ob, r1, ap⟩ := r.moved e
    exact ⟨.ref a, e2, k a o d G _ H r1 (Same.refl _) b1 g1 h1 ob ap q⟩
  · exact q.elim
/-! ### own dicts, locked -/
def unLk : Sl → Sl
  | .lk _ => .no
  | s => s
def unlk (j : Nat) (d : D) (ρ : Ro) : Ro := (ρ.map unLk).set j (.ow d)
def Bs.locked (B : Bs) (a : Addr) (od : PySem.Obj) (kvs : List (Key × V)) (n : B.keep a = none) : Bs where
  lent := B.lent
  keep := upd B.keep a (.frz od (.dK kvs))
  le := B.le.trans (fun b x h => by rw [upd_ne (ne_of_none h n)]; exact h)
  lock := upd B.lock a (.frz od (.dK kvs))
  ll := fun b x h => by
    by_cases hb : b = a
    · subst hb; rw [upd_same] at h ⊢; exact h
    · rw [upd_ne hb] at h ⊢; exact B.ll b x h
theorem R.locked {K : PySem.W.Frag} {B : Bs} {G0 G : Hp} {ρ : Ro} {σ : St} {H : Hp} (r : R K B G0 G ρ σ H) {j : Nat} {d : D} {a : Addr} {kvs : List (Key × V)} (e : ρ[j]? = some (.ow d)) (e2 : σ[j]? = some (some (.ref a))) (h3 : H a = some (.dK kvs)) (ob : Obj K G (.dK kvs) d) (n : B.keep a = none) (g : G a = none) (od : PySem.Obj) :
    R K (B.locked a od kvs n) G0 G (ρ.set j (.lk d)) σ (upd H a (.frz od (.dK kvs))) := by
  have hl : j < ρ.length := (List.getElem?_eq_some_iff.mp e).1
  refine ⟨same_updR r.gh g, r.g0, same_upd2 r.bh, fun b h1 h2 => ?_, by rw [List.length_set]; exact r.len, fun i s q => ?_, fun i k d1 e1 b hik q1 q2 q3 q4 => ?_⟩
  · by_cases hb : b = a
    · rw [hb]; exact g
    · have h1 : upd B.keep a _ b ≠ none := h1
      rw [upd_ne hb] at h1; exact r.sep b h1 h2
  · by_cases hi : j = i
    · subst hi
      rw [List.getElem?_set_self hl] at q
      cases q
      rw [e2]
      exact ⟨a, od, kvs, rfl, upd_same, ob⟩
    · rw [List.getElem?_set_ne hi] at q
      have w := r.slot i s q
      cases s with
      | no => trivial
      | fz d => obtain ⟨v, e2, h⟩ := w.frz; rw [e2]; exact h
      | bo d => obtain ⟨v, e2, h⟩ := w.bor; rw [e2]; exact h
      | lk d' =>
        obtain ⟨b, ob', kvs', e3, k1, k2⟩ := w.lkd
        rw [e3]
        have hb : b ≠ a := fun z => by
          have := B.ll _ _ k1
          rw [z, n] at this
          cases this
        exact ⟨b, ob', kvs', rfl, by show upd B.lock a _ b = _; rw [upd_ne hb]; exact k1, k2⟩
      | ow d' =>
        obtain ⟨b, ob', e3, k1, k2, k3, k4⟩ := w.own
        rw [e3]
        have hb : b ≠ a := fun z => by
          subst z
          exact r.apart j i d d' b hi e q e2 e3
        exact ⟨by show upd B.keep a _ b = none; rw [upd_ne hb]; exact k1, k2, ob', by rw [upd_ne hb]; exact k3, k4⟩
  · have f : ∀ (m : Nat) (dm : D), (ρ.set j (.lk d))[m]? = some (Sl.ow dm) → ρ[m]? = some (Sl.ow dm) := fun m dm q => by
      by_cases hm : j = m
      · subst hm; rw [List.getElem?_set_self hl] at q; cases q
      · rw [List.getElem?_set_ne hm] at q; exact q
    exact r.apart i k _ _ b hik (f i d1 q1) (f k e1 q2) q3 q4
theorem R.unlocked {K : PySem.W.Frag} {B : Bs} {G0 G' : Hp} {ρ' : Ro} {σ' : St} {H' : Hp} {a : Addr} {od : PySem.Obj} {kvs : List (Key × V)} {n : B.keep a = none} (r : R K (B.locked a od kvs n) G0 G' ρ' σ' H') {j : Nat} {d : D} (hj : j < ρ'.length) (e2 : σ'[j]? = some (some (.ref a))) (ob : Obj K G' (.dK kvs) d) (g0 : G0 a = none) :
    R K B G0 G' (unlk j d ρ') σ' (upd H' a (.dK kvs)) ∧ H' a = some (.frz od (.dK kvs)) := by
  have kp : (B.locked a od kvs n).keep a = some (.frz od (.dK kvs)) := upd_same
  have ha : H' a = some (.frz od (.dK kvs)) := r.bh _ _ kp
  have g : G' a = none := r.sep a (by rw [kp]; simp) g0
  have kn : ∀ b, b ≠ a → (B.locked a od kvs n).keep b = B.keep b := fun b hb => upd_ne hb
  have hlen : (unlk j d ρ').length = ρ'.length := by unfold unlk; rw [List.length_set, List.length_map]
  have at_ : ∀ i, j ≠ i → (unlk j d ρ')[i]? = ρ'[i]?.map unLk := fun i h => by unfold unlk; rw [List.getElem?_set_ne h, List.getElem?_map]
  have at_j : (unlk j d ρ')[j]? = some (.ow d) := by unfold unlk; rw [List.getElem?_set_self (by rw [List.length_map]; exact hj)]
  have own : ∀ i e, j ≠ i → (unlk j d ρ')[i]? = some (Sl.ow e) → ρ'[i]? = some (.ow e) := fun i e h q => by
    rw [at_ i h] at q
    cases hq : ρ'[i]? with
    | none => rw [hq] at q; cases q
    | some s =>
      rw [hq] at q
      cases s <;> first | exact q | cases q
  refine ⟨⟨same_updR r.gh g, r.g0, fun b x h => ?_, fun b h1 h2 => ?_, by rw [hlen]; exact r.len, fun i s q => ?_, fun i k d1 e1 b hik q1 q2 q3 q4 => ?_⟩, ha⟩
  · have hb : b ≠ a := ne_of_none h n
    rw [upd_ne hb]
    exact r.bh b x (by rw [kn b hb]; exact h)
  · have hb : b ≠ a := fun z => h1 (z ▸ n)
    exact r.sep b (by rw [kn b hb]; exact h1) h2
  · by_cases hi : j = i
    · subst hi
      rw [at_j] at q
      cases q
      rw [e2]
      exact ⟨n, g, _, upd_same, ob⟩
    · rw [at_ i hi] at q
      cases hq : ρ'[i]? with
      | none => rw [hq] at q; cases q
      | some s' =>
        rw [hq] at q
        have w := r.slot i s' hq
        cases s' with
        | no => cases q; trivial
        | fz d => cases q; obtain ⟨v, e2, h⟩ := w.frz; rw [e2]; exact h
        | bo d => cases q; obtain ⟨v, e2, h⟩ := w.bor; rw [e2]; exact h
        | lk d => cases q; trivial
        | ow d' =>
          cases q
          obtain ⟨b, ob', e3, k1, k2, k3, k4⟩ := w.own
          rw [e3]
          have hb : b ≠ a := fun z => by rw [z, kp] at k1; cases k1
          exact ⟨by rw [← kn b hb]; exact k1, k2, ob', by rw [upd_ne hb]; exact k3, k4⟩
  · have f : ∀ m dm, j ≠ m → (unlk j d ρ')[m]? = some (Sl.ow dm) → σ'[m]? ≠ some (some (.ref a)) := fun m dm h q => r.keepNo kp m dm (own m dm h q)
    by_cases hi : j = i
    · subst hi
      rw [e2] at q3; cases q3
      exact f k e1 hik q2 q4
    · by_cases hk : j = k
      · subst hk
        rw [e2] at q4; cases q4
        exact f i d1 hi q1 q3
      · exact r.apart i k _ _ b hik (own i d1 hi q1) (own k e1 hk q2) q3 q4
variable {st : Stmt} {sts body : List Stmt} {ps : TSp} {ts us : List Nat} {pf : TFp} {pe : TEp}
/-- the statement runs while one's own dict (int or str keys) is locked -/
def pLk (j : Nat) (p : TSp) : TSp := fun D ρ => match ρ[j]? with
  | some (.ow (.dict ps)) => isK ps = true ∧ p ⟨fun ρ' => D.nx (unlk j (.dict ps) ρ'), fun o ρ' => D.rt o (unlk j (.dict ps) ρ'), fun ρ' => D.bk (unlk j (.dict ps) ρ'), fun ρ' => D.ct (unlk j (.dict ps) ρ')⟩ (ρ.set j (.lk (.dict ps)))
  | _ => False
theorem st_lock (j : Nat) (h : SS X st ts ps) (hj : j ∉ ts) : SS X st ts (pLk j ps) := by
  obtain ⟨t, et, rt⟩ := h.run
  refine ⟨_, ps_lock et, fun B G0 G ρ σ H D D' r k w => ?_⟩
  unfold pLk at w
  split at w
  · rename_i dps e
    obtain ⟨hK, w⟩ := w
    obtain ⟨a, o, e2, h1, h2, h3, h4⟩ := (r.slot j _ e).own
    rcases h4.dict with ⟨kvs, rfl, ok⟩ | ⟨kvs, qs, rfl, rfl, _⟩
    · refine ⟨a, _, h3, trivial, fun od => ?_⟩
      have rl := r.locked e e2 h3 h4 h1 h2 od
      have out : ∀ {G' ρ' σ' H'}, R X.K (B.locked a od kvs h1) G G' ρ' σ' H' → Out ts σ σ' → R X.K B G0 G' (unlk j (.dict dps) ρ') σ' (upd H' a (.dK kvs)) ∧ H' a = some (.frz od (.dK kvs)) := fun r' o' => by
        have hs : _ = _ := o'.2 j hj
        have hl : j < ρ.length := (List.getElem?_eq_some_iff.mp e).1
        obtain ⟨z1, z2⟩ := r'.unlocked (j := j) (d := .dict dps) (by rw [r'.len, o'.1, ← r.len]; exact hl) (by rw [hs]; exact e2) (h4.mono r'.g0) h2
        exact ⟨r.unbase z1, z2⟩
      refine rt _ G G _ σ _ _ _ rl.rebase ⟨fun G' ρ' σ' H' r' o' q => ?_, fun v ov G' ρ' σ' H' r' o' hv q => ?_, fun G' ρ' σ' H' r' o' q => ?_, fun G' ρ' σ' H' r' o' q => ?_⟩ w
      · obtain ⟨z1, z2⟩ := out r' o'; exact ⟨z2, k.nx _ _ _ _ z1 o' q⟩
      · obtain ⟨z1, z2⟩ := out r' o'; exact ⟨z2, k.rt v ov _ _ _ _ z1 o' hv q⟩
      · obtain ⟨z1, z2⟩ := out r' o'; exact ⟨z2, k.bk _ _ _ _ z1 o' q⟩
      · obtain ⟨z1, z2⟩ := out r' o'; exact ⟨z2, k.ct _ _ _ _ z1 o' q⟩
    · cases hK
  · exact w.elim
/-- for k in d, d locked -/
def iKeysL (j : Nat) : TIp' := fun ρ Q => match ρ[j]? with
  | some (.lk (.dict ps)) => Q (ps.map (·.1)) ρ
  | _ => False
theorem i_keysL (j : Nat) {tg : Expr} (hN : X.N[j]? = some x := by rfl) (hv : Vis X.env.scope x := by first | exact Or.inl rfl | exact Or.inr (Or.inl rfl) | exact Or.inr (Or.inr rfl)) (hd : (x == ("__debug__" : Str)) = false := by decide)
    (hcd : (x == ("__classdict__" : Str)) = false := by decide) : SI X tg (.Name x p) (iKeysL j) := by
  refine ⟨_, pi_keys (pe_var hN hv hd hcd), fun B G0 G ρ σ H Q Q' r q k => ?_⟩
  unfold iKeysL at q
  split at q
  · rename_i ps e
    obtain ⟨a, od, kvs, e2, h1, h2⟩ := (r.slot j _ e).lkd
    refine ⟨.ref a, e2, a, od, rfl, .inl ⟨kvs, r.bh _ _ (B.ll _ _ h1), k _ _ G ρ H r (Same.refl _) (fun i G1 H1 s1 s2 s3 => ?_) q⟩⟩
    have hd1 : H1 a = some (.frz od (.dK kvs)) := s3 _ _ (B.ll _ _ h1)
    have hk : ps.map (·.1) = kvs.map fun p => kD p.1 := h2.2.1
    rw [hk]
    refine ⟨fun d ed => ?_, fun ed => ?_⟩
    · rw [List.getElem?_map] at ed
      cases hi : kvs[i]? with
      | none => rw [hi] at ed; cases ed
      | some kv =>
        rw [hi] at ed
        have ed : kD kv.1 = d := by simpa using ed
        refine ⟨⟨hd1, (List.getElem?_eq_some_iff.mp hi).1⟩, fun x H2 y => ?_⟩
        obtain ⟨rfl, kk, v, ek, rfl⟩ := y
        rw [hi] at ek; cases ek
        refine ⟨G1, .refl, ?_⟩
        subst ed
        cases kk
        · exact .int _
        · exact .str _
    · rw [List.getElem?_map] at ed
      refine ⟨hd1, ?_⟩
      cases hi : kvs[i]? with
      | none => exact List.getElem?_eq_none_iff.mp hi
      | some kv => rw [hi] at ed; cases ed
  · exact q.elim
end
end PL
namespace PL
open PySem PySem.Spec PyProof.Rows L2
/-! ### rules for loops and comprehensions, as plain forms -/
def qLcB (g : TGp) (pt : TTp) (pe : TEp) (vs : List Nat) (ds : List D) (ρ1 : Ro) (Q : D → Ro → Prop) : Prop := ∃ I : Nat → List D → Ro → Prop, I 0 [] (wipeS ρ1 vs) ∧
  (∀ i d acc ρ2, ds[i]? = some d → I i acc ρ2 → g d ρ2 fun ρ3 => pt ρ3 fun k ρ4 => if k = true then pe ρ4 fun o ρ5 => esc o ρ5 fun y ρ6 => acc.length < sizeLine ∧ I (i + 1) (acc ++ [y]) (wipeS ρ6 vs) else I (i + 1) acc (wipeS ρ4 vs)) ∧
  ∀ acc ρ2, I ds.length acc ρ2 → Q (.list acc) (backS ρ1 vs ρ2)
theorem qLc_eq {pi : TIp'} {g : TGp} {pt : TTp} {pe : TEp} {vs : List Nat} {ρ : Ro} {Q : D → Ro → Prop} : qLc pi g pt pe vs ρ Q = pi ρ fun ds ρ1 => qLcB g pt pe vs ds ρ1 Q := rfl
def pForB (g : TGp) (p : TSp) (D : PEnds) (ds : List PyData) (ρ1 : Ro) : Prop := ∃ I : Nat → Ro → Prop, I 0 ρ1 ∧
  (∀ i d ρ2, ds[i]? = some d → I i ρ2 → g d ρ2 fun ρ3 => p { D with nx := I (i + 1), ct := I (i + 1), bk := D.nx } ρ3) ∧ ∀ ρ2, I ds.length ρ2 → D.nx ρ2
theorem pFor_eq {pi : TIp'} {g : TGp} {p : TSp} {D : PEnds} {ρ : Ro} : pFor pi g p D ρ = pi ρ fun ds ρ1 => pForB g p D ds ρ1 := rfl
theorem for_mk {g : TGp} {p : TSp} {D : PEnds} {ds : List PyData} {ρ1 : Ro} (I : Nat → Ro → Prop) (h0 : I 0 ρ1)
    (step : ∀ i d ρ2, ds[i]? = some d → I i ρ2 → ∀ r : Ro → Prop, (∀ ρ', I (i + 1) ρ' → r ρ') → g d ρ2 fun ρ3 => p { D with nx := r, ct := r, bk := D.nx } ρ3) (fin : ∀ ρ2, I ds.length ρ2 → D.nx ρ2) : pForB g p D ds ρ1 :=
  ⟨I, h0, fun i d ρ2 e h => step i d ρ2 e h (I (i + 1)) fun _ h => h, fin⟩
theorem wh_mk {pt : TTp} {p : TSp} {D : PEnds} {ρ : Ro} (W : Nat → Ro → Prop) (m0 : Nat) (h0 : W m0 ρ)
    (turn : ∀ m ρ, W m ρ → ∀ r : Ro → Prop, (∀ m' ρ', m' < m → W m' ρ' → r ρ') → pt ρ fun b ρ1 => if b = true then p { D with nx := r, ct := r, bk := D.nx } ρ1 else D.nx ρ1) : pWh pt p D ρ :=
  ⟨W, ⟨m0, h0⟩, fun m ρ h => turn m ρ h (fun ρ' => ∃ m', m' < m ∧ W m' ρ') fun m' ρ' h1 h2 => ⟨m', h1, h2⟩⟩
theorem cut {p q : TSp} {D : PEnds} {ρ : Ro} (M : Ro → Prop) (hp : ∀ r : Ro → Prop, (∀ ρ', M ρ' → r ρ') → p { D with nx := r } ρ) (hq : ∀ ρ', M ρ' → q D ρ') : pSeq p q D ρ := hp _ hq
/-- a comprehension without a test, whose items leave the slots as they are -/
theorem lc_mk {ds : List D} {g : TGp} {pe : TEp} {vs : List Nat} {ρ0 ρ1 : Ro} {Q : D → Ro → Prop} (f : Nat → D) (hl : ds.length ≤ sizeLine) (h0 : wipeS ρ1 vs = ρ0)
    (step : ∀ i d, ds[i]? = some d → ∀ K : D → Ro → Prop, K (f i) ρ0 → g d ρ0 fun ρ3 => pe ρ3 fun o ρ5 => esc o ρ5 fun y ρ6 => K y (wipeS ρ6 vs))
    (fin : Q (.list ((List.range ds.length).map f)) (backS ρ1 vs ρ0)) : qLcB g qYes pe vs ds ρ1 Q := by
  refine ⟨fun i acc ρ => ρ = ρ0 ∧ acc = (List.range i).map f, ⟨h0, rfl⟩, ?_, ?_⟩
  · rintro i d _ _ hd ⟨rfl, rfl⟩
    have hi : i < ds.length := (List.getElem?_eq_some_iff.mp hd).1
    exact step i d hd (fun y ρ6 => ((List.range i).map f).length < sizeLine ∧ ρ6 = _ ∧ (List.range i).map f ++ [y] = (List.range (i + 1)).map f) ⟨by rw [List.length_map, List.length_range]; omega, rfl, by rw [List.range_succ, List.map_append]; rfl⟩
  · rintro _ _ ⟨rfl, rfl⟩
    exact fin
/-- .. with a test -/
theorem lc_mkF {ds : List D} {g : TGp} {pt : TTp} {pe : TEp} {vs : List Nat} {ρ0 ρ1 : Ro} {Q : D → Ro → Prop} (t : Nat → Bool) (f : Nat → D) (hl : ds.length ≤ sizeLine) (h0 : wipeS ρ1 vs = ρ0)
    (step : ∀ i d, ds[i]? = some d → ∀ (K1 : D → Ro → Prop) (K2 : Ro → Prop), (t i = true → K1 (f i) ρ0) → (t i = false → K2 ρ0) → g d ρ0 fun ρ3 => pt ρ3 fun k ρ4 => if k = true then pe ρ4 fun o ρ5 => esc o ρ5 fun y ρ6 => K1 y (wipeS ρ6 vs) else K2 (wipeS ρ4 vs))
    (fin : Q (.list (((List.range ds.length).filter t).map f)) (backS ρ1 vs ρ0)) : qLcB g pt pe vs ds ρ1 Q := by
  refine ⟨fun i acc ρ => ρ = ρ0 ∧ acc = ((List.range i).filter t).map f, ⟨h0, rfl⟩, ?_, ?_⟩
  · rintro i d _ _ hd ⟨rfl, rfl⟩
    have hi : i < ds.length := (List.getElem?_eq_some_iff.mp hd).1
    refine step i d hd (fun y ρ6 => (((List.range i).filter t).map f).length < sizeLine ∧ ρ6 = _ ∧ ((List.range i).filter t).map f ++ [y] = ((List.range (i + 1)).filter t).map f) (fun ρ6 => ρ6 = _ ∧ ((List.range i).filter t).map f = ((List.range (i + 1)).filter t).map f) (fun ht => ⟨?_, rfl, ?_⟩) (fun ht => ⟨rfl, ?_⟩)
    · rw [List.length_map]
      have := List.length_filter_le t (List.range i)
      rw [List.length_range] at this
      omega
    · rw [List.range_succ, List.filter_append, List.map_append, List.filter_cons_of_pos ht]; rfl
    · rw [List.range_succ, List.filter_append, List.map_append, List.filter_cons_of_neg (by rw [ht]; exact Bool.false_ne_true)]
      simp
  · rintro _ _ ⟨rfl, rfl⟩
    exact fin
local macro_rules
  | `(tactic| array_get_dec) => `(tactic| try simp only [pSeq, pSo, pSf, pFor_eq, qLc_eq, pIf, pRet, pRetN, pEx, pAs, pPar, pNx, pBk, pCt, pSub, pSub2, pLk, qVar, live, qC, qBin, qBinF, qTst, qTru, truD, qNot, qNotV, qAnd, qOr, qAndV, qOrV, qIf, qNeg, int?, bl?, qCB, qCBF, qCons, qNil, qLst, qTup, qIsi, qFrz, qB, qChain, qMt, qCall, qCallF, qSlL, qRev, qP, qNoP, list?, qLR, qR1, qR2, iSeq, itr, seqD, iRange1, iRange2, iDown, gN, gTu, gCs, gNl, bNil, bE, bF, bM, fM, ownA, ownL, qYes, wipeS, backS, pk, esc, pkL, escL, argsD, muS, boS, disj, dropS, putS, outsD, endsF, endsO, initS, startS, slK, setKs,
    sAdd, sI0, sI, sMul, sDiv, sMod, sPow, sEq, sNe, sIx, sIs, sIsNot, sLen, sSum, sInt, sAbs, sAppend, sCatL, sRepL, isListD, isTupleD, isStrD, isBoolD, isIntD, isNone, Bool.or_false, Bool.or_true, Bool.true_or, Bool.false_or, Bool.or_self, Bool.false_and, Bool.and_false,  
    List.length_cons, List.length_nil, List.replicate, List.cons_append, List.nil_append, List.append_nil, List.set_cons_zero, List.set_cons_succ, List.set_nil, List.getElem?_cons_zero, List.getElem?_cons_succ, List.getElem?_nil, Nat.reduceAdd, Nat.reduceSub, Nat.reduceLT, Nat.zero_add, List.all_nil, List.all_cons, List.contains_nil, Bool.true_and, Bool.and_true, List.nodup_nil, List.nodup_cons, decide_true, true_and, and_true, reduceIte, Bool.false_eq_true, Bool.not_true, Bool.not_false, decide_eq_true_eq, if_true, if_false, List.map, ite_true, ite_false])
/-! ### the three defs that most laws share -/
abbrev ms__law_refill : List PM := [.fz, .fz]
abbrev ms__law_draw : List PM := [.mu, .fz, .fz]
abbrev ms__law_exact : List PM := [.fz, .fz]
def St01 (d : D) : Prop := ∃ k c : Int, 0 ≤ k ∧ 0 ≤ c ∧ d = .list [.int k, .int c]
def fs__law_refill : FS := fun ds Q => ∃ (ns : List Int) (k : Int), ds = [.list (ns.map .int), .int k] ∧ 0 ≤ k ∧ ∀ r : Int, 0 ≤ r → Q (.int r) []
def fs__law_draw : FS := fun ds Q => ∃ (st : D) (ns : List Int) (size : Int), ds = [st, .list (ns.map .int), .int size] ∧ St01 st ∧ 0 < size ∧ size.natAbs.log2 < 9000 ∧ ∀ digit st', 0 ≤ digit → digit < size → St01 st' → Q (.int digit) [st']
/-- plain data, n deep -/
def plD : Nat → D → Bool
  | 0, _ => false
  | _ + 1, .none => true
  | _ + 1, .bool _ => true
  | _ + 1, .int _ => true
  | n + 1, .list ds => decide (ds.length ≤ sizeLine) && ds.all (plD n)
  | n + 1, .tuple ds => decide (ds.length ≤ sizeLine) && ds.all (plD n)
  | _ + 1, _ => false
def fsx (n : Nat) : FS := fun ds Q => ∃ a, ds = [a, a] ∧ plD n a = true ∧ Q (.bool true) []
abbrev fs__law_exact : FS := fsx 6
/-- _law_refill: slots script 0 k 1 cell 2 -/
def p__law_refill : TSp := (pSeq (pSf 2 (qC (.int 0)))
    (pSeq (pIf (qTru (qVar 0)) (pSf 2 (qBin sIx (qVar 0) (qBin sMod (qVar 1) (qCB sLen (qCons (qVar 0) qNil))))) pNx)
    (pSeq (pIf (qTst (sI0 fun i j => .bool (decide (i < j))) (qVar 2) (qC (.int 0))) (pSf 2 (qBin (sI0 fun i j => .int (i - j)) (qC (.int 1)) (qBin sMul (qC (.int 2)) (qVar 2)))) pNx)
    (pSeq (pIf (qAnd (qTst (sI0 fun i j => .bool (decide (j ≤ i))) (qVar 2) (qBin sPow (qC (.int 10)) (qC (.int 18)))) (qTst (sI0 fun i j => .bool (decide (i < j))) (qVar 1) (qCB sLen (qCons (qVar 0) qNil)))) (pRet (qVar 2)) pNx)
    (pRet (qBin sMod (qCB sInt (qCons (qBin sAdd (qBin sMul (qCB sInt (qCons (qBin sAdd (qBin sAdd (qBin sMul (qVar 2) (qC (.int 48271))) (qBin sMul (qVar 1) (qC (.int 69621)))) (qC (.int 12345))) qNil)) (qC (.int 40692))) (qC (.int 7))) qNil)) (qC (.int 2147483399))))))))
/-- _law_draw: slots state 0 script 1 size 2 digit 3 -/
def p__law_draw : TSp := (pSeq (pIf (qTst sEq (qBin sIx (qVar 0) (qC (.int 1))) (qC (.int 0))) (pSeq (pSub 0 (qCall ms__law_refill fs__law_refill (qCons (qVar 1) (qCons (qBin sIx (qVar 0) (qC (.int 0))) qNil))) (qC (.int 1)))
    (pSub 0 (qBin sAdd (qBin sIx (qVar 0) (qC (.int 0))) (qC (.int 1))) (qC (.int 0)))) pNx)
    (pSeq (pSf 3 (qBin sMod (qCB sInt (qCons (qBin sIx (qVar 0) (qC (.int 1))) qNil)) (qVar 2)))
    (pSeq (pSub 0 (qBin sDiv (qBin sIx (qVar 0) (qC (.int 1))) (qVar 2)) (qC (.int 1)))
    (pRet (qVar 3)))))
/-- _law_exact: slots first 0 second 1 alike 2 k 3 -/
def p__law_exact (rec__law_exact : FS) : TSp := (pSeq (pIf (qTru (qIsi (fun d => isListD d || isTupleD d) (qVar 0))) (pSeq (pIf (qOr (qTst sNe (qIsi isListD (qVar 0)) (qIsi isListD (qVar 1))) (qTst sNe (qIsi isTupleD (qVar 0)) (qIsi isTupleD (qVar 1)))) (pRet (qC (.bool false))) pNx)
    (pRet (qAndV (qBin sEq (qCB sLen (qCons (qVar 0) qNil)) (qCB sLen (qCons (qVar 1) qNil))) (qCB sAll (qCons (qFrz (qLc (iRange1 (qCons (qCB sLen (qCons (qVar 0) qNil)) qNil)) (gN 3) qYes (qCall ms__law_exact rec__law_exact (qCons (qBin sIx (qVar 0) (qVar 3)) (qCons (qBin sIx (qVar 1) (qVar 3)) qNil))) [3])) qNil))))) pNx)
    (pSeq (pIf (qOr (qTst sIs (qVar 0) (qC .none)) (qTst sIs (qVar 1) (qC .none))) (pRet (qAndV (qBin sIs (qVar 0) (qC .none)) (qBin sIs (qVar 1) (qC .none)))) pNx)
    (pSeq (pSf 2 (qAndV (qBin sEq (qIsi isStrD (qVar 0)) (qIsi isStrD (qVar 1))) (qBin sEq (qIsi isBoolD (qVar 0)) (qIsi isBoolD (qVar 1)))))
    (pRet (qAndV (qVar 2) (qAndV (qBin sEq (qIsi isIntD (qVar 0)) (qIsi isIntD (qVar 1))) (qBin sEq (qVar 0) (qVar 1))))))))
theorem atI_nat {α : Type} {xs : List α} {i : Int} (h0 : 0 ≤ i) (h1 : i < xs.length) : L2.atI xs i = xs[i.toNat]? := by
  unfold L2.atI ixN
  rw [if_pos h0, if_pos h1]; rfl
theorem pmod_bd {i j : Int} (h : 0 < j) : 0 ≤ pmod i j ∧ pmod i j < j := by
  rw [pmod_pos h]
  exact ⟨Int.emod_nonneg _ (by omega), Int.emod_lt_of_pos _ h⟩
theorem c__law_refill : ∀ ds Q, fs__law_refill ds Q → p__law_refill (endsF ms__law_refill Q) (initS 3 ms__law_refill ds) := by
  rintro _ Q ⟨ns, k, rfl, hk, q⟩
  unfold p__law_refill
  refine cut (fun ρ => ρ = [.fz (.list (ns.map .int)), .fz (.int k), .fz (.int 0)]) (fun r h => ?_) ?_
  · array_get_dec
    exact h _ rfl
  rintro _ rfl
  refine cut (fun ρ => ∃ c : Int, ρ = [.fz (.list (ns.map .int)), .fz (.int k), .fz (.int c)]) (fun r h => ?_) ?_
  · array_get_dec
    split
    · have hl : 0 < ns.length := by
        cases ns with
        | nil => rename_i z; cases z
        | cons _ _ => exact Nat.succ_pos _
      rw [List.length_map]
      obtain ⟨b1, b2⟩ := pmod_bd (i := k) (j := (ns.length : Int)) (by omega)
      have hx : (pmod k (ns.length : Int)).toNat < ns.length := by omega
      refine ⟨by omega, .int ns[(pmod k (ns.length : Int)).toNat], ?_, h _ ⟨_, rfl⟩⟩
      rw [atI_nat b1 (by rw [List.length_map]; exact b2), List.getElem?_map, List.getElem?_eq_getElem hx]; rfl
    · exact h _ ⟨0, rfl⟩
  rintro _ ⟨c, rfl⟩
  refine cut (fun ρ => ∃ c : Int, 0 ≤ c ∧ ρ = [.fz (.list (ns.map .int)), .fz (.int k), .fz (.int c)]) (fun r h => ?_) ?_
  · array_get_dec
    split
    · exact ⟨.inl (.inl ⟨by decide, by decide⟩), h _ ⟨_, by omega, rfl⟩⟩
    · exact h _ ⟨c, by omega, rfl⟩
  rintro _ ⟨c, hc, rfl⟩
  refine cut (fun ρ => ρ = [.fz (.list (ns.map .int)), .fz (.int k), .fz (.int c)]) (fun r h => ?_) ?_
  · array_get_dec
    refine ⟨⟨by decide, by decide, by decide⟩, ?_⟩
    split
    · split
      · exact q _ hc
      · exact h _ rfl
    · exact h _ rfl
  rintro _ rfl
  array_get_dec
  exact ⟨.inl (.inr ⟨by decide, by decide⟩), .inl (.inr ⟨by decide, by decide⟩), .inl (.inr ⟨by decide, by decide⟩), by decide, q _ (pmod_bd (by decide)).1⟩
theorem c__law_draw : ∀ ds Q, fs__law_draw ds Q → p__law_draw (endsF ms__law_draw Q) (initS 4 ms__law_draw ds) := by
  rintro _ Q ⟨_, ns, size, rfl, ⟨k, c, hk, hc, rfl⟩, h0, h1, q⟩
  have at0 : ∀ a b : D, atI [a, b] 0 = some a := fun _ _ => rfl
  have at1 : ∀ a b : D, atI [a, b] 1 = some b := fun _ _ => rfl
  unfold p__law_draw
  refine cut (fun ρ => ∃ k c : Int, 0 ≤ k ∧ 0 ≤ c ∧ ρ = [.ow (.list [.int k, .int c]), .fz (.list (ns.map .int)), .fz (.int size), .no]) (fun r h => ?_) ?_
  · array_get_dec
    refine ⟨.int c, at1 _ _, ?_⟩
    array_get_dec
    split
    · refine ⟨.int k, at0 _ _, ns, k, rfl, hk, fun w hw => ?_⟩
      refine ⟨1, rfl, .int k, at0 _ _, ?_⟩
      array_get_dec
      exact ⟨0, rfl, h _ ⟨k + 1, w, by omega, hw, rfl⟩⟩
    · exact h _ ⟨k, c, hk, hc, rfl⟩
  rintro _ ⟨k, c, hk, hc, rfl⟩
  array_get_dec
  refine ⟨.int c, at1 _ _, ?_⟩
  array_get_dec
  refine ⟨by omega, .int c, at1 _ _, ?_⟩
  array_get_dec
  refine ⟨.inr ⟨h0, h1⟩, 1, rfl, ?_⟩
  obtain ⟨b1, b2⟩ := pmod_bd (i := c) h0
  exact q _ _ b1 b2 ⟨k, pdiv c size, hk, by rw [pdiv_pos h0]; exact Int.ediv_nonneg hc (by omega), rfl⟩
theorem all_const (n : Nat) : (List.range n).map (fun _ => PyData.bool true) = (List.replicate n true).map PyData.bool := by
  rw [List.map_replicate]
  apply List.ext_getElem
  · simp
  · intro i h1 h2; simp
theorem all_rep (n : Nat) : (List.replicate n true).all id = true := by
  rw [List.all_eq_true]; intro x hx; rw [(List.mem_replicate.mp hx).2]; rfl
theorem plD_mem {n : Nat} {ds : List D} (ha : ds.all (plD n) = true) {i : Nat} {x : D} (h : ds[i]? = some x) : plD n x = true := List.all_eq_true.mp ha x (List.mem_of_getElem? h)
theorem c__law_exact (n : Nat) : ∀ ds Q, fsx (n + 1) ds Q → p__law_exact (fsx n) (endsF ms__law_exact Q) (initS 4 ms__law_exact ds) := by
  rintro _ Q ⟨a, rfl, hp, q⟩
  have seq : ∀ ds : List D, ds.length ≤ sizeLine → ds.all (plD n) = true → ∀ dd : D, dd = .list ds ∨ dd = .tuple ds → 
      (pRet (qAndV (qBin sEq (qCB sLen (qCons (qVar 0) qNil)) (qCB sLen (qCons (qVar 1) qNil))) (qCB sAll (qCons (qFrz (qLc (iRange1 (qCons (qCB sLen (qCons (qVar 0) qNil)) qNil)) (gN 3) qYes (qCall ms__law_exact (fsx n) (qCons (qBin sIx (qVar 0) (qVar 3)) (qCons (qBin sIx (qVar 1) (qVar 3)) qNil))) [3])) qNil)))) (endsF ms__law_exact Q) [.fz dd, .fz dd, .no, .no] := by
    rintro ds hl ha dd hd
    have hs : (sizeLine : Nat) = 2 ^ 24 := rfl
    rcases hd with rfl | rfl
    all_goals
      array_get_dec
      refine ⟨by omega, by omega, lc_mk (ρ0 := [.fz _, .fz _, .no, .no]) (fun _ => .bool true) (by rw [rangeD_len]; omega) rfl (fun i d hd K hK => ?_) ?_⟩
      · obtain ⟨hi, rfl⟩ := rangeD_get hd
        rw [Int.sub_zero, Int.toNat_natCast] at hi
        have e : atI ds (0 + (i : Int)) = some ds[i] := by
          rw [atI_nat (by omega) (by omega), ← List.getElem?_eq_getElem hi]
          congr 1
          omega
        array_get_dec
        refine ⟨ds[i], e, ds[i], e, ds[i], rfl, plD_mem ha (List.getElem?_eq_getElem hi), ?_⟩
        array_get_dec
        exact hK
      · refine ⟨List.replicate _ true, all_const _, ?_⟩
        rw [all_rep]
        exact q
  have neB : ∀ b : Bool, PyData.eqv (.bool b) (.bool b) = true := fun b => by cases b <;> rfl
  have shB : ∀ b : Bool, shp (.bool b) = true := fun b => rfl
  have seq' : ∀ ds : List D, ds.length ≤ sizeLine → ds.all (plD n) = true → ∀ dd : D, dd = .list ds ∨ dd = .tuple ds → ∀ D : PEnds, D.rt = (endsF ms__law_exact Q).rt →
      (pRet (qAndV (qBin sEq (qCB sLen (qCons (qVar 0) qNil)) (qCB sLen (qCons (qVar 1) qNil))) (qCB sAll (qCons (qFrz (qLc (iRange1 (qCons (qCB sLen (qCons (qVar 0) qNil)) qNil)) (gN 3) qYes (qCall ms__law_exact (fsx n) (qCons (qBin sIx (qVar 0) (qVar 3)) (qCons (qBin sIx (qVar 1) (qVar 3)) qNil))) [3])) qNil)))) D [.fz dd, .fz dd, .no, .no] := fun ds h1 h2 dd h3 D hD => by
    have := seq ds h1 h2 dd h3
    unfold pRet at this ⊢
    rw [hD]; exact this
  have hA : ∀ ds : List D, (∀ x, .list ds = x ∨ .tuple ds = x → plD (n + 1) x = true → ds.length ≤ sizeLine ∧ ds.all (plD n) = true) := fun ds x hx hp => by
    rcases hx with rfl | rfl
    all_goals
      have hp : (decide (ds.length ≤ sizeLine) && ds.all (plD n)) = true := hp
      rw [Bool.and_eq_true, decide_eq_true_eq] at hp
      exact hp
  unfold p__law_exact
  cases a with
  | list ds =>
    have sq := seq' ds (hA ds _ (.inl rfl) hp).1 (hA ds _ (.inl rfl) hp).2 _ (.inl rfl)
    generalize pRet (qAndV (qBin sEq (qCB sLen (qCons (qVar 0) qNil)) (qCB sLen (qCons (qVar 1) qNil))) (qCB sAll (qCons (qFrz (qLc (iRange1 (qCons (qCB sLen (qCons (qVar 0) qNil)) qNil)) (gN 3) qYes (qCall ms__law_exact (fsx n) (qCons (qBin sIx (qVar 0) (qVar 3)) (qCons (qBin sIx (qVar 1) (qVar 3)) qNil))) [3])) qNil))) = body at sq ⊢
    refine cut (fun _ => False) (fun r _ => ?_) (fun _ h => h.elim)
    array_get_dec
    simp only [neB, shB, Bool.not_true, true_and, Bool.false_eq_true, if_false]
    exact sq _ rfl
  | tuple ds =>
    have sq := seq' ds (hA ds _ (.inr rfl) hp).1 (hA ds _ (.inr rfl) hp).2 _ (.inr rfl)
    generalize pRet (qAndV (qBin sEq (qCB sLen (qCons (qVar 0) qNil)) (qCB sLen (qCons (qVar 1) qNil))) (qCB sAll (qCons (qFrz (qLc (iRange1 (qCons (qCB sLen (qCons (qVar 0) qNil)) qNil)) (gN 3) qYes (qCall ms__law_exact (fsx n) (qCons (qBin sIx (qVar 0) (qVar 3)) (qCons (qBin sIx (qVar 1) (qVar 3)) qNil))) [3])) qNil))) = body at sq ⊢
    refine cut (fun _ => False) (fun r _ => ?_) (fun _ h => h.elim)
    array_get_dec
    simp only [neB, shB, Bool.not_true, true_and, Bool.false_eq_true, if_false]
    exact sq _ rfl
  | none =>
    array_get_dec
    exact q
  | bool b =>
    array_get_dec
    simp only [neB, shB, true_and, if_true]
    array_get_dec
    exact q
  | int b =>
    array_get_dec
    simp only [neB, shB, true_and, if_true]
    array_get_dec
    exact q
  | str b => exact absurd hp Bool.false_ne_true
  | dict b => exact absurd hp Bool.false_ne_true
theorem fsx_zero : ∀ ds Q, fsx 0 ds Q → False := fun ds Q ⟨_, _, h, _⟩ => Bool.false_ne_true h
theorem Fn.none {P : Program} {w : World} {K : PySem.W.Frag} {mg : Str → Option Value} {base : Heap} {x : Str} {ms : List PM} {f : Addr} {fd : FuncData} {ps : List Str} (k : Nat) (hk : PySem.W.keepIn K (.ref f) = true) (hb : Binds K fd ps []) (hm : mg x = some (.ref f)) : Fn P w K mg base k x ms false (fun _ _ => False) :=
  ⟨f, fd, ps, hm, hk, hb, ⟨fun vs H Q E ⟨_, _, _, _, _, _, h, _⟩ => h.elim, fun A outer s H args us vs Q E _ _ _ _ ⟨_, _, _, _, _, _, h, _⟩ => h.elim⟩⟩
end PL
namespace K74
open PySem PySem.Spec PyProof.Rows L2 PL
def topS (i : Nat) : Stmt := PySem.Challenge.pw_deepdigits_k74_whole_heights_of_choices.main.body.getD i (.Pass ⟨0, 0, 0, 0⟩)
local macro_rules
  | `(tactic| array_get_dec) => `(tactic| try simp only [pSeq, pSo, pSf, pFor_eq, qLc_eq, pIf, pRet, pRetN, pEx, pAs, pPar, pNx, pBk, pCt, pSub, pSub2, pLk, qVar, live, qC, qBin, qBinF, qTst, qTru, truD, qNot, qNotV, qAnd, qOr, qAndV, qOrV, qIf, qNeg, int?, bl?, qCB, qCBF, qCons, qNil, qLst, qTup, qIsi, qFrz, qB, qChain, qMt, qCall, qCallF, qSlL, qRev, qP, qNoP, list?, qLR, qR1, qR2, iSeq, itr, seqD, iRange1, iRange2, iDown, gN, gTu, gCs, gNl, bNil, bE, bF, bM, fM, ownA, ownL, qYes, wipeS, backS, pk, esc, pkL, escL, argsD, muS, boS, disj, dropS, putS, outsD, endsF, endsO, initS, startS, slK, setKs,
    sAdd, sI0, sI, sMul, sDiv, sMod, sPow, sEq, sNe, sIx, sIs, sIsNot, sLen, sSum, sInt, sAbs, sAppend, sCatL, sRepL, qGet2, dsel, unlk, unLk, List.map_cons, List.map_nil, sDget,  sMax, sSet, qDnew, qD1, iKeysL, sAll, sAny,  isListD, isTupleD, isStrD, isBoolD, isIntD, isNone, Bool.or_false, Bool.or_true, Bool.true_or, Bool.false_or, Bool.or_self, Bool.false_and, Bool.and_false,  
    List.length_cons, List.length_nil, List.replicate, List.cons_append, List.nil_append, List.append_nil, List.set_cons_zero, List.set_cons_succ, List.set_nil, List.getElem?_cons_zero, List.getElem?_cons_succ, List.getElem?_nil, Nat.reduceAdd, Nat.reduceSub, Nat.reduceLT, Nat.zero_add, List.all_nil, List.all_cons, List.contains_nil, Bool.true_and, Bool.and_true, List.nodup_nil, List.nodup_cons, List.not_mem_nil, not_false_eq_true, decide_true, true_and, and_true, reduceIte, Bool.false_eq_true, Bool.not_true, Bool.not_false, decide_eq_true_eq, if_true, if_false, List.map, ite_true, ite_false])
abbrev ms_figures : List PM := [.fz, .fz]
abbrev ms_figure_at : List PM := [.fz, .fz]
abbrev ms_carries_in : List PM := [.fz, .fz, .fz]
abbrev ms_choice_height : List PM := [.fz, .fz, .fz]
abbrev ms_small_choose : List PM := [.fz, .fz]
abbrev ms_choice_rest : List PM := [.fz, .fz, .fz]
abbrev ms_count_not_divided : List PM := [.fz, .fz]
abbrev ms_count_with_height : List PM := [.fz, .fz, .fz]
abbrev ms_put : List PM := [.mu, .fz, .fz]
abbrev ms_row_divisor : List PM := [.fz]
abbrev ms__law_prime : List PM := [.mu, .fz, .fz]
abbrev ms__law_height : List PM := [.fz, .fz]
abbrev ms__law_choices : List PM := [.fz]
abbrev ms_law : List PM := [.fz]
/-! ### plain forms -/
/-- digits from the lowest -/
def dg : Nat → Nat → Nat → List Nat
  | 0, _, _ => []
  | f + 1, p, n => if n = 0 then [] else n % p :: dg f p (n / p)
abbrev IL (l : List Nat) : D := .list (l.map fun n => .int (n : Nat))
def fs_figures : FS := fun ds Q => ∃ n p : Nat, ds = [.int n, .int p] ∧ 2 ≤ p ∧ p < 64 ∧ n < 2 ^ 60 ∧ Q (IL (dg 60 p n)) []
def fs_figure_at : FS := fun ds Q => ∃ (row : List Nat) (i : Nat), ds = [IL row, .int i] ∧ Q (.int (row.getD i 0 : Nat)) []
def cy (p a b c : Nat) : Nat := if p ≤ a % p + b % p + c then 1 else 0
/-- the carries of a sum -/
def carr : Nat → Nat → Nat → Nat → Nat → Nat
  | 0, _, _, _, _ => 0
  | f + 1, p, a, b, c => if a + b + c = 0 then 0 else cy p a b c + carr f p (a / p) (b / p) (cy p a b c)
def fs_carries_in : FS := fun ds Q => ∃ a b p : Nat, ds = [.int a, .int b, .int p] ∧ 2 ≤ p ∧ p < 64 ∧ a < 2 ^ 60 ∧ b < 2 ^ 60 ∧ Q (.int (carr 62 p a b 0 : Nat)) []
def fs_choice_height : FS := fun ds Q => ∃ n k p : Nat, ds = [.int n, .int k, .int p] ∧ k ≤ n ∧ 2 ≤ p ∧ p < 64 ∧ n < 2 ^ 60 ∧ Q (.int (carr 62 p k (n - k) 0 : Nat)) []
def scN (n : Nat) : Nat → Nat
  | 0 => 1
  | k + 1 => scN n k * (n - k) / (k + 1)
def fs_small_choose : FS := fun ds Q => ∃ (n : Nat) (k : Int), ds = [.int n, .int k] ∧ n < 2 ^ 29 ∧ Q (.int (if k < 0 ∨ (n : Int) < k then 0 else scN n k.toNat : Nat)) []
def scD (n k : Nat) : Nat := if n < k then 0 else scN n k
def crl (p : Nat) (f s : List Nat) : Nat → Nat
  | 0 => 1
  | i + 1 => crl p f s i * scD (f.getD i 0) (s.getD i 0) % p
def crest (n k p : Nat) : Nat := if (dg 60 p n).length < (dg 60 p k).length then 0 else crl p (dg 60 p n) (dg 60 p k) (dg 60 p n).length
def fs_choice_rest : FS := fun ds Q => ∃ n k p : Nat, ds = [.int n, .int k, .int p] ∧ 2 ≤ p ∧ p < 64 ∧ n < 2 ^ 60 ∧ k < 2 ^ 60 ∧ Q (.int (crest n k p : Nat)) []
def cnd (p n : Nat) : Nat := (dg 60 p n).foldl (fun t d => t * (d + 1)) 1
def fs_count_not_divided : FS := fun ds Q => ∃ n p : Nat, ds = [.int n, .int p] ∧ 2 ≤ p ∧ p < 64 ∧ n < 2 ^ 60 ∧ Q (.int (cnd p n : Nat)) []
abbrev KL := List (Nat × Nat)
def kv (t : KL) : List (D × D) := t.map fun q => (.int (q.1 : Nat), .int (q.2 : Nat))
abbrev DK (t : KL) : D := .dict (kv t)
def getN : KL → Nat → Nat
  | [], _ => 0
  | (a, v) :: r, k => if a = k then v else getN r k
def setN (t : KL) (k v : Nat) : KL := if t.any (fun q => decide (q.1 = k)) then t.map (fun q => if q.1 = k then (q.1, v) else q) else t ++ [(k, v)]
def putN (t : KL) (k v : Nat) : KL := if 0 < v then setN t k (getN t k + v) else t
def fs_put : FS := fun ds Q => ∃ (t : KL) (k v : Nat), ds = [DK t, .int k, .int v] ∧ t.length < 2 ^ 20 ∧ Q .none [DK (putN t k v)]
def cwA (p d : Nat) (free : KL) (m : KL × KL) (c : Nat) : KL × KL := (putN m.1 c (getN free c * (d + 1)), putN m.2 (c + 1) (getN free c * (p - 1 - d)))
def cwB (p d : Nat) (held : KL) (m : KL × KL) (c : Nat) : KL × KL := (putN m.1 c (getN held c * d), putN m.2 (c + 1) (getN held c * (p - d)))
def cwS (p : Nat) (m : KL × KL) (d : Nat) : KL × KL := (m.2.map (·.1)).foldl (cwB p d m.2) ((m.1.map (·.1)).foldl (cwA p d m.1) ([], []))
def cw (p n : Nat) : KL × KL := (dg 60 p n).foldl (cwS p) ([(0, 1)], [])
def fs_count_with_height : FS := fun ds Q => ∃ n p m : Nat, ds = [.int n, .int p, .int m] ∧ 2 ≤ p ∧ p < 64 ∧ n < 2 ^ 60 ∧ Q (.int (getN (cw p n).1 m : Nat)) []
def rd1 : Nat → Nat → Nat → Nat
  | 0, _, p => p
  | f + 1, n, p => if n % p = 0 then p else rd1 f n (p + 1)
def rd2 : Nat → Nat → Nat → Nat
  | 0, _, n => n
  | f + 1, p, n => if n % p = 0 then rd2 f p (n / p) else n
def rdv (n : Nat) : Nat := if rd2 n (rd1 n n 2) n = 1 then rd1 n n 2 else 1
def fs_row_divisor : FS := fun ds Q => ∃ n : Nat, ds = [.int n] ∧ 2 ≤ n ∧ n < 2 ^ 20 ∧ Q (.int (rdv n : Nat)) []
def fs__law_prime : FS := fun ds Q => ∃ (st : D) (ns : List Int), ds = [st, .list (ns.map .int), .int 6] ∧ St01 st ∧ ∀ (p : Nat) st', p ∈ [2, 3, 5, 7, 11, 13] → St01 st' → Q (.int p) [st']
def ht : Nat → Nat → Nat → Nat
  | 0, _, _ => 0
  | f + 1, p, x => if x % p = 0 then ht f p (x / p) + 1 else 0
def fs__law_height : FS := fun ds Q => ∃ x p : Nat, ds = [.int x, .int p] ∧ 1 ≤ x ∧ x < 2 ^ 90 ∧ 2 ≤ p ∧ p < 64 ∧ Q (.int (ht 90 p x : Nat)) []
def pas : Nat → List Nat
  | 0 => [1]
  | k + 1 => [1] ++ (List.range ((pas k).length - 1)).map (fun j => (pas k).getD j 0 + (pas k).getD (j + 1) 0) ++ [1]
def fs__law_choices : FS := fun ds Q => ∃ n : Nat, ds = [.int n] ∧ n < 2 ^ 20 ∧ Q (IL (pas n)) []
/-- figures: slots number 0 p 1 told 2 -/
def p_figures : TSp := (pSeq (pSo 2 (qLst qNil))
    (pSeq (pWh (qTst (sI0 fun i j => .bool (decide (j < i))) (qVar 0) (qC (.int 0))) (pSeq (pEx (qMt 2 sAppend (qCons (qBin sMod (qVar 0) (qVar 1)) qNil)))
    (pSf 0 (qBin sDiv (qVar 0) (qVar 1)))))
    (pRet (qVar 2))))
/-- figure_at: slots row 0 at 1 -/
def p_figure_at : TSp := (pRet (qIf (qTst (sI0 fun i j => .bool (decide (i < j))) (qVar 1) (qCB sLen (qCons (qVar 0) qNil))) (qBin sIx (qVar 0) (qVar 1)) (qC (.int 0))))
/-- carries_in: slots one 0 other 1 p 2 first 3 second 4 told 5 carry 6 at 7 -/
def p_carries_in : TSp := (pSeq (pPar [3, 4] (bE (qCall ms_figures fs_figures (qCons (qVar 0) (qCons (qVar 2) qNil))) (bE (qCall ms_figures fs_figures (qCons (qVar 1) (qCons (qVar 2) qNil))) bNil)))
    (pSeq (pSf 5 (qC (.int 0)))
    (pSeq (pSf 6 (qC (.int 0)))
    (pSeq (pFor (iRange1 (qCons (qBin sAdd (qCB sMax (qCons (qCB sLen (qCons (qVar 3) qNil)) (qCons (qCB sLen (qCons (qVar 4) qNil)) qNil))) (qC (.int 1))) qNil)) (gN 7) (pSeq (pSf 6 (qCB sInt (qCons (qBin (sI0 fun i j => .bool (decide (j ≤ i))) (qBin sAdd (qBin sAdd (qCall ms_figure_at fs_figure_at (qCons (qVar 3) (qCons (qVar 7) qNil))) (qCall ms_figure_at fs_figure_at (qCons (qVar 4) (qCons (qVar 7) qNil)))) (qVar 6)) (qVar 2)) qNil)))
    (pSf 5 (qBin sAdd (qVar 5) (qVar 6)))))
    (pRet (qVar 5))))))
/-- choice_height: slots n 0 k 1 p 2 -/
def p_choice_height : TSp := (pRet (qCall ms_carries_in fs_carries_in (qCons (qVar 1) (qCons (qBin (sI0 fun i j => .int (i - j)) (qVar 0) (qVar 1)) (qCons (qVar 2) qNil)))))
/-- small_choose: slots n 0 k 1 told 2 at 3 -/
def p_small_choose : TSp := (pSeq (pIf (qOr (qTst (sI0 fun i j => .bool (decide (i < j))) (qVar 1) (qC (.int 0))) (qTst (sI0 fun i j => .bool (decide (j < i))) (qVar 1) (qVar 0))) (pRet (qC (.int 0))) pNx)
    (pSeq (pSf 2 (qC (.int 1)))
    (pSeq (pFor (iRange1 (qCons (qVar 1) qNil)) (gN 3) (pSf 2 (qBin sDiv (qBin sMul (qVar 2) (qBin (sI0 fun i j => .int (i - j)) (qVar 0) (qVar 3))) (qBin sAdd (qVar 3) (qC (.int 1))))))
    (pRet (qVar 2)))))
/-- choice_rest: slots n 0 k 1 p 2 first 3 second 4 told 5 at 6 -/
def p_choice_rest : TSp := (pSeq (pPar [3, 4] (bE (qCall ms_figures fs_figures (qCons (qVar 0) (qCons (qVar 2) qNil))) (bE (qCall ms_figures fs_figures (qCons (qVar 1) (qCons (qVar 2) qNil))) bNil)))
    (pSeq (pIf (qTst (sI0 fun i j => .bool (decide (j < i))) (qCB sLen (qCons (qVar 4) qNil)) (qCB sLen (qCons (qVar 3) qNil))) (pRet (qC (.int 0))) pNx)
    (pSeq (pSf 5 (qC (.int 1)))
    (pSeq (pFor (iRange1 (qCons (qCB sLen (qCons (qVar 3) qNil)) qNil)) (gN 6) (pSf 5 (qBin sMod (qBin sMul (qVar 5) (qCall ms_small_choose fs_small_choose (qCons (qBin sIx (qVar 3) (qVar 6)) (qCons (qCall ms_figure_at fs_figure_at (qCons (qVar 4) (qCons (qVar 6) qNil))) qNil)))) (qVar 2))))
    (pRet (qVar 5))))))
/-- count_not_divided: slots n 0 p 1 told 2 digit 3 -/
def p_count_not_divided : TSp := (pSeq (pSf 2 (qC (.int 1)))
    (pSeq (pFor (iSeq (qCall ms_figures fs_figures (qCons (qVar 0) (qCons (qVar 1) qNil)))) (gN 3) (pSf 2 (qBin sMul (qVar 2) (qBin sAdd (qVar 3) (qC (.int 1))))))
    (pRet (qVar 2))))
/-- count_with_height: slots n 0 p 1 many 2 free 3 held 4 digit 5 more_free 6 more_held 7 cost 8 -/
def p_count_with_height : TSp := (pSeq (pPar [3, 4] (bF (qD1 0 (qC (.int 1))) (bF (qDnew (.dict [])) bNil)))
    (pSeq (pFor (iSeq (qCall ms_figures fs_figures (qCons (qVar 0) (qCons (qVar 1) qNil)))) (gN 5) (pSeq (pPar [6, 7] (bF (qDnew (.dict [])) (bF (qDnew (.dict [])) bNil)))
    (pSeq (pLk 3 (pFor (iKeysL 3) (gN 8) (pSeq (pEx (qCall ms_put fs_put (qCons (qVar 6) (qCons (qVar 8) (qCons (qBin sMul (qBin sDget (qVar 3) (qVar 8)) (qBin sAdd (qVar 5) (qC (.int 1)))) qNil)))))
    (pEx (qCall ms_put fs_put (qCons (qVar 7) (qCons (qBin sAdd (qVar 8) (qC (.int 1))) (qCons (qBin sMul (qBin sDget (qVar 3) (qVar 8)) (qBin (sI0 fun i j => .int (i - j)) (qBin (sI0 fun i j => .int (i - j)) (qVar 1) (qC (.int 1))) (qVar 5))) qNil))))))))
    (pSeq (pLk 4 (pFor (iKeysL 4) (gN 8) (pSeq (pEx (qCall ms_put fs_put (qCons (qVar 6) (qCons (qVar 8) (qCons (qBin sMul (qBin sDget (qVar 4) (qVar 8)) (qVar 5)) qNil)))))
    (pEx (qCall ms_put fs_put (qCons (qVar 7) (qCons (qBin sAdd (qVar 8) (qC (.int 1))) (qCons (qBin sMul (qBin sDget (qVar 4) (qVar 8)) (qBin (sI0 fun i j => .int (i - j)) (qVar 1) (qVar 5))) qNil))))))))
    (pPar [3, 4] (bM 6 (bM 7 bNil)))))))
    (pRet (qGet2 (qVar 3) (qVar 2) (qC (.int 0))))))
/-- put: slots table 0 key 1 number 2 -/
def p_put : TSp := (pIf (qTst (sI0 fun i j => .bool (decide (j < i))) (qVar 2) (qC (.int 0))) (pSub2 0 (qBin sAdd (qGet2 (qVar 0) (qVar 1) (qC (.int 0))) (qVar 2)) (qVar 1)) pNx)
/-- row_divisor: slots n 0 prime 1 -/
def p_row_divisor : TSp := (pSeq (pSf 1 (qC (.int 2)))
    (pSeq (pWh (qTst sNe (qBin sMod (qVar 0) (qVar 1)) (qC (.int 0))) (pSf 1 (qBin sAdd (qVar 1) (qC (.int 1)))))
    (pSeq (pWh (qTst sEq (qBin sMod (qVar 0) (qVar 1)) (qC (.int 0))) (pSf 0 (qBin sDiv (qVar 0) (qVar 1))))
    (pRet (qIf (qTst sEq (qVar 0) (qC (.int 1))) (qVar 1) (qC (.int 1)))))))
/-- _law_prime: slots state 0 script 1 many 2 -/
def p__law_prime : TSp := (pRet (qBin sIx (qFrz (qLst (qCons (qC (.int 2)) (qCons (qC (.int 3)) (qCons (qC (.int 5)) (qCons (qC (.int 7)) (qCons (qC (.int 11)) (qCons (qC (.int 13)) (qCons (qC (.int 17)) (qCons (qC (.int 19)) (qCons (qC (.int 23)) (qCons (qC (.int 29)) qNil)))))))))))) (qCall ms__law_draw fs__law_draw (qCons (qVar 0) (qCons (qVar 1) (qCons (qVar 2) qNil))))))
/-- _law_height: slots number 0 p 1 out 2 -/
def p__law_height : TSp := (pSeq (pSf 2 (qC (.int 0)))
    (pSeq (pWh (qTst sEq (qBin sMul (qBin sDiv (qVar 0) (qVar 1)) (qVar 1)) (qVar 0)) (pSeq (pSf 0 (qBin sDiv (qVar 0) (qVar 1)))
    (pSf 2 (qBin sAdd (qVar 2) (qC (.int 1))))))
    (pRet (qVar 2))))
/-- _law_choices: slots n 0 row 1 k 2 j 3 -/
def p__law_choices : TSp := (pSeq (pSo 1 (qLst (qCons (qC (.int 1)) qNil)))
    (pSeq (pFor (iRange1 (qCons (qVar 0) qNil)) (gN 2) (pSo 1 (qBinF sCatL (qFrz (qBinF sCatL (qFrz (qLst (qCons (qC (.int 1)) qNil))) (qFrz (qLc (iRange1 (qCons (qBin (sI0 fun i j => .int (i - j)) (qCB sLen (qCons (qVar 1) qNil)) (qC (.int 1))) qNil)) (gN 3) qYes (qBin sAdd (qBin sIx (qVar 1) (qVar 3)) (qBin sIx (qVar 1) (qBin sAdd (qVar 3) (qC (.int 1))))) [3])))) (qFrz (qLst (qCons (qC (.int 1)) qNil))))))
    (pRet (qVar 1))))
/-- law: slots script 0 state 1 k 2 p 3 n 4 row 5 one 6 heights 7 at 8 common 9 rest 10 great 11 product 12 digit 13 a 14 b 15 carry 16 carries 17 other 18 j 19 m 20 -/
def p_law : TSp := (pSeq (pSo 1 (qLst (qCons (qC (.int 0)) (qCons (qC (.int 0)) qNil))))
    (pSeq (pFor (iRange1 (qCons (qC (.int 3)) qNil)) (gN 2) (pSeq (pSf 3 (qCall ms__law_prime fs__law_prime (qCons (qVar 1) (qCons (qVar 0) (qCons (qC (.int 6)) qNil)))))
    (pSeq (pSf 4 (qCall ms__law_draw fs__law_draw (qCons (qVar 1) (qCons (qVar 0) (qCons (qC (.int 70)) qNil)))))
    (pSeq (pSf 5 (qCall ms__law_choices fs__law_choices (qCons (qVar 4) qNil)))
    (pSeq (pSo 7 (qLc (iSeq (qVar 5)) (gN 6) qYes (qCall ms__law_height fs__law_height (qCons (qVar 6) (qCons (qVar 3) qNil))) [6]))
    (pSeq (pIf (qNot (qTru (qCall ms__law_exact fs__law_exact (qCons (qVar 7) (qCons (qFrz (qLc (iRange1 (qCons (qBin sAdd (qVar 4) (qC (.int 1))) qNil)) (gN 19) qYes (qCall ms_choice_height fs_choice_height (qCons (qVar 4) (qCons (qVar 19) (qCons (qVar 3) qNil)))) [19])) qNil))))) (pRet (qC (.bool false))) pNx)
    (pSeq (pIf (qNot (qTru (qCall ms__law_exact fs__law_exact (qCons (qFrz (qBinF sCatL (qFrz (qLc (iSeq (qVar 5)) (gN 6) qYes (qBin sMod (qCB sInt (qCons (qVar 6) qNil)) (qVar 3)) [6])) (qFrz (qLst (qCons (qC (.int 0)) qNil))))) (qCons (qFrz (qBinF sCatL (qFrz (qLc (iRange1 (qCons (qBin sAdd (qVar 4) (qC (.int 1))) qNil)) (gN 19) qYes (qCall ms_choice_rest fs_choice_rest (qCons (qVar 4) (qCons (qVar 19) (qCons (qVar 3) qNil)))) [19])) (qFrz (qLst (qCons (qCall ms_choice_rest fs_choice_rest (qCons (qVar 4) (qCons (qBin sAdd (qBin sAdd (qVar 4) (qC (.int 1))) (qVar 2)) (qCons (qVar 3) qNil)))) qNil))))) qNil))))) (pRet (qC (.bool false))) pNx)
    (pSeq (pIf (qNot (qTru (qCall ms__law_exact fs__law_exact (qCons (qCB sLen (qCons (qFrz (qLc (iSeq (qVar 7)) (gN 6) (qTst sEq (qVar 6) (qC (.int 0))) (qVar 6) [6])) qNil)) (qCons (qCall ms_count_not_divided fs_count_not_divided (qCons (qVar 4) (qCons (qVar 3) qNil))) qNil))))) (pRet (qC (.bool false))) pNx)
    (pSeq (pIf (qNot (qTru (qCall ms__law_exact fs__law_exact (qCons (qFrz (qLc (iRange1 (qCons (qC (.int 8)) qNil)) (gN 20) qYes (qCB sLen (qCons (qFrz (qLc (iSeq (qVar 7)) (gN 6) (qTst sEq (qVar 6) (qVar 20)) (qVar 6) [6])) qNil)) [20])) (qCons (qFrz (qLc (iRange1 (qCons (qC (.int 8)) qNil)) (gN 20) qYes (qCall ms_count_with_height fs_count_with_height (qCons (qVar 4) (qCons (qVar 3) (qCons (qVar 20) qNil)))) [20])) qNil))))) (pRet (qC (.bool false))) pNx)
    (pSeq (pSf 8 (qCall ms__law_draw fs__law_draw (qCons (qVar 1) (qCons (qVar 0) (qCons (qBin sAdd (qVar 4) (qC (.int 1))) qNil)))))
    (pSeq (pIf (qNot (qTru (qCall ms__law_exact fs__law_exact (qCons (qFrz (qLst (qCons (qBin sIx (qVar 5) (qVar 8)) (qCons (qC (.int 0)) (qCons (qC (.int 0)) qNil))))) (qCons (qFrz (qLst (qCons (qCall ms_small_choose fs_small_choose (qCons (qVar 4) (qCons (qVar 8) qNil))) (qCons (qCall ms_small_choose fs_small_choose (qCons (qVar 4) (qCons (qNeg (qC (.int 1))) qNil))) (qCons (qCall ms_small_choose fs_small_choose (qCons (qVar 4) (qCons (qBin sAdd (qVar 4) (qC (.int 1))) qNil))) qNil))))) qNil))))) (pRet (qC (.bool false))) pNx)
    (pSeq (pIf (qTst (sI0 fun i j => .bool (decide (j < i))) (qVar 4) (qC (.int 1))) (pSeq (pSf 9 (qBin sIx (qVar 5) (qC (.int 1))))
    (pSeq (pFor (iSeq (qFrz (qSlL (qVar 5) (qP (qC (.int 1))) (qP (qVar 4))))) (gN 6) (pWh (qTst (sI0 fun i j => .bool (decide (j < i))) (qVar 6) (qC (.int 0))) (pSeq (pSf 10 (qBin sMod (qCB sInt (qCons (qVar 9) qNil)) (qVar 6)))
    (pSeq (pSf 9 (qVar 6))
    (pSf 6 (qVar 10))))))
    (pIf (qNot (qTru (qCall ms__law_exact fs__law_exact (qCons (qVar 9) (qCons (qCall ms_row_divisor fs_row_divisor (qCons (qVar 4) qNil)) qNil))))) (pRet (qC (.bool false))) pNx))) pNx)
    (pSeq (pSf 11 (qCall ms__law_draw fs__law_draw (qCons (qVar 1) (qCons (qVar 0) (qCons (qBin sPow (qC (.int 10)) (qC (.int 9))) qNil)))))
    (pSeq (pSf 12 (qC (.int 1)))
    (pSeq (pFor (iSeq (qCall ms_figures fs_figures (qCons (qVar 11) (qCons (qVar 3) qNil)))) (gN 13) (pSf 12 (qBin sMul (qVar 12) (qBin sAdd (qVar 13) (qC (.int 1))))))
    (pSeq (pIf (qOr (qNot (qTru (qCall ms__law_exact fs__law_exact (qCons (qVar 12) (qCons (qCall ms_count_not_divided fs_count_not_divided (qCons (qVar 11) (qCons (qVar 3) qNil))) qNil))))) (qTst sNe (qCB sSum (qCons (qFrz (qLc (iRange1 (qCons (qC (.int 40)) qNil)) (gN 20) qYes (qCall ms_count_with_height fs_count_with_height (qCons (qVar 11) (qCons (qVar 3) (qCons (qVar 20) qNil)))) [20])) qNil)) (qBin sAdd (qVar 11) (qC (.int 1))))) (pRet (qC (.bool false))) pNx)
    (pSeq (pPar [14, 15] (bE (qCall ms__law_draw fs__law_draw (qCons (qVar 1) (qCons (qVar 0) (qCons (qBin sPow (qC (.int 10)) (qC (.int 6))) qNil)))) (bE (qCall ms__law_draw fs__law_draw (qCons (qVar 1) (qCons (qVar 0) (qCons (qBin sPow (qC (.int 10)) (qC (.int 6))) qNil)))) bNil)))
    (pSeq (pPar [16, 17, 6, 18] (bE (qC (.int 0)) (bE (qC (.int 0)) (bE (qVar 14) (bE (qVar 15) bNil)))))
    (pSeq (pWh (qTst (sI0 fun i j => .bool (decide (j < i))) (qBin sAdd (qBin sAdd (qVar 6) (qVar 18)) (qVar 16)) (qC (.int 0))) (pSeq (pSf 16 (qCB sInt (qCons (qBin (sI0 fun i j => .bool (decide (j ≤ i))) (qBin sAdd (qBin sAdd (qBin sMod (qCB sInt (qCons (qVar 6) qNil)) (qVar 3)) (qBin sMod (qCB sInt (qCons (qVar 18) qNil)) (qVar 3))) (qVar 16)) (qVar 3)) qNil)))
    (pPar [17, 6, 18] (bE (qBin sAdd (qVar 17) (qVar 16)) (bE (qBin sDiv (qVar 6) (qVar 3)) (bE (qBin sDiv (qVar 18) (qVar 3)) bNil))))))
    (pIf (qNot (qTru (qCall ms__law_exact fs__law_exact (qCons (qFrz (qLst (qCons (qVar 17) (qCons (qVar 17) qNil)))) (qCons (qFrz (qLst (qCons (qCall ms_carries_in fs_carries_in (qCons (qVar 14) (qCons (qVar 15) (qCons (qVar 3) qNil)))) (qCons (qCall ms_choice_height fs_choice_height (qCons (qBin sAdd (qVar 14) (qVar 15)) (qCons (qVar 14) (qCons (qVar 3) qNil)))) qNil)))) qNil))))) (pRet (qC (.bool false))) pNx))))))))))))))))))))
    (pRet (qC (.bool true)))))
/-! ### contracts -/
theorem pmodN {n p : Nat} (h : 0 < p) : pmod (n : Int) (p : Int) = ((n % p : Nat) : Int) := by rw [pmod_pos (by omega)]; rfl
theorem pdivN {n p : Nat} (h : 0 < p) : pdiv (n : Int) (p : Int) = ((n / p : Nat) : Int) := by rw [pdiv_pos (by omega)]; rfl
theorem divOk {p : Nat} (h : 0 < p) (h' : p < 2 ^ 30) : DivOk (p : Int) := .inl ⟨by omega, by omega⟩
theorem mulR {i j : Int} (h : -(2 ^ 64) < j ∧ j < 2 ^ 64) : MulOk i j := .inl (.inr h)
theorem mulL {i j : Int} (h : -(2 ^ 64) < i ∧ i < 2 ^ 64) : MulOk i j := .inl (.inl h)
theorem dg_zero (f p : Nat) : dg f p 0 = [] := by cases f <;> rfl
theorem dg_succ {f p n : Nat} (h : n ≠ 0) : dg (f + 1) p n = n % p :: dg f p (n / p) := if_neg h
theorem dg_len : ∀ (f p n : Nat), (dg f p n).length ≤ f
  | 0, _, _ => Nat.le_refl _
  | f + 1, p, n => by
    unfold dg
    split
    · exact Nat.zero_le _
    · exact Nat.succ_le_succ (dg_len f p (n / p))
theorem half {n p : Nat} (hp : 2 ≤ p) : n / p ≤ n / 2 := Nat.div_le_div_left hp (by decide)
theorem c_figures : ∀ ds Q, fs_figures ds Q → p_figures (endsF ms_figures Q) (initS 3 ms_figures ds) := by
  rintro _ Q ⟨n, p, rfl, hp, hp', hn, q⟩
  have hs : (sizeLine : Nat) = 2 ^ 24 := rfl
  unfold p_figures
  array_get_dec
  refine ⟨by decide, ?_⟩
  refine wh_mk (fun m ρ => ∃ (n' : Nat) (acc : List Nat), m < 61 ∧ n' < 2 ^ m ∧ ρ = [.fz (.int n'), .fz (.int p), .ow (IL acc)] ∧ acc ++ dg m p n' = dg 60 p n) 60 ⟨n, [], by decide, hn, rfl, rfl⟩ ?_
  rintro m _ ⟨n', acc, hm, hn', rfl, e⟩ r hr
  array_get_dec
  by_cases h : n' = 0
  · subst h
    rw [if_neg (by decide)]
    rw [dg_zero, List.append_nil] at e
    rw [e]
    exact q
  · rw [if_pos (by omega)]
    have hl : acc.length ≤ 60 := by
      have := dg_len 60 p n
      rw [← e, List.length_append] at this
      omega
    cases m with
    | zero => omega
    | succ m =>
      have h2 := half (n := n') hp
      refine ⟨by omega, by rw [List.length_map]; omega, divOk (by omega) (by omega), hr m _ (by omega) ⟨n' / p, acc ++ [n' % p], by omega, by rw [Nat.pow_succ] at hn'; omega, ?_, ?_⟩⟩
      · rw [pdivN (by omega), pmodN (by omega)]
        show _ = [_, _, Sl.ow (.list _)]
        rw [List.map_append]; rfl
      · rw [List.append_assoc, ← e, dg_succ h]; rfl
abbrev I (n : Nat) : D := .int (n : Int)
theorem getD_of {α : Type} {l : List α} {i : Nat} {x : α} (d : α) (h : l[i]? = some x) : l.getD i d = x := by rw [List.getD_eq_getElem?_getD, h]; rfl
theorem IL_at {row : List Nat} {i : Nat} (h : i < row.length) : atI (row.map I) (i : Int) = some (I (row.getD i 0)) := by
  rw [atI_nat (by omega) (by rw [List.length_map]; omega), Int.toNat_natCast, List.getElem?_map, List.getElem?_eq_getElem h, getD_of 0 (List.getElem?_eq_getElem h)]; rfl
theorem c_figure_at : ∀ ds Q, fs_figure_at ds Q → p_figure_at (endsF ms_figure_at Q) (initS 2 ms_figure_at ds) := by
  rintro _ Q ⟨row, i, rfl, q⟩
  unfold p_figure_at
  array_get_dec
  rw [List.length_map]
  by_cases h : i < row.length
  · rw [if_pos (by omega)]
    exact ⟨_, IL_at h, q⟩
  · rw [if_neg (by omega)]
    rw [List.getD_eq_getElem?_getD, List.getElem?_eq_none (by omega)] at q
    exact q
theorem dg_get : ∀ (f p n i : Nat), 2 ≤ p → n < 2 ^ f → (dg f p n).getD i 0 = n / p ^ i % p
  | 0, p, n, i, hp, h => by
    have : n = 0 := by omega
    subst this
    simp [dg]
  | f + 1, p, n, i, hp, h => by
    by_cases h0 : n = 0
    · subst h0; rw [dg_zero]; simp
    · rw [dg_succ h0]
      cases i with
      | zero => simp
      | succ i =>
        have h2 := half (n := n) hp
        rw [Nat.pow_succ] at h
        have := dg_get f p (n / p) i hp (by omega)
        rw [Nat.div_div_eq_div_mul] at this
        simp only [List.getD_cons_succ]
        rw [this, Nat.pow_succ, Nat.mul_comm]
theorem dg_lt : ∀ (f p n : Nat), 2 ≤ p → n < 2 ^ f → n < p ^ (dg f p n).length
  | 0, p, n, hp, h => by
    have : n = 0 := by omega
    subst this
    exact Nat.one_pos
  | f + 1, p, n, hp, h => by
    by_cases h0 : n = 0
    · subst h0; rw [dg_zero]; exact Nat.one_pos
    · rw [dg_succ h0, List.length_cons, Nat.pow_succ]
      have h2 := half (n := n) hp
      rw [Nat.pow_succ] at h
      have := dg_lt f p (n / p) hp (by omega)
      exact (Nat.div_lt_iff_lt_mul (by omega)).mp this
theorem dg_mem : ∀ (f p n d : Nat), 0 < p → d ∈ dg f p n → d < p
  | 0, p, n, d, hp, h => by cases h
  | f + 1, p, n, d, hp, h => by
    unfold dg at h
    split at h
    · cases h
    · rcases List.mem_cons.mp h with rfl | h
      · exact Nat.mod_lt _ hp
      · exact dg_mem f p _ d hp h
theorem cy_le (p a b c : Nat) : cy p a b c ≤ 1 := by unfold cy; split <;> omega
/-- where nothing is left, the carries stop -/
theorem carr_end : ∀ (f p a b c : Nat), a = 0 → b = 0 → c ≤ 1 → 2 ≤ p → carr f p a b c = 0
  | 0, _, _, _, _, _, _, _, _ => rfl
  | f + 1, p, a, b, c, ha, hb, hc, hp => by
    subst ha hb
    unfold carr
    have e : cy p 0 0 c = 0 := by unfold cy; rw [if_neg (by rw [Nat.zero_mod]; omega)]
    rw [e, Nat.zero_div, carr_end f p 0 0 0 rfl rfl (by omega) hp]
    split <;> rfl
theorem carr_step {f p a b c : Nat} (hp : 2 ≤ p) : carr (f + 1) p a b c = cy p a b c + carr f p (a / p) (b / p) (cy p a b c) := by
  show (if _ then _ else _) = _
  split
  · rename_i h
    have ha : a = 0 := by omega
    have hb : b = 0 := by omega
    have hc : c = 0 := by omega
    subst ha hb hc
    have e : cy p 0 0 0 = 0 := by unfold cy; rw [if_neg (by rw [Nat.zero_mod]; omega)]
    rw [e, Nat.zero_div, carr_end f p 0 0 0 rfl rfl (by omega) hp]
  · rfl
/-- enough steps are enough -/
theorem carr_more : ∀ (g f p a b c : Nat), g + 1 ≤ f → 2 ≤ p → a < p ^ g → b < p ^ g → c ≤ 1 → carr f p a b c = carr (g + 1) p a b c
  | 0, f, p, a, b, c, hg, hp, ha, hb, hc => by
    cases f with
    | zero => omega
    | succ f =>
      rw [carr_step hp, carr_step hp]
      congr 1
      rw [Nat.pow_zero] at ha hb
      have ha : a = 0 := by omega
      have hb : b = 0 := by omega
      subst ha hb
      rw [Nat.zero_div, carr_end f p 0 0 _ rfl rfl (cy_le _ _ _ _) hp]
      rfl
  | g + 1, f, p, a, b, c, hg, hp, ha, hb, hc => by
    cases f with
    | zero => omega
    | succ f =>
      rw [carr_step hp, carr_step hp]
      congr 1
      rw [Nat.pow_succ] at ha hb
      have h1 : a / p < p ^ g := (Nat.div_lt_iff_lt_mul (by omega)).mpr ha
      have h2 : b / p < p ^ g := (Nat.div_lt_iff_lt_mul (by omega)).mpr hb
      exact carr_more g f p (a / p) (b / p) _ (by omega) hp h1 h2 (cy_le _ _ _ _)
theorem pow_mono {p a b : Nat} (hp : 2 ≤ p) (h : a ≤ b) : p ^ a ≤ p ^ b := Nat.pow_le_pow_right (by omega) h
theorem imaxN (x y : Nat) : imax (x : Int) (y : Int) = ((max x y : Nat) : Int) := by unfold imax; split <;> omega
theorem c_carries_in : ∀ ds Q, fs_carries_in ds Q → p_carries_in (endsF ms_carries_in Q) (initS 8 ms_carries_in ds) := by
  rintro _ Q ⟨a, b, p, rfl, hp, hp', ha, hb, q⟩
  unfold p_carries_in
  have la := dg_len 60 p a
  have lb := dg_len 60 p b
  have ta := dg_lt 60 p a hp (by omega)
  have tb := dg_lt 60 p b hp (by omega)
  array_get_dec
  refine ⟨a, p, rfl, hp, hp', ha, ?_⟩
  refine ⟨b, p, rfl, hp, hp', hb, ?_⟩
  array_get_dec
  rw [List.length_map, List.length_map, imaxN]
  have hm : max (dg 60 p a).length (dg 60 p b).length ≤ 60 := by omega
  generalize hM : max (dg 60 p a).length (dg 60 p b).length = M at hm
  have ta' : a < p ^ M := Nat.lt_of_lt_of_le ta (pow_mono hp (by omega))
  have tb' : b < p ^ M := Nat.lt_of_lt_of_le tb (pow_mono hp (by omega))
  refine ⟨by decide, by omega, by omega, ?_⟩
  refine for_mk (fun i ρ => ∃ (t c : Nat) (s : Sl), c ≤ 1 ∧ t + carr (M + 1 - i) p (a / p ^ i) (b / p ^ i) c = carr 62 p a b 0 ∧ ρ = [.fz (I a), .fz (I b), .fz (I p), .fz (IL (dg 60 p a)), .fz (IL (dg 60 p b)), .fz (I t), .fz (I c), s])
    ⟨0, 0, .no, by omega, ?_, rfl⟩ ?_ ?_
  · rw [carr_more M 62 p a b 0 (by omega) hp ta' tb' (by omega), Nat.zero_add, Nat.pow_zero, Nat.div_one, Nat.div_one]; rfl
  · rintro i d _ hd ⟨t, c, s, hc, e, rfl⟩ r hr
    obtain ⟨hi, rfl⟩ := rangeD_get hd
    array_get_dec
    refine ⟨dg 60 p a, i, by rw [Int.zero_add], ?_⟩
    refine ⟨dg 60 p b, i, by rw [Int.zero_add], ?_⟩
    array_get_dec
    rw [dg_get 60 p a i hp (by omega), dg_get 60 p b i hp (by omega)]
    have ec : (if (p : Int) ≤ ((a / p ^ i % p : Nat) : Int) + ((b / p ^ i % p : Nat) : Int) + (c : Int) then (1 : Int) else 0) = ((cy p (a / p ^ i) (b / p ^ i) c : Nat) : Int) := by
      unfold cy
      split
      · rw [if_pos (by omega)]; rfl
      · rw [if_neg (by omega)]; rfl
    rw [ec]
    refine hr _ ⟨t + cy p (a / p ^ i) (b / p ^ i) c, cy p (a / p ^ i) (b / p ^ i) c, _, cy_le _ _ _ _, ?_, rfl⟩
    have hk : M + 1 - i = (M + 1 - (i + 1)) + 1 := by omega
    rw [hk, carr_step hp, Nat.div_div_eq_div_mul, Nat.div_div_eq_div_mul, ← Nat.pow_succ] at e
    rw [← e, Nat.add_assoc]
  · rintro _ ⟨t, c, s, hc, e, rfl⟩
    array_get_dec
    rw [rangeD_len] at e
    have h0 : M + 1 - ((M : Int) + 1 - 0).toNat = 0 := by omega
    rw [h0] at e
    have e : t + 0 = _ := e
    rw [Nat.add_zero] at e
    rw [← e] at q
    exact q
theorem c_choice_height : ∀ ds Q, fs_choice_height ds Q → p_choice_height (endsF ms_choice_height Q) (initS 3 ms_choice_height ds) := by
  rintro _ Q ⟨n, k, p, rfl, hk, hp, hp', hn, q⟩
  unfold p_choice_height
  array_get_dec
  exact ⟨k, n - k, p, by rw [Int.ofNat_sub hk], hp, hp', by omega, by omega, q⟩
theorem c_small_choose : ∀ ds Q, fs_small_choose ds Q → p_small_choose (endsF ms_small_choose Q) (initS 4 ms_small_choose ds) := by
  rintro _ Q ⟨n, k, rfl, hn, q⟩
  unfold p_small_choose
  refine cut (fun ρ => 0 ≤ k ∧ k ≤ n ∧ ρ = [.fz (I n), .fz (.int k), .no, .no]) (fun r h => ?_) ?_
  · array_get_dec
    by_cases h1 : k < 0
    · rw [if_pos h1]
      rw [if_pos (.inl h1)] at q
      exact q
    · rw [if_neg h1]
      by_cases h2 : (n : Int) < k
      · rw [if_pos h2]
        rw [if_pos (.inr h2)] at q
        exact q
      · rw [if_neg h2]
        exact h _ ⟨by omega, by omega, rfl⟩
  rintro _ ⟨h0, h1, rfl⟩
  rw [if_neg (by omega)] at q
  obtain ⟨k, rfl⟩ := Int.eq_ofNat_of_zero_le h0
  array_get_dec
  refine ⟨by omega, by omega, ?_⟩
  refine for_mk (fun i ρ => ∃ s : Sl, ρ = [.fz (I n), .fz (I k), .fz (I (scN n i)), s]) ⟨.no, rfl⟩ ?_ ?_
  · rintro i d _ hd ⟨s, rfl⟩ r hr
    obtain ⟨hi, rfl⟩ := rangeD_get hd
    array_get_dec
    refine ⟨mulR ⟨by omega, by omega⟩, .inl ⟨by omega, by omega⟩, hr _ ⟨.fz (.int (0 + (i : Int))), ?_⟩⟩
    have e1 : ((n : Int) - (0 + (i : Int))) = ((n - i : Nat) : Int) := by omega
    have e2 : ((0 : Int) + (i : Int) + 1) = ((i + 1 : Nat) : Int) := by omega
    rw [e1, e2, ← Int.natCast_mul, pdivN (Nat.succ_pos i)]; rfl
  · rintro _ ⟨s, rfl⟩
    array_get_dec
    rw [rangeD_len]
    rw [Int.sub_zero]
    exact q
theorem crl_lt {p : Nat} {f s : List Nat} (hp : 2 ≤ p) (hp' : p < 64) : ∀ i, crl p f s i < 64
  | 0 => by show 1 < 64; decide
  | i + 1 => by
    have : crl p f s (i + 1) < p := Nat.mod_lt _ (by omega)
    omega
theorem c_choice_rest : ∀ ds Q, fs_choice_rest ds Q → p_choice_rest (endsF ms_choice_rest Q) (initS 7 ms_choice_rest ds) := by
  rintro _ Q ⟨n, k, p, rfl, hp, hp', hn, hk, q⟩
  have la := dg_len 60 p n
  have lb := dg_len 60 p k
  unfold p_choice_rest
  refine cut (fun ρ => ρ = [.fz (I n), .fz (I k), .fz (I p), .fz (IL (dg 60 p n)), .fz (IL (dg 60 p k)), .no, .no]) (fun r h => ?_) ?_
  · array_get_dec
    refine ⟨n, p, rfl, hp, hp', hn, ?_⟩
    refine ⟨k, p, rfl, hp, hp', hk, ?_⟩
    array_get_dec
    exact ⟨by decide, h _ rfl⟩
  rintro _ rfl
  refine cut (fun ρ => ¬ (dg 60 p n).length < (dg 60 p k).length ∧ ρ = [.fz (I n), .fz (I k), .fz (I p), .fz (IL (dg 60 p n)), .fz (IL (dg 60 p k)), .no, .no]) (fun r h => ?_) ?_
  · array_get_dec
    rw [List.length_map, List.length_map]
    unfold crest at q
    by_cases h1 : (dg 60 p n).length < (dg 60 p k).length
    · rw [if_pos (by omega)]
      rw [if_pos h1] at q
      exact q
    · rw [if_neg (by omega)]
      exact h _ ⟨h1, rfl⟩
  rintro _ ⟨h1, rfl⟩
  unfold crest at q
  rw [if_neg h1] at q
  array_get_dec
  rw [List.length_map]
  refine ⟨by omega, by omega, ?_⟩
  refine for_mk (fun i ρ => ∃ s : Sl, ρ = [.fz (I n), .fz (I k), .fz (I p), .fz (IL (dg 60 p n)), .fz (IL (dg 60 p k)), .fz (I (crl p (dg 60 p n) (dg 60 p k) i)), s]) ⟨.no, rfl⟩ ?_ ?_
  · rintro i d _ hd ⟨s, rfl⟩ r hr
    obtain ⟨hi, rfl⟩ := rangeD_get hd
    array_get_dec
    have hi' : i < (dg 60 p n).length := by omega
    rw [Int.zero_add]
    refine ⟨_, IL_at hi', dg 60 p k, i, rfl, ?_⟩
    have hd1 : (dg 60 p n).getD i 0 < p := by
      rw [dg_get 60 p n i hp (by omega)]
      exact Nat.mod_lt _ (by omega)
    refine ⟨(dg 60 p n).getD i 0, ((dg 60 p k).getD i 0 : Nat), rfl, by omega, ?_⟩
    array_get_dec
    have hc := crl_lt (f := dg 60 p n) (s := dg 60 p k) hp hp' i
    refine ⟨mulL ⟨by omega, by omega⟩, by omega, hr _ ⟨.fz (I i), ?_⟩⟩
    have e : (if ((dg 60 p k).getD i 0 : Int) < 0 ∨ ((dg 60 p n).getD i 0 : Int) < ((dg 60 p k).getD i 0 : Int) then 0 else scN ((dg 60 p n).getD i 0) ((dg 60 p k).getD i 0 : Int).toNat) = scD ((dg 60 p n).getD i 0) ((dg 60 p k).getD i 0) := by
      unfold scD
      split
      · rw [if_pos (by omega)]
      · rw [if_neg (by omega)]; rfl
    rw [e, ← Int.natCast_mul, pmodN (by omega)]; rfl
  · rintro _ ⟨s, rfl⟩
    array_get_dec
    rw [rangeD_len, Int.sub_zero]
    exact q
theorem c_count_not_divided : ∀ ds Q, fs_count_not_divided ds Q → p_count_not_divided (endsF ms_count_not_divided Q) (initS 4 ms_count_not_divided ds) := by
  rintro _ Q ⟨n, p, rfl, hp, hp', hn, q⟩
  unfold p_count_not_divided
  array_get_dec
  refine ⟨n, p, rfl, hp, hp', hn, ?_⟩
  array_get_dec
  refine for_mk (fun i ρ => ∃ s : Sl, ρ = [.fz (I n), .fz (I p), .fz (I (((dg 60 p n).take i).foldl (fun t d => t * (d + 1)) 1)), s]) ⟨.no, rfl⟩ ?_ ?_
  · rintro i d _ hd ⟨s, rfl⟩ r hr
    rw [List.getElem?_map] at hd
    obtain ⟨x, hx, rfl⟩ := Option.map_eq_some_iff.mp hd
    have hl := (List.getElem?_eq_some_iff.mp hx).1
    have hxp := dg_mem 60 p n x (by omega) (List.mem_of_getElem? hx)
    array_get_dec
    refine ⟨mulR ⟨by omega, by omega⟩, hr _ ⟨.fz (I x), ?_⟩⟩
    rw [List.take_succ, hx]
    show _ = [_, _, Sl.fz (I (List.foldl _ _ (_ ++ [x]))), _]
    rw [List.foldl_append]
    rfl
  · rintro _ ⟨s, rfl⟩
    array_get_dec
    rw [List.length_map, List.take_length]
    exact q
/-! ### the dicts -/
theorem kv_len (t : KL) : (kv t).length = t.length := List.length_map _
theorem kv_isK (t : KL) : isK (kv t) = true := by cases t <;> rfl
theorem eqvI (a b : Nat) : PyData.eqv (I a) (I b) = decide (a = b) := by
  show ((a : Int) == (b : Int)) = _
  rw [Bool.beq_eq_decide_eq]
  by_cases h : a = b
  · subst h; simp
  · rw [decide_eq_false h, decide_eq_false (by omega)]
theorem kv_get : ∀ (t : KL) (k : Nat), (k ∈ t.map (·.1) → dgetD (kv t) (I k) = some (I (getN t k))) ∧ (k ∉ t.map (·.1) → dgetD (kv t) (I k) = none ∧ getN t k = 0)
  | [], k => ⟨fun h => absurd h List.not_mem_nil, fun _ => ⟨rfl, rfl⟩⟩
  | (a, v) :: t, k => by
    have ih := kv_get t k
    have e1 : dgetD (kv ((a, v) :: t)) (I k) = if a = k then some (I v) else dgetD (kv t) (I k) := by
      show (if PyData.eqv (I a) (I k) = true then _ else _) = _
      rw [eqvI]
      by_cases h : a = k
      · rw [if_pos h, if_pos (decide_eq_true h)]
      · rw [if_neg h, if_neg (by rw [decide_eq_false h]; exact Bool.false_ne_true)]
        rfl
    have e2 : getN ((a, v) :: t) k = if a = k then v else getN t k := rfl
    rw [e1, e2]
    by_cases h : a = k
    · rw [if_pos h, if_pos h]
      exact ⟨fun _ => rfl, fun z => absurd (List.mem_cons.mpr (.inl h.symm)) z⟩
    · rw [if_neg h, if_neg h]
      refine ⟨fun z => ih.1 ?_, fun z => ih.2 fun y => z (List.mem_cons_of_mem _ y)⟩
      rcases List.mem_cons.mp z with z | z
      · exact absurd z.symm h
      · exact z
theorem kv_getD (t : KL) (k : Nat) : (dgetD (kv t) (I k)).getD (.int 0) = I (getN t k) := by
  by_cases h : k ∈ t.map (·.1)
  · rw [(kv_get t k).1 h]; rfl
  · rw [((kv_get t k).2 h).1, ((kv_get t k).2 h).2]; rfl
theorem kv_put (t : KL) (k v : Nat) : dputD (kv t) (I k) (I v) = kv (setN t k v) := by
  unfold dputD setN
  have e1 : (kv t).any (fun p => PyData.eqv p.1 (I k)) = t.any (fun q => decide (q.1 = k)) := by
    unfold kv
    rw [List.any_map]
    congr 1
    funext q
    exact eqvI q.1 k
  rw [e1]
  split
  · unfold kv
    rw [List.map_map, List.map_map]
    apply List.map_congr_left
    intro q _
    show (if PyData.eqv (I q.1) (I k) = true then _ else _) = _
    rw [eqvI]
    by_cases h : q.1 = k
    · rw [if_pos (decide_eq_true h)]
      show _ = (I (if q.1 = k then (q.1, v) else q).1, I (if q.1 = k then (q.1, v) else q).2)
      rw [if_pos h]
    · rw [if_neg (by rw [decide_eq_false h]; exact Bool.false_ne_true)]
      show _ = (I (if q.1 = k then (q.1, v) else q).1, I (if q.1 = k then (q.1, v) else q).2)
      rw [if_neg h]
  · unfold kv
    rw [List.map_append]; rfl
theorem c_put : ∀ ds Q, fs_put ds Q → p_put (endsF ms_put Q) (initS 3 ms_put ds) := by
  rintro _ Q ⟨t, k, v, rfl, hl, q⟩
  have hs : (sizeLine : Nat) = 2 ^ 24 := rfl
  unfold p_put
  array_get_dec
  unfold putN at q
  by_cases h : 0 < v
  · rw [if_pos (by omega)]
    rw [if_pos h] at q
    refine ⟨⟨_, rfl⟩, kv_isK t, ?_⟩
    rw [kv_getD]
    array_get_dec
    refine ⟨kv_isK t, by rw [kv_len]; omega, ?_⟩
    rw [← Int.natCast_add, kv_put]
    exact q
  · rw [if_neg (by omega)]
    rw [if_neg h] at q
    exact q
/-- distinct keys below b -/
def Good (b : Nat) (t : KL) : Prop := (t.map (·.1)).Nodup ∧ ∀ k ∈ t.map (·.1), k < b
theorem nodup_len : ∀ (b : Nat) (l : List Nat), l.Nodup → (∀ k ∈ l, k < b) → l.length ≤ b
  | 0, l, _, h2 => by
    cases l with
    | nil => exact Nat.le_refl _
    | cons a l => exact absurd (h2 a List.mem_cons_self) (by omega)
  | b + 1, l, h1, h2 => by
    have ih := nodup_len b (l.erase b) (h1.erase b) fun k hk => by
      have := (h1.mem_erase_iff).mp hk
      have h3 := h2 k this.2
      have h4 := this.1
      omega
    rw [List.length_erase] at ih
    split at ih <;> omega
theorem Good.len {b : Nat} {t : KL} (h : Good b t) : t.length ≤ b := by
  have := nodup_len b _ h.1 h.2
  rwa [List.length_map] at this
theorem setN_keys (t : KL) (k v : Nat) : (setN t k v).map (·.1) = if k ∈ t.map (·.1) then t.map (·.1) else t.map (·.1) ++ [k] := by
  unfold setN
  have e : (t.any (fun q => decide (q.1 = k)) = true) ↔ k ∈ t.map (·.1) := by
    rw [List.any_eq_true]
    constructor
    · rintro ⟨q, h1, h2⟩
      exact List.mem_map.mpr ⟨q, h1, of_decide_eq_true h2⟩
    · intro h
      obtain ⟨q, h1, h2⟩ := List.mem_map.mp h
      exact ⟨q, h1, decide_eq_true h2⟩
  by_cases h : k ∈ t.map (·.1)
  · rw [if_pos (e.mpr h), if_pos h, List.map_map]
    apply List.map_congr_left
    intro q _
    show (if q.1 = k then (q.1, v) else q).1 = q.1
    split <;> rfl
  · rw [if_neg (fun z => h (e.mp z)), if_neg h, List.map_append]; rfl
theorem Good.put {b : Nat} {t : KL} (h : Good b t) {k v : Nat} (hk : k < b) : Good b (putN t k v) := by
  unfold putN
  split
  · unfold Good
    rw [setN_keys]
    split
    · exact h
    · rename_i hn
      refine ⟨List.nodup_append.mpr ⟨h.1, by simp, fun a ha c hc => ?_⟩, fun a ha => ?_⟩
      · rw [List.mem_singleton.mp hc]; exact fun z => hn (z ▸ ha)
      · rcases List.mem_append.mp ha with ha | ha
        · exact h.2 a ha
        · rw [List.mem_singleton.mp ha]; exact hk
  · exact h
theorem Good.nil (b : Nat) : Good b [] := ⟨List.nodup_nil, fun _ h => by cases h⟩
theorem Good.mono {b c : Nat} {t : KL} (h : Good b t) (hb : b ≤ c) : Good c t := ⟨h.1, fun k hk => Nat.lt_of_lt_of_le (h.2 k hk) hb⟩
theorem kv_keys (t : KL) : (kv t).map (·.1) = (t.map (·.1)).map I := by unfold kv; rw [List.map_map, List.map_map]; rfl
theorem key_at {t : KL} {k : Nat} {d : D} (h : ((kv t).map (·.1))[k]? = some d) : ∃ c, (t.map (·.1))[k]? = some c ∧ d = I c ∧ c ∈ t.map (·.1) ∧ dgetD (kv t) (I c) = some (I (getN t c)) := by
  rw [kv_keys, List.getElem?_map] at h
  obtain ⟨c, hc, rfl⟩ := Option.map_eq_some_iff.mp h
  have hm := List.mem_of_getElem? hc
  exact ⟨c, hc, rfl, hm, (kv_get t c).1 hm⟩
theorem fold_take {α β : Type} {f : β → α → β} {b : β} {l : List α} {k : Nat} {c : α} (h : l[k]? = some c) : (l.take (k + 1)).foldl f b = f ((l.take k).foldl f b) c := by
  rw [List.take_succ, h]
  show List.foldl f b (l.take k ++ [c]) = _
  rw [List.foldl_append]; rfl
theorem c_count_with_height : ∀ ds Q, fs_count_with_height ds Q → p_count_with_height (endsF ms_count_with_height Q) (initS 9 ms_count_with_height ds) := by
  rintro _ Q ⟨n, p, m, rfl, hp, hp', hn, q⟩
  have hs : (sizeLine : Nat) = 2 ^ 24 := rfl
  have hdl := dg_len 60 p n
  unfold p_count_with_height
  refine cut (fun ρ => ρ = [.fz (I n), .fz (I p), .fz (I m), .ow (DK [(0, 1)]), .ow (DK []), .no, .no, .no, .no]) (fun r h => ?_) ?_
  · array_get_dec
    exact ⟨by decide, h _ rfl⟩
  rintro _ rfl
  refine cut (fun ρ => ∃ he s5 s6 s7 s8, ρ = [.fz (I n), .fz (I p), .fz (I m), .ow (DK (cw p n).1), he, s5, s6, s7, s8]) (fun r h => ?_) ?_
  · array_get_dec
    refine ⟨n, p, rfl, hp, hp', hn, ?_⟩
    array_get_dec
    refine for_mk (fun i ρ => ∃ (fr he : KL) (s5 s6 s7 s8 : Sl), Good (i + 1) fr ∧ Good (i + 1) he ∧ (fr, he) = ((dg 60 p n).take i).foldl (cwS p) ([(0, 1)], []) ∧ ρ = [.fz (I n), .fz (I p), .fz (I m), .ow (DK fr), .ow (DK he), s5, s6, s7, s8])
      ⟨[(0, 1)], [], .no, .no, .no, .no, ⟨by decide, by decide⟩, .nil _, rfl, rfl⟩ ?_ ?_
    · rintro i d _ hd ⟨fr, he, s5, s6, s7, s8, g1, g2, ef, rfl⟩ r hr
      rw [List.getElem?_map] at hd
      obtain ⟨x, hx, rfl⟩ := Option.map_eq_some_iff.mp hd
      have hl := (List.getElem?_eq_some_iff.mp hx).1
      have hxp := dg_mem 60 p n x (by omega) (List.mem_of_getElem? hx)
      have lf := g1.len
      have lh := g2.len
      simp only [gN, List.length_cons, List.length_nil, Nat.reduceAdd, Nat.reduceLT, true_and, List.set_cons_succ, List.set_cons_zero]
      refine cut (fun ρ => ρ = [.fz (I n), .fz (I p), .fz (I m), .ow (DK fr), .ow (DK he), .fz (I x), .ow (DK []), .ow (DK []), s8]) (fun r h => ?_) ?_
      · array_get_dec
        exact ⟨by decide, h _ rfl⟩
      rintro _ rfl
      generalize ea : (fr.map (·.1)).foldl (cwA p x fr) ([], []) = A
      refine cut (fun ρ => ∃ s8, Good (i + 1) A.1 ∧ Good (i + 2) A.2 ∧ ρ = [.fz (I n), .fz (I p), .fz (I m), .ow (DK fr), .ow (DK he), .fz (I x), .ow (DK A.1), .ow (DK A.2), s8]) (fun r h => ?_) ?_
      · array_get_dec
        refine ⟨kv_isK fr, ?_⟩
        refine for_mk (fun k ρ => ∃ (a b : KL) (s8 : Sl), Good (i + 1) a ∧ Good (i + 2) b ∧ (a, b) = ((fr.map (·.1)).take k).foldl (cwA p x fr) ([], []) ∧ ρ = [.fz (I n), .fz (I p), .fz (I m), .lk (DK fr), .ow (DK he), .fz (I x), .ow (DK a), .ow (DK b), s8])
          ⟨[], [], s8, .nil _, .nil _, rfl, rfl⟩ ?_ ?_
        · rintro k d _ hd ⟨a, b, s8, ga, gb, eab, rfl⟩ r hr
          obtain ⟨c, hc, rfl, hm, eg⟩ := key_at hd
          have hcb := g1.2 c hm
          have la := ga.len
          have lb := gb.len
          array_get_dec
          refine ⟨kv_isK fr, _, eg, ?_⟩
          array_get_dec
          refine ⟨mulR ⟨by omega, by omega⟩, a, c, getN fr c * (x + 1), by rw [Int.natCast_mul]; rfl, by omega, ?_⟩
          array_get_dec
          refine ⟨kv_isK fr, _, eg, ?_⟩
          array_get_dec
          have e1 : ((p : Int) - 1 - (x : Int)) = ((p - 1 - x : Nat) : Int) := by omega
          rw [e1]
          refine ⟨mulR ⟨by omega, by omega⟩, b, c + 1, getN fr c * (p - 1 - x), by rw [Int.natCast_mul]; rfl, by omega, ?_⟩
          array_get_dec
          refine hr _ ⟨_, _, .fz (I c), ga.put hcb, gb.put (by omega), ?_, rfl⟩
          rw [fold_take hc, ← eab]
          rfl
        · rintro _ ⟨a, b, s8, ga, gb, eab, rfl⟩
          array_get_dec
          rw [List.length_map, kv_len, List.take_of_length_le (by rw [List.length_map]; omega), ea] at eab
          subst eab
          exact h _ ⟨_, ga, gb, rfl⟩
      rintro _ ⟨s8, gA, gB, rfl⟩
      generalize eb : (he.map (·.1)).foldl (cwB p x he) A = C
      refine cut (fun ρ => ∃ s8, Good (i + 2) C.1 ∧ Good (i + 2) C.2 ∧ ρ = [.fz (I n), .fz (I p), .fz (I m), .ow (DK fr), .ow (DK he), .fz (I x), .ow (DK C.1), .ow (DK C.2), s8]) (fun r h => ?_) ?_
      · array_get_dec
        refine ⟨kv_isK he, ?_⟩
        refine for_mk (fun k ρ => ∃ (a b : KL) (s8 : Sl), Good (i + 2) a ∧ Good (i + 2) b ∧ (a, b) = ((he.map (·.1)).take k).foldl (cwB p x he) A ∧ ρ = [.fz (I n), .fz (I p), .fz (I m), .ow (DK fr), .lk (DK he), .fz (I x), .ow (DK a), .ow (DK b), s8])
          ⟨A.1, A.2, s8, gA.mono (by omega), gB, rfl, rfl⟩ ?_ ?_
        · rintro k d _ hd ⟨a, b, s8, ga, gb, eab, rfl⟩ r hr
          obtain ⟨c, hc, rfl, hm, eg⟩ := key_at hd
          have hcb := g2.2 c hm
          have la := ga.len
          have lb := gb.len
          array_get_dec
          refine ⟨kv_isK he, _, eg, ?_⟩
          array_get_dec
          refine ⟨mulR ⟨by omega, by omega⟩, a, c, getN he c * x, by rw [Int.natCast_mul], by omega, ?_⟩
          array_get_dec
          refine ⟨kv_isK he, _, eg, ?_⟩
          array_get_dec
          have e1 : ((p : Int) - (x : Int)) = ((p - x : Nat) : Int) := by omega
          rw [e1]
          refine ⟨mulR ⟨by omega, by omega⟩, b, c + 1, getN he c * (p - x), by rw [Int.natCast_mul]; rfl, by omega, ?_⟩
          array_get_dec
          refine hr _ ⟨_, _, .fz (I c), ga.put (by omega), gb.put (by omega), ?_, rfl⟩
          rw [fold_take hc, ← eab]
          rfl
        · rintro _ ⟨a, b, s8, ga, gb, eab, rfl⟩
          array_get_dec
          rw [List.length_map, kv_len, List.take_of_length_le (by rw [List.length_map]; omega), eb] at eab
          subst eab
          exact h _ ⟨_, ga, gb, rfl⟩
      rintro _ ⟨s8, gC, gD, rfl⟩
      array_get_dec
      refine ⟨by decide, hr _ ⟨C.1, C.2, .fz (I x), .no, .no, s8, gC, gD, ?_, rfl⟩⟩
      rw [fold_take hx, ← ef, ← eb, ← ea]
      rfl
    · rintro _ ⟨fr, he, s5, s6, s7, s8, g1, g2, ef, rfl⟩
      rw [List.length_map, List.take_length] at ef
      refine h _ ⟨.ow (DK he), s5, s6, s7, s8, ?_⟩
      unfold cw
      rw [← ef]
  rintro _ ⟨he, s5, s6, s7, s8, rfl⟩
  array_get_dec
  refine ⟨⟨_, rfl⟩, kv_isK _, ?_⟩
  rw [kv_getD]
  exact q
theorem rd1_spec {n p : Nat} (h : n % p ≠ 0) {f : Nat} : rd1 (f + 1) n p = rd1 f n (p + 1) := if_neg h
theorem rd2_more : ∀ (f g p n : Nat), 2 ≤ p → 1 ≤ n → n ≤ f → n ≤ g → rd2 f p n = rd2 g p n
  | 0, g, p, n, _, h1, h2, _ => by omega
  | f + 1, 0, p, n, _, h1, _, h2 => by omega
  | f + 1, g + 1, p, n, hp, h1, h2, h3 => by
    unfold rd2
    split
    · rename_i h
      have h4 := half (n := n) hp
      have h5 : 1 ≤ n / p := Nat.div_pos (Nat.le_of_dvd (by omega) (Nat.dvd_of_mod_eq_zero h)) (by omega)
      exact rd2_more f g p (n / p) hp h5 (by omega) (by omega)
    · rfl
theorem c_row_divisor : ∀ ds Q, fs_row_divisor ds Q → p_row_divisor (endsF ms_row_divisor Q) (initS 2 ms_row_divisor ds) := by
  rintro _ Q ⟨n, rfl, hn, hn', q⟩
  unfold p_row_divisor
  refine cut (fun ρ => ρ = [.fz (I n), .fz (I 2)]) (fun r h => ?_) ?_
  · array_get_dec
    exact h _ rfl
  rintro _ rfl
  refine cut (fun ρ => 2 ≤ rd1 n n 2 ∧ rd1 n n 2 ≤ n ∧ n % rd1 n n 2 = 0 ∧ ρ = [.fz (I n), .fz (I (rd1 n n 2))]) (fun r h => ?_) ?_
  · refine wh_mk (fun m ρ => ∃ p, 2 ≤ p ∧ p ≤ n ∧ m = n - p ∧ rd1 (n + 2 - p) n p = rd1 n n 2 ∧ ρ = [.fz (I n), .fz (I p)]) (n - 2) ⟨2, by omega, hn, rfl, by rw [Nat.add_sub_cancel], rfl⟩ ?_
    rintro m _ ⟨p, h2, hpn, rfl, e, rfl⟩ r' hr
    array_get_dec
    refine ⟨by omega, ?_⟩
    rw [pmodN (by omega)]
    have hf : n + 2 - p = (n + 1 - p) + 1 := by omega
    by_cases h0 : n % p = 0
    · rw [if_neg (by simp [h0])]
      have : rd1 n n 2 = p := by rw [← e, hf]; exact if_pos h0
      exact h _ ⟨by omega, by omega, by rw [this]; exact h0, by rw [this]⟩
    · rw [if_pos (by simp; omega)]
      have hne : p ≠ n := fun z => h0 (by rw [z, Nat.mod_self])
      refine hr (n - (p + 1)) _ (by omega) ⟨p + 1, by omega, by omega, rfl, ?_, rfl⟩
      rw [← e, hf, rd1_spec h0]
      congr 1
      omega
  rintro _ ⟨h2, hpn, hd, rfl⟩
  unfold rdv at q
  generalize rd1 n n 2 = p at *
  refine cut (fun ρ => ρ = [.fz (I (rd2 n p n)), .fz (I p)]) (fun r h => ?_) ?_
  · refine wh_mk (fun m ρ => ∃ x, 1 ≤ x ∧ x ≤ n ∧ m = x ∧ rd2 x p x = rd2 n p n ∧ ρ = [.fz (I x), .fz (I p)]) n ⟨n, by omega, by omega, rfl, rfl, rfl⟩ ?_
    rintro x _ ⟨_, h1, hx, rfl, e, rfl⟩ r' hr
    array_get_dec
    refine ⟨by omega, ?_⟩
    rw [pmodN (by omega)]
    cases x with
    | zero => omega
    | succ x =>
      by_cases h0 : (x + 1) % p = 0
      · rw [if_pos (by rw [h0]; rfl)]
        have h4 := half (n := x + 1) h2
        have h5 : 1 ≤ (x + 1) / p := Nat.div_pos (Nat.le_of_dvd (by omega) (Nat.dvd_of_mod_eq_zero h0)) (by omega)
        refine ⟨divOk (by omega) (by omega), hr ((x + 1) / p) _ (by omega) ⟨(x + 1) / p, h5, by omega, rfl, ?_, ?_⟩⟩
        · rw [← e, rd2_more _ x p _ h2 h5 (Nat.le_refl _) (by omega)]
          exact (if_pos h0).symm
        · rw [pdivN (by omega)]
      · rw [if_neg (by omega)]
        have : rd2 (x + 1) p (x + 1) = x + 1 := if_neg h0
        rw [this] at e
        rw [e]
        exact h _ rfl
  rintro _ rfl
  array_get_dec
  by_cases h1 : rd2 n p n = 1
  · rw [if_pos (by omega)]
    rw [if_pos h1] at q
    exact q
  · rw [if_neg (by omega)]
    rw [if_neg h1] at q
    exact q
theorem c__law_prime : ∀ ds Q, fs__law_prime ds Q → p__law_prime (endsF ms__law_prime Q) (initS 3 ms__law_prime ds) := by
  rintro _ Q ⟨st, ns, rfl, hst, q⟩
  unfold p__law_prime
  array_get_dec
  refine ⟨by decide, st, ns, 6, rfl, hst, by decide, by decide, fun digit st' h0 h1 hst' => ?_⟩
  array_get_dec
  have hc : digit = 0 ∨ digit = 1 ∨ digit = 2 ∨ digit = 3 ∨ digit = 4 ∨ digit = 5 := by omega
  rcases hc with rfl | rfl | rfl | rfl | rfl | rfl
  · exact ⟨_, rfl, q 2 st' (by decide) hst'⟩
  · exact ⟨_, rfl, q 3 st' (by decide) hst'⟩
  · exact ⟨_, rfl, q 5 st' (by decide) hst'⟩
  · exact ⟨_, rfl, q 7 st' (by decide) hst'⟩
  · exact ⟨_, rfl, q 11 st' (by decide) hst'⟩
  · exact ⟨_, rfl, q 13 st' (by decide) hst'⟩
theorem mul_eq_mod {x p : Nat} (hp : 0 < p) : x / p * p = x ↔ x % p = 0 := by
  have h := Nat.div_add_mod x p
  rw [Nat.mul_comm] at h
  omega
theorem c__law_height : ∀ ds Q, fs__law_height ds Q → p__law_height (endsF ms__law_height Q) (initS 3 ms__law_height ds) := by
  rintro _ Q ⟨x, p, rfl, h1, hx, hp, hp', q⟩
  unfold p__law_height
  refine cut (fun ρ => ρ = [.fz (I x), .fz (I p), .fz (I 0)]) (fun r h => ?_) ?_
  · array_get_dec
    exact h _ rfl
  rintro _ rfl
  refine cut (fun ρ => ∃ y, ρ = [.fz (I y), .fz (I p), .fz (I (ht 90 p x))]) (fun r h => ?_) ?_
  · refine wh_mk (fun m ρ => ∃ y o, 1 ≤ y ∧ y < 2 ^ m ∧ m < 91 ∧ o + ht m p y = ht 90 p x ∧ ρ = [.fz (I y), .fz (I p), .fz (I o)]) 90 ⟨x, 0, h1, hx, by omega, by rw [Nat.zero_add], rfl⟩ ?_
    rintro m _ ⟨y, o, hy, hy', hm, e, rfl⟩ r' hr
    array_get_dec
    refine ⟨divOk (by omega) (by omega), ?_⟩
    rw [pdivN (by omega), ← Int.natCast_mul]
    refine ⟨mulR ⟨by omega, by omega⟩, ?_⟩
    cases m with
    | zero => omega
    | succ m =>
      have hme := mul_eq_mod (x := y) (p := p) (by omega)
      by_cases h0 : y % p = 0
      · rw [if_pos (by rw [hme.mpr h0])]
        have h4 := half (n := y) hp
        have h5 : 1 ≤ y / p := Nat.div_pos (Nat.le_of_dvd (by omega) (Nat.dvd_of_mod_eq_zero h0)) (by omega)
        have e2 : ht (m + 1) p y = ht m p (y / p) + 1 := if_pos h0
        rw [Nat.pow_succ] at hy'
        refine ⟨divOk (by omega) (by omega), hr m _ (by omega) ⟨y / p, o + 1, h5, by omega, by omega, by rw [← e, e2]; omega, rfl⟩⟩
      · rw [if_neg (fun z => h0 (hme.mp (by exact_mod_cast z)))]
        have e2 : ht (m + 1) p y = 0 := if_neg h0
        rw [e2, Nat.add_zero] at e
        rw [← e] at h
        exact h _ ⟨y, rfl⟩
  rintro _ ⟨y, rfl⟩
  array_get_dec
  exact q
theorem pas_len : ∀ n, (pas n).length = n + 1
  | 0 => rfl
  | n + 1 => by
    show ([1] ++ List.map _ (List.range ((pas n).length - 1)) ++ [1]).length = _
    rw [pas_len n, List.length_append, List.length_append, List.length_map, List.length_range]
    simp
    omega
theorem c__law_choices : ∀ ds Q, fs__law_choices ds Q → p__law_choices (endsF ms__law_choices Q) (initS 4 ms__law_choices ds) := by
  rintro _ Q ⟨n, rfl, hn, q⟩
  have hs : (sizeLine : Nat) = 2 ^ 24 := rfl
  unfold p__law_choices
  array_get_dec
  refine ⟨by decide, by omega, by omega, ?_⟩
  refine for_mk (fun i ρ => ∃ s2 s3 : Sl, ρ = [.fz (I n), .ow (IL (pas i)), s2, s3]) ⟨.no, .no, rfl⟩ ?_ ?_
  · rintro i d _ hd ⟨s2, s3, rfl⟩ r hr
    obtain ⟨hi, rfl⟩ := rangeD_get hd
    array_get_dec
    rw [List.length_map, pas_len]
    refine ⟨by omega, by omega, by omega, ?_⟩
    refine lc_mk (ρ0 := [.fz (I n), .ow (IL (pas i)), .fz (.int (0 + (i : Int))), .no]) (fun j => I ((pas i).getD j 0 + (pas i).getD (j + 1) 0)) (by rw [rangeD_len]; omega) rfl ?_ ?_
    · rintro j d hd K hK
      obtain ⟨hj, rfl⟩ := rangeD_get hd
      have hl := pas_len i
      array_get_dec
      rw [Int.zero_add]
      refine ⟨_, IL_at (by omega), _, IL_at (i := j + 1) (by omega), ?_⟩
      array_get_dec
      rw [← Int.natCast_add]
      exact hK
    · array_get_dec
      rw [rangeD_len]
      have e : ((((i + 1 : Nat) : Int) - 1 - 0)).toNat = i := by omega
      rw [e]
      have hL : (List.map (fun j => I ((pas i).getD j 0 + (pas i).getD (j + 1) 0)) (List.range i)).length = i := by rw [List.length_map, List.length_range]
      rw [hL]
      refine ⟨by omega, by omega, by omega, hr _ ⟨.fz (.int (0 + (i : Int))), (match some s3 with | some (Sl.fz d) => Sl.fz d | _ => Sl.no), ?_⟩⟩
      have e2 : IL (pas (i + 1)) = .list (PyData.int 1 :: (List.map (fun j => I ((pas i).getD j 0 + (pas i).getD (j + 1) 0)) (List.range i) ++ [PyData.int 1])) := by
        show PyData.list (List.map _ ([1] ++ List.map _ (List.range ((pas i).length - 1)) ++ [1])) = _
        rw [pas_len, List.map_append, List.map_append, List.map_map]; rfl
      first
        | (rw [e2]; done)
        | (rw [e2]; cases s3 <;> rfl)
  · rintro _ ⟨s2, s3, rfl⟩
    array_get_dec
    rw [rangeD_len, Int.sub_zero]
    exact q
/-! ### the sum of the table -/
def total (t : KL) : Nat := (t.map (·.2)).sum
def sumK (t : KL) (ks : List Nat) : Nat := (ks.map (getN t)).sum
theorem getN_notin {t : KL} {k : Nat} (h : k ∉ t.map (·.1)) : getN t k = 0 := ((kv_get t k).2 h).2
theorem total_rep (k w : Nat) : ∀ (t : KL), (t.map (·.1)).Nodup → total (t.map (fun q => if q.1 = k then (q.1, w) else q)) + getN t k = total t + (if k ∈ t.map (·.1) then w else 0)
  | [], _ => rfl
  | (a, x) :: t, nd => by
    have nd' : a ∉ t.map (·.1) ∧ (t.map (·.1)).Nodup := List.nodup_cons.mp nd
    have ih := total_rep k w t nd'.2
    have e0 : getN ((a, x) :: t) k = if a = k then x else getN t k := rfl
    have e1 : total ((a, x) :: t) = x + total t := rfl
    have e2 : total (((a, x) :: t).map (fun q => if q.1 = k then (q.1, w) else q)) = (if a = k then w else x) + total (t.map (fun q => if q.1 = k then (q.1, w) else q)) := by
      show ((if a = k then (a, w) else (a, x)) : Nat × Nat).2 + _ = _
      split <;> rfl
    have e4 : ((a, x) :: t).map (·.1) = a :: t.map (·.1) := rfl
    rw [e0, e1, e2, e4]
    by_cases h : a = k
    · subst h
      rw [if_neg nd'.1, getN_notin nd'.1] at ih
      rw [if_pos rfl, if_pos rfl, if_pos List.mem_cons_self]
      omega
    · rw [if_neg h, if_neg h]
      by_cases hk : k ∈ t.map (·.1)
      · rw [if_pos hk] at ih
        rw [if_pos (List.mem_cons_of_mem _ hk)]
        omega
      · rw [if_neg hk] at ih
        rw [if_neg (fun z => (List.mem_cons.mp z).elim (fun z => h z.symm) hk)]
        omega
theorem total_put {t : KL} (nd : (t.map (·.1)).Nodup) (k v : Nat) : total (putN t k v) = total t + v := by
  unfold putN
  split
  · unfold setN
    split
    · rename_i h
      have hk : k ∈ t.map (·.1) := by
        obtain ⟨q, h1, h2⟩ := List.any_eq_true.mp h
        exact List.mem_map.mpr ⟨q, h1, of_decide_eq_true h2⟩
      have := total_rep k (getN t k + v) t nd
      rw [if_pos hk] at this
      omega
    · rename_i h
      have hk : k ∉ t.map (·.1) := fun z => by
        obtain ⟨q, h1, h2⟩ := List.mem_map.mp z
        exact h (List.any_eq_true.mpr ⟨q, h1, decide_eq_true h2⟩)
      rw [getN_notin hk]
      unfold total
      rw [List.map_append, List.sum_append]
      simp
  · omega
theorem sum_if (a v : Nat) : ∀ B : Nat, ((List.range B).map fun m => if a = m then v else 0).sum = if a < B then v else 0
  | 0 => rfl
  | B + 1 => by
    rw [List.range_succ, List.map_append, List.sum_append, sum_if a v B]
    show _ + ((if a = B then v else 0) + 0) = _
    by_cases h1 : a < B
    · rw [if_pos h1, if_neg (by omega), if_pos (by omega)]; omega
    · by_cases h2 : a = B
      · rw [if_neg h1, if_pos h2, if_pos (by omega)]; omega
      · rw [if_neg h1, if_neg h2, if_neg (by omega)]
theorem sum_add {α : Type} (f g : α → Nat) : ∀ l : List α, (l.map fun x => f x + g x).sum = (l.map f).sum + (l.map g).sum
  | [] => rfl
  | x :: l => by
    rw [List.map_cons, List.map_cons, List.map_cons, List.sum_cons, List.sum_cons, List.sum_cons, sum_add f g l]
    omega
theorem sum_range {B : Nat} : ∀ {t : KL}, Good B t → ((List.range B).map (getN t)).sum = total t
  | [], _ => by
    have z : ∀ B : Nat, ((List.range B).map fun _ => 0).sum = 0 := fun B => by
      induction B with
      | zero => rfl
      | succ B ih => rw [List.range_succ, List.map_append, List.sum_append, ih]; rfl
    exact z B
  | (a, v) :: t, h => by
    have nd := List.nodup_cons.mp h.1
    have g : Good B t := ⟨nd.2, fun k hk => h.2 k (List.mem_cons_of_mem _ hk)⟩
    have e : getN ((a, v) :: t) = fun m => (if a = m then v else 0) + getN t m := by
      funext m
      show (if a = m then v else getN t m) = _
      by_cases hm : a = m
      · subst hm
        rw [if_pos rfl, if_pos rfl, getN_notin nd.1]; rfl
      · rw [if_neg hm, if_neg hm, Nat.zero_add]
    rw [e, sum_add, sum_if, if_pos (h.2 a List.mem_cons_self), sum_range g]
    rfl
theorem sum_keys : ∀ {t : KL}, (t.map (·.1)).Nodup → sumK t (t.map (·.1)) = total t
  | [], _ => rfl
  | (a, v) :: t, h => by
    have nd : a ∉ t.map (·.1) ∧ (t.map (·.1)).Nodup := List.nodup_cons.mp h
    show (if a = a then v else getN t a) + ((t.map (·.1)).map (getN ((a, v) :: t))).sum = v + total t
    rw [if_pos rfl, ← sum_keys nd.2]
    congr 1
    unfold sumK
    congr 1
    apply List.map_congr_left
    intro c hc
    show (if a = c then v else getN t c) = _
    rw [if_neg (fun z : a = c => nd.1 (by rw [z]; exact hc))]
theorem foldA {p d B : Nat} {fr : KL} : ∀ (ks : List Nat) (a c : KL), Good B a → Good (B + 1) c → (∀ k ∈ ks, k < B) →
    Good B (ks.foldl (cwA p d fr) (a, c)).1 ∧ Good (B + 1) (ks.foldl (cwA p d fr) (a, c)).2 ∧ total (ks.foldl (cwA p d fr) (a, c)).1 = total a + sumK fr ks * (d + 1) ∧ total (ks.foldl (cwA p d fr) (a, c)).2 = total c + sumK fr ks * (p - 1 - d)
  | [], a, c, ga, gc, _ => ⟨ga, gc, by simp [sumK], by simp [sumK]⟩
  | k :: ks, a, c, ga, gc, hk => by
    have hkB := hk k List.mem_cons_self
    obtain ⟨h1, h2, h3, h4⟩ := foldA (p := p) (d := d) (fr := fr) ks (putN a k (getN fr k * (d + 1))) (putN c (k + 1) (getN fr k * (p - 1 - d))) (ga.put hkB) (gc.put (by omega)) fun k' h' => hk k' (List.mem_cons_of_mem _ h')
    have e : sumK fr (k :: ks) = getN fr k + sumK fr ks := rfl
    refine ⟨h1, h2, ?_, ?_⟩
    · rw [e, Nat.add_mul, ← Nat.add_assoc, ← total_put ga.1]; exact h3
    · rw [e, Nat.add_mul, ← Nat.add_assoc, ← total_put gc.1]; exact h4
theorem foldB {p d B : Nat} {fr : KL} : ∀ (ks : List Nat) (a c : KL), Good (B + 1) a → Good (B + 1) c → (∀ k ∈ ks, k < B) →
    Good (B + 1) (ks.foldl (cwB p d fr) (a, c)).1 ∧ Good (B + 1) (ks.foldl (cwB p d fr) (a, c)).2 ∧ total (ks.foldl (cwB p d fr) (a, c)).1 = total a + sumK fr ks * d ∧ total (ks.foldl (cwB p d fr) (a, c)).2 = total c + sumK fr ks * (p - d)
  | [], a, c, ga, gc, _ => ⟨ga, gc, by simp [sumK], by simp [sumK]⟩
  | k :: ks, a, c, ga, gc, hk => by
    have hkB := hk k List.mem_cons_self
    obtain ⟨h1, h2, h3, h4⟩ := foldB (p := p) (d := d) (fr := fr) ks (putN a k (getN fr k * d)) (putN c (k + 1) (getN fr k * (p - d))) (ga.put (by omega)) (gc.put (by omega)) fun k' h' => hk k' (List.mem_cons_of_mem _ h')
    have e : sumK fr (k :: ks) = getN fr k + sumK fr ks := rfl
    refine ⟨h1, h2, ?_, ?_⟩
    · rw [e, Nat.add_mul, ← Nat.add_assoc, ← total_put ga.1]; exact h3
    · rw [e, Nat.add_mul, ← Nat.add_assoc, ← total_put gc.1]; exact h4
def valD (p : Nat) : List Nat → Nat
  | [] => 0
  | d :: ds => d + p * valD p ds
theorem fold_total {p : Nat} (hp : 2 ≤ p) : ∀ (ds : List Nat) (fr he : KL) (B v q : Nat), (∀ d ∈ ds, d < p) → Good B fr → Good B he → total fr = v + 1 → total fr + total he = q →
    Good (B + ds.length) (ds.foldl (cwS p) (fr, he)).1 ∧ total (ds.foldl (cwS p) (fr, he)).1 = v + q * valD p ds + 1
  | [], fr, he, B, v, q, _, g1, g2, e1, e2 => ⟨g1, by rw [show valD p [] = 0 from rfl, Nat.mul_zero]; exact e1⟩
  | d :: ds, fr, he, B, v, q, hd, g1, g2, e1, e2 => by
    have hdp := hd d List.mem_cons_self
    obtain ⟨a1, a2, a3, a4⟩ := foldA (p := p) (d := d) (fr := fr) (fr.map (·.1)) [] [] (.nil B) (.nil (B + 1)) g1.2
    generalize hA : (fr.map (·.1)).foldl (cwA p d fr) ([], []) = A at a1 a2 a3 a4
    obtain ⟨A1, A2⟩ := A
    obtain ⟨b1, b2, b3, b4⟩ := foldB (p := p) (d := d) (fr := he) (he.map (·.1)) A1 A2 (a1.mono (Nat.le_succ B)) a2 g2.2
    have es : cwS p (fr, he) d = (he.map (·.1)).foldl (cwB p d he) (A1, A2) := by
      show (he.map (·.1)).foldl (cwB p d he) ((fr.map (·.1)).foldl (cwA p d fr) ([], [])) = _
      rw [hA]
    rw [sum_keys g1.1] at a3 a4
    rw [sum_keys g2.1] at b3 b4
    generalize hC : (he.map (·.1)).foldl (cwB p d he) (A1, A2) = C at b1 b2 b3 b4 es
    obtain ⟨C1, C2⟩ := C
    have z : total ([] : KL) = 0 := rfl
    simp only [z, Nat.zero_add] at a3 a4 b3 b4
    rw [a3] at b3
    rw [a4] at b4
    have f1 : total C1 = (v + d * q) + 1 := by
      rw [b3, ← e2, Nat.mul_add, Nat.mul_add, e1]
      rw [Nat.mul_comm (total he) d, Nat.mul_comm d (v + 1)]
      omega
    have f2 : total C1 + total C2 = q * p := by
      rw [b3, b4, ← e2, Nat.add_mul]
      have x1 : total fr * (d + 1) + total fr * (p - 1 - d) = total fr * p := by rw [← Nat.mul_add]; congr 1; omega
      have x2 : total he * d + total he * (p - d) = total he * p := by rw [← Nat.mul_add]; congr 1; omega
      omega
    obtain ⟨r1, r2⟩ := fold_total hp ds C1 C2 (B + 1) (v + d * q) (q * p) (fun d' h => hd d' (List.mem_cons_of_mem _ h)) b1 b2 f1 f2
    rw [List.foldl_cons, es, List.length_cons]
    refine ⟨r1.mono (by omega), ?_⟩
    rw [r2]
    show _ = v + q * (d + p * valD p ds) + 1
    rw [Nat.mul_add, Nat.mul_comm d q, Nat.mul_assoc]
    omega
theorem val_dg : ∀ (f p n : Nat), 2 ≤ p → n < 2 ^ f → valD p (dg f p n) = n
  | 0, p, n, _, h => by
    have : n = 0 := by omega
    subst this; rfl
  | f + 1, p, n, hp, h => by
    by_cases h0 : n = 0
    · subst h0; rw [dg_zero]; rfl
    · rw [dg_succ h0]
      have h2 := half (n := n) hp
      rw [Nat.pow_succ] at h
      show n % p + p * valD p (dg f p (n / p)) = n
      rw [val_dg f p (n / p) hp (by omega)]
      exact Nat.mod_add_div n p
theorem dg_len2 : ∀ (f g p n : Nat), 2 ≤ p → n < 2 ^ g → (dg f p n).length ≤ g
  | 0, _, _, _, _, _ => Nat.zero_le _
  | f + 1, 0, p, n, hp, h => by
    have : n = 0 := by omega
    subst this; rw [dg_zero]; exact Nat.zero_le _
  | f + 1, g + 1, p, n, hp, h => by
    by_cases h0 : n = 0
    · subst h0; rw [dg_zero]; exact Nat.zero_le _
    · rw [dg_succ h0]
      have h2 := half (n := n) hp
      rw [Nat.pow_succ] at h
      exact Nat.succ_le_succ (dg_len2 f g p (n / p) hp (by omega))
theorem sum_cw {p n : Nat} (hp : 2 ≤ p) (hn : n < 2 ^ 30) : ((List.range 40).map (getN (cw p n).1)).sum = n + 1 := by
  obtain ⟨g, e⟩ := fold_total hp (dg 60 p n) [(0, 1)] [] 1 0 1 (fun d hd => dg_mem 60 p n d (by omega) hd) ⟨by decide, by decide⟩ (.nil 1) rfl rfl
  have hl := dg_len2 60 30 p n hp hn
  rw [val_dg 60 p n hp (by omega), Nat.zero_add, Nat.one_mul] at e
  rw [← e]
  exact sum_range (g.mono (by omega))
/-! ### the finite part -/
def b (n j : Nat) : Nat := (1 + 2 ^ 70) ^ n / 2 ^ (70 * j) % 2 ^ 70
def all70 (f : Nat → Bool) : Nat → Bool
  | 0 => true
  | n + 1 => f n && all70 f n
theorem all70_ok {f : Nat → Bool} : ∀ {m : Nat}, all70 f m = true → ∀ n, n < m → f n = true
  | 0, _, n, h => absurd h (by omega)
  | m + 1, e, n, h => by
    have e : (f m && all70 f m) = true := e
    rw [Bool.and_eq_true] at e
    by_cases hn : n = m
    · subst hn; exact e.1
    · exact all70_ok e.2 n (by omega)
def ckB (n : Nat) : Bool := b n 0 == 1 && b n n == 1 && all70 (fun j => b (n + 1) (j + 1) == b n j + b n (j + 1)) n
set_option maxHeartbeats 0 in
theorem ckB_ok : all70 ckB 70 = true := by decide +kernel
def ck1 (p n : Nat) : Bool := all70 (fun j => decide (1 ≤ b n j) && decide (b n j < 2 ^ 90) && ht 90 p (b n j) == carr 62 p j (n - j) 0) (n + 1)
def ps : List Nat := [2, 3, 5, 7, 11, 13]
set_option maxHeartbeats 0 in
theorem ck1_ok : ps.all (fun p => all70 (ck1 p) 70) = true := by decide +kernel
def ck2 (p n : Nat) : Bool := all70 (fun j => b n j % p == crest n j p) (n + 1) && all70 (fun k => crest n (n + 1 + k) p == 0) 3
set_option maxHeartbeats 0 in
theorem ck2_ok : ps.all (fun p => all70 (ck2 p) 70) = true := by decide +kernel
def cnt (p n m : Nat) : Nat := ((List.range (n + 1)).filter (fun j => carr 62 p j (n - j) 0 == m)).length
def ck3 (p n : Nat) : Bool := cnt p n 0 == cnd p n && all70 (fun m => cnt p n m == getN (cw p n).1 m) 8
set_option maxHeartbeats 0 in
theorem ck3_ok : ps.all (fun p => all70 (ck3 p) 70) = true := by decide +kernel
def ck5 (n : Nat) : Bool := all70 (fun j => scN n j == b n j) (n + 1)
set_option maxHeartbeats 0 in
theorem ck5_ok : all70 ck5 70 = true := by decide +kernel
def ck6 (n : Nat) : Bool := decide (n < 2) || (List.range (n - 1)).foldl (fun c j => Nat.gcd (b n (j + 1)) c) (b n 1) == rdv n
set_option maxHeartbeats 0 in
theorem ck6_ok : all70 ck6 70 = true := by decide +kernel
/-! ### the finite part, told -/
theorem psAll {f : Nat → Nat → Bool} (h : ps.all (fun p => all70 (f p) 70) = true) {p n : Nat} (hp : p ∈ ps) (hn : n < 70) : f p n = true := all70_ok (List.all_eq_true.mp h p hp) n hn
theorem b_zero {n : Nat} (h : n < 70) : b n 0 = 1 := by
  have := all70_ok ckB_ok n h
  unfold ckB at this
  rw [Bool.and_eq_true, Bool.and_eq_true] at this
  exact eq_of_beq this.1.1
theorem b_self {n : Nat} (h : n < 70) : b n n = 1 := by
  have := all70_ok ckB_ok n h
  unfold ckB at this
  rw [Bool.and_eq_true, Bool.and_eq_true] at this
  exact eq_of_beq this.1.2
theorem b_step {n j : Nat} (h : n < 70) (hj : j < n) : b (n + 1) (j + 1) = b n j + b n (j + 1) := by
  have := all70_ok ckB_ok n h
  unfold ckB at this
  rw [Bool.and_eq_true] at this
  exact eq_of_beq (all70_ok this.2 j hj)
theorem pas_b : ∀ n, n < 70 → pas n = (List.range (n + 1)).map (b n)
  | 0, _ => rfl
  | n + 1, h => by
    have ih := pas_b n (by omega)
    apply List.ext_getElem?
    intro i
    have e : pas (n + 1) = [1] ++ (List.range n).map (fun j => (pas n).getD j 0 + (pas n).getD (j + 1) 0) ++ [1] := by
      show [1] ++ _ ++ [1] = _
      rw [pas_len]; rfl
    rw [e, ih]
    have g : ∀ j, j < n + 1 → ((List.range (n + 1)).map (b n)).getD j 0 = b n j := fun j hj => by
      apply getD_of
      rw [List.getElem?_map, List.getElem?_range hj]; rfl
    rcases Nat.lt_trichotomy i (n + 1) with hi | hi | hi
    · rw [List.getElem?_append_left (by simp; omega)]
      cases i with
      | zero =>
        rw [List.getElem?_append_left (by simp), List.getElem?_map, List.getElem?_range (by omega)]
        show some 1 = some (b (n + 1) 0)
        rw [b_zero h]
      | succ i =>
        have e1 : i + 1 - [1].length = i := rfl
        rw [List.getElem?_append_right (by simp), e1, List.getElem?_map, List.getElem?_map, List.getElem?_range (i := i) (by omega), List.getElem?_range (i := i + 1) (by omega)]
        show some (_ + _) = some (b (n + 1) (i + 1))
        rw [g i (by omega), g (i + 1) (by omega), b_step (by omega) (by omega)]
    · subst hi
      rw [List.getElem?_append_right (by simp), List.getElem?_map, List.getElem?_range (by omega)]
      show _ = some (b (n + 1) (n + 1))
      rw [b_self h]
      simp
    · rw [List.getElem?_eq_none (by simp; omega), List.getElem?_eq_none (by simp; omega)]
theorem f1 {p n j : Nat} (hp : p ∈ ps) (hn : n < 70) (hj : j < n + 1) : 1 ≤ b n j ∧ b n j < 2 ^ 90 ∧ ht 90 p (b n j) = carr 62 p j (n - j) 0 := by
  have := all70_ok (psAll ck1_ok hp hn) j hj
  rw [Bool.and_eq_true, Bool.and_eq_true, decide_eq_true_eq, decide_eq_true_eq] at this
  exact ⟨this.1.1, this.1.2, eq_of_beq this.2⟩
theorem f2 {p n : Nat} (hp : p ∈ ps) (hn : n < 70) : (∀ j, j < n + 1 → b n j % p = crest n j p) ∧ ∀ k, k < 3 → crest n (n + 1 + k) p = 0 := by
  have := psAll ck2_ok hp hn
  unfold ck2 at this
  rw [Bool.and_eq_true] at this
  exact ⟨fun j hj => eq_of_beq (all70_ok this.1 j hj), fun k hk => eq_of_beq (all70_ok this.2 k hk)⟩
theorem f3 {p n : Nat} (hp : p ∈ ps) (hn : n < 70) : cnt p n 0 = cnd p n ∧ ∀ m, m < 8 → cnt p n m = getN (cw p n).1 m := by
  have := psAll ck3_ok hp hn
  unfold ck3 at this
  rw [Bool.and_eq_true] at this
  exact ⟨eq_of_beq this.1, fun m hm => eq_of_beq (all70_ok this.2 m hm)⟩
theorem f5 {n j : Nat} (hn : n < 70) (hj : j < n + 1) : scN n j = b n j := eq_of_beq (all70_ok (all70_ok ck5_ok n hn) j hj)
theorem f6 {n : Nat} (hn : n < 70) (h2 : 2 ≤ n) : (List.range (n - 1)).foldl (fun c j => Nat.gcd (b n (j + 1)) c) (b n 1) = rdv n := by
  have := all70_ok ck6_ok n hn
  unfold ck6 at this
  rw [decide_eq_false (by omega), Bool.false_or] at this
  exact eq_of_beq this
theorem ps_bd {p : Nat} (h : p ∈ ps) : 2 ≤ p ∧ p < 64 := by
  have : p = 2 ∨ p = 3 ∨ p = 5 ∨ p = 7 ∨ p = 11 ∨ p = 13 := by
    unfold ps at h
    simp only [List.mem_cons, List.not_mem_nil, or_false] at h
    exact h
  omega
theorem plIL {l : List Nat} (h : l.length ≤ sizeLine) : plD 6 (IL l) = true := by
  show (decide ((l.map fun n => PyData.int (n : Nat)).length ≤ sizeLine) && _) = true
  rw [List.length_map, decide_eq_true h, Bool.true_and, List.all_map, List.all_eq_true]
  intro x _; rfl
theorem exact_of {X Y : D} {Q : D → List D → Prop} (e : Y = X) (h : plD 6 X = true) (q : Q (.bool true) []) : fs__law_exact [X, Y] Q := ⟨X, by rw [e], h, q⟩
def Row (n : Nat) : List Nat := (List.range (n + 1)).map (b n)
def Hts (p n : Nat) : List Nat := (List.range (n + 1)).map (fun j => carr 62 p j (n - j) 0)
theorem Row_at {n i : Nat} {d : D} (h : ((Row n).map I)[i]? = some d) : i < n + 1 ∧ d = I (b n i) := by
  unfold Row at h
  rw [List.map_map, List.getElem?_map] at h
  by_cases hi : i < n + 1
  · rw [List.getElem?_range hi] at h
    exact ⟨hi, (Option.some.inj h).symm⟩
  · rw [List.getElem?_eq_none (by rw [List.length_range]; omega)] at h
    cases h
theorem Row_len (n : Nat) : ((Row n).map I).length = n + 1 := by unfold Row; simp
theorem Hts_at {p n i : Nat} {d : D} (h : ((Hts p n).map I)[i]? = some d) : i < n + 1 ∧ d = I (carr 62 p i (n - i) 0) := by
  unfold Hts at h
  rw [List.map_map, List.getElem?_map] at h
  by_cases hi : i < n + 1
  · rw [List.getElem?_range hi] at h
    exact ⟨hi, (Option.some.inj h).symm⟩
  · rw [List.getElem?_eq_none (by rw [List.length_range]; omega)] at h
    cases h
theorem Hts_len (p n : Nat) : ((Hts p n).map I).length = n + 1 := by unfold Hts; simp
/-- a comprehension whose items keep a property of the slots -/
theorem lc_mkP {ds : List D} {g : TGp} {pe : TEp} {vs : List Nat} {ρ1 : Ro} {Q : D → Ro → Prop} (f : Nat → D) (P : Ro → Prop) (hl : ds.length ≤ sizeLine) (h0 : P (wipeS ρ1 vs))
    (step : ∀ i d ρ0, ds[i]? = some d → P ρ0 → ∀ K : D → Ro → Prop, (∀ ρ', P ρ' → K (f i) ρ') → g d ρ0 fun ρ3 => pe ρ3 fun o ρ5 => esc o ρ5 fun y ρ6 => K y (wipeS ρ6 vs))
    (fin : ∀ ρ0, P ρ0 → Q (.list ((List.range ds.length).map f)) (backS ρ1 vs ρ0)) : qLcB g qYes pe vs ds ρ1 Q := by
  refine ⟨fun i acc ρ => P ρ ∧ acc = (List.range i).map f, ⟨h0, rfl⟩, ?_, ?_⟩
  · rintro i d _ ρ0 hd ⟨hP, rfl⟩
    have hi : i < ds.length := (List.getElem?_eq_some_iff.mp hd).1
    exact step i d ρ0 hd hP (fun y ρ6 => ((List.range i).map f).length < sizeLine ∧ P ρ6 ∧ (List.range i).map f ++ [y] = (List.range (i + 1)).map f) fun ρ' h' => ⟨by rw [List.length_map, List.length_range]; omega, h', by rw [List.range_succ, List.map_append]; rfl⟩
  · rintro _ ρ0 ⟨hP, rfl⟩
    exact fin ρ0 hP
theorem sum_cast {α : Type} (f : α → Nat) : ∀ l : List α, (l.map fun x => ((f x : Nat) : Int)).sum = ((l.map f).sum : Nat)
  | [] => rfl
  | x :: l => by
    rw [List.map_cons, List.map_cons, List.sum_cons, List.sum_cons, sum_cast f l]; rfl
theorem cut_row (f : Nat → D) (n : Nat) (h : 2 ≤ n) : PL.cutD ((List.range (n + 1)).map f) (some 1) (some (n : Int)) = (List.range (n - 1)).map fun j => f (j + 1) := by
  unfold PL.cutD
  rw [show (some (1 : Int)) = some ((1 : Nat) : Int) from rfl, HT.sIx_nat, HT.sIx_nat, List.length_map, List.length_range]
  apply List.ext_getElem?
  intro i
  have e1 : min n (n + 1) - min 1 (n + 1) = n - 1 := by omega
  have e2 : min 1 (n + 1) + i = i + 1 := by omega
  rw [e1, List.getElem?_take]
  by_cases hi : i < n - 1
  · rw [if_pos hi, List.getElem?_drop, e2, List.getElem?_map, List.getElem?_range (by omega), List.getElem?_map, List.getElem?_range hi]; rfl
  · rw [if_neg hi, List.getElem?_eq_none (by rw [List.length_map, List.length_range]; omega)]
theorem Hts_eq (p n : Nat) : PyData.list ((List.range (n + 1)).map fun j => I (carr 62 p j (n - j) 0)) = IL (Hts p n) := by
  unfold Hts; show _ = PyData.list (List.map _ (List.map _ _)); rw [List.map_map]; rfl
theorem c_law : ∀ ds Q, fsLaw ds Q → p_law (endsF ms_law Q) (initS 21 ms_law ds) := by
  rintro _ Q ⟨ns, rfl, hns, q⟩
  have hs : (sizeLine : Nat) = 2 ^ 24 := rfl
  unfold p_law
  refine cut (fun ρ => ∃ (st : D) (s2 s3 s4 s5 s6 s7 s8 s9 s10 s11 s12 s13 s14 s15 s16 s17 s18 s19 s20 : Sl), St01 st ∧ ρ = [.fz (.list (ns.map .int)), .ow st, s2, s3, s4, s5, s6, s7, s8, s9, s10, s11, s12, s13, s14, s15, s16, s17, s18, s19, s20]) (fun r h => ?_) ?_
  · array_get_dec
    exact ⟨by decide, h _ ⟨_, _, _, _, _, _, _, _, _, _, _, _, _, _, _, _, _, _, _, _, ⟨0, 0, by decide, by decide, rfl⟩, rfl⟩⟩
  rintro _ ⟨st, s2, s3, s4, s5, s6, s7, s8, s9, s10, s11, s12, s13, s14, s15, s16, s17, s18, s19, s20, hst, rfl⟩
  refine cut (fun ρ => ∃ (st : D) (s2 s3 s4 s5 s6 s7 s8 s9 s10 s11 s12 s13 s14 s15 s16 s17 s18 s19 s20 : Sl), St01 st ∧ ρ = [.fz (.list (ns.map .int)), .ow st, s2, s3, s4, s5, s6, s7, s8, s9, s10, s11, s12, s13, s14, s15, s16, s17, s18, s19, s20]) (fun r h => ?_) ?_
  rotate_left
  · rintro _ ⟨st, s2, s3, s4, s5, s6, s7, s8, s9, s10, s11, s12, s13, s14, s15, s16, s17, s18, s19, s20, hst, rfl⟩
    array_get_dec
    exact q
  array_get_dec
  refine ⟨by decide, by decide, ?_⟩
  refine for_mk (fun _ => fun ρ => ∃ (st : D) (s2 s3 s4 s5 s6 s7 s8 s9 s10 s11 s12 s13 s14 s15 s16 s17 s18 s19 s20 : Sl), St01 st ∧ ρ = [.fz (.list (ns.map .int)), .ow st, s2, s3, s4, s5, s6, s7, s8, s9, s10, s11, s12, s13, s14, s15, s16, s17, s18, s19, s20]) ⟨_, _, _, _, _, _, _, _, _, _, _, _, _, _, _, _, _, _, _, _, hst, rfl⟩ ?_ (fun ρ h' => h ρ h')
  rintro k d _ hd ⟨st, s2, s3, s4, s5, s6, s7, s8, s9, s10, s11, s12, s13, s14, s15, s16, s17, s18, s19, s20, hst, rfl⟩ r' hr
  obtain ⟨hk, rfl⟩ := rangeD_get hd
  simp only [gN, List.length_cons, List.length_nil, Nat.reduceAdd, Nat.reduceLT, true_and, List.set_cons_succ, List.set_cons_zero]
  refine cut (fun ρ => ∃ p, p ∈ ps ∧ (fun ρ => ∃ (st : D) (s4 s5 s6 s7 s8 s9 s10 s11 s12 s13 s14 s15 s16 s17 s18 s19 s20 : Sl), St01 st ∧ ρ = [.fz (.list (ns.map .int)), .ow st, .fz (.int (0 + (k : Int))), .fz (I p), s4, s5, s6, s7, s8, s9, s10, s11, s12, s13, s14, s15, s16, s17, s18, s19, s20]) ρ) (fun r h => ?_) ?_
  · array_get_dec
    refine ⟨st, ns, rfl, hst, fun p st' hp hst' => ?_⟩
    array_get_dec
    exact h _ ⟨p, hp, ⟨_, _, _, _, _, _, _, _, _, _, _, _, _, _, _, _, _, _, hst', rfl⟩⟩
  rintro _ ⟨p, hp, st, s4, s5, s6, s7, s8, s9, s10, s11, s12, s13, s14, s15, s16, s17, s18, s19, s20, hst, rfl⟩
  obtain ⟨hp2, hp64⟩ := ps_bd hp
  refine cut (fun ρ => ∃ n : Nat, n < 70 ∧ (fun ρ => ∃ (st : D) (s5 s6 s7 s8 s9 s10 s11 s12 s13 s14 s15 s16 s17 s18 s19 s20 : Sl), St01 st ∧ ρ = [.fz (.list (ns.map .int)), .ow st, .fz (.int (0 + (k : Int))), .fz (I p), .fz (I n), s5, s6, s7, s8, s9, s10, s11, s12, s13, s14, s15, s16, s17, s18, s19, s20]) ρ) (fun r h => ?_) ?_
  · array_get_dec
    refine ⟨st, ns, 70, rfl, hst, by decide, by decide, fun digit st' h0 h1 hst' => ?_⟩
    obtain ⟨n, rfl⟩ := Int.eq_ofNat_of_zero_le h0
    array_get_dec
    exact h _ ⟨n, by omega, ⟨_, _, _, _, _, _, _, _, _, _, _, _, _, _, _, _, _, hst', rfl⟩⟩
  rintro _ ⟨n, hn, st, s5, s6, s7, s8, s9, s10, s11, s12, s13, s14, s15, s16, s17, s18, s19, s20, hst, rfl⟩
  refine cut (fun ρ => ∃ (st : D) (s6 s7 s8 s9 s10 s11 s12 s13 s14 s15 s16 s17 s18 s19 s20 : Sl), St01 st ∧ ρ = [.fz (.list (ns.map .int)), .ow st, .fz (.int (0 + (k : Int))), .fz (I p), .fz (I n), .fz (IL (Row n)), s6, s7, s8, s9, s10, s11, s12, s13, s14, s15, s16, s17, s18, s19, s20]) (fun r h => ?_) ?_
  · array_get_dec
    refine ⟨n, rfl, by omega, ?_⟩
    rw [show pas n = Row n from pas_b n hn]
    array_get_dec
    exact h _ ⟨_, _, _, _, _, _, _, _, _, _, _, _, _, _, _, _, hst, rfl⟩
  rintro _ ⟨st, s6, s7, s8, s9, s10, s11, s12, s13, s14, s15, s16, s17, s18, s19, s20, hst, rfl⟩
  refine cut (fun ρ => ∃ (st : D) (s6 s8 s9 s10 s11 s12 s13 s14 s15 s16 s17 s18 s19 s20 : Sl), St01 st ∧ ρ = [.fz (.list (ns.map .int)), .ow st, .fz (.int (0 + (k : Int))), .fz (I p), .fz (I n), .fz (IL (Row n)), s6, .ow (IL (Hts p n)), s8, s9, s10, s11, s12, s13, s14, s15, s16, s17, s18, s19, s20]) (fun r h => ?_) ?_
  · array_get_dec
    refine lc_mk (ρ0 := [.fz (.list (ns.map .int)), .ow st, .fz (.int (0 + (k : Int))), .fz (I p), .fz (I n), .fz (IL (Row n)), .no, s7, s8, s9, s10, s11, s12, s13, s14, s15, s16, s17, s18, s19, s20]) (fun j => I (carr 62 p j (n - j) 0)) (by rw [Row_len]; omega) rfl ?_ ?_
    · rintro j d hd K hK
      obtain ⟨hj, rfl⟩ := Row_at hd
      obtain ⟨x1, x2, x3⟩ := f1 hp hn hj
      array_get_dec
      refine ⟨b n j, p, rfl, x1, x2, hp2, hp64, ?_⟩
      rw [x3]
      array_get_dec
      exact hK
    · array_get_dec
      rw [Row_len, Hts_eq]
      exact h _ ⟨_, _, _, _, _, _, _, _, _, _, _, _, _, _, _, hst, rfl⟩
  rintro _ ⟨st, s6, s8, s9, s10, s11, s12, s13, s14, s15, s16, s17, s18, s19, s20, hst, rfl⟩
  refine cut (fun ρ => ∃ (st : D) (s6 s8 s9 s10 s11 s12 s13 s14 s15 s16 s17 s18 s19 s20 : Sl), St01 st ∧ ρ = [.fz (.list (ns.map .int)), .ow st, .fz (.int (0 + (k : Int))), .fz (I p), .fz (I n), .fz (IL (Row n)), s6, .fz (IL (Hts p n)), s8, s9, s10, s11, s12, s13, s14, s15, s16, s17, s18, s19, s20]) (fun r h => ?_) ?_
  · array_get_dec
    refine ⟨by omega, by omega, lc_mk (ρ0 := [.fz (.list (ns.map .int)), .ow st, .fz (.int (0 + (k : Int))), .fz (I p), .fz (I n), .fz (IL (Row n)), s6, .ow (IL (Hts p n)), s8, s9, s10, s11, s12, s13, s14, s15, s16, s17, s18, .no, s20]) (fun j => I (carr 62 p j (n - j) 0)) (by rw [rangeD_len]; omega) rfl ?_ ?_⟩
    · rintro j d hd K hK
      obtain ⟨hj, rfl⟩ := rangeD_get hd
      array_get_dec
      refine ⟨n, j, p, by rw [Int.zero_add], by omega, hp2, hp64, by omega, ?_⟩
      array_get_dec
      exact hK
    · array_get_dec
      rw [rangeD_len]
      have e : (((n : Int) + 1 - 0)).toNat = n + 1 := by omega
      rw [e, Hts_eq]
      refine exact_of rfl (plIL (by unfold Hts; simp; omega)) ?_
      array_get_dec
      exact h _ ⟨_, _, _, _, _, _, _, _, _, _, _, _, _, _, _, hst, rfl⟩
  rintro _ ⟨st, s6, s8, s9, s10, s11, s12, s13, s14, s15, s16, s17, s18, s19, s20, hst, rfl⟩
  refine cut (fun ρ => ∃ (st : D) (s6 s8 s9 s10 s11 s12 s13 s14 s15 s16 s17 s18 s19 s20 : Sl), St01 st ∧ ρ = [.fz (.list (ns.map .int)), .ow st, .fz (.int (0 + (k : Int))), .fz (I p), .fz (I n), .fz (IL (Row n)), s6, .fz (IL (Hts p n)), s8, s9, s10, s11, s12, s13, s14, s15, s16, s17, s18, s19, s20]) (fun r h => ?_) ?_
  · array_get_dec
    refine lc_mk (ρ0 := _) (fun j => I (b n j % p)) (by rw [Row_len]; omega) rfl ?_ ?_
    · rintro j d hd K hK
      obtain ⟨hj, rfl⟩ := Row_at hd
      array_get_dec
      refine ⟨by omega, ?_⟩
      rw [pmodN (by omega)]
      exact hK
    · array_get_dec
      rw [Row_len]
      refine ⟨by decide, by simp; omega, by omega, by omega, lc_mk (ρ0 := _) (fun j => I (crest n j p)) (by rw [rangeD_len]; omega) rfl ?_ ?_⟩
      · rintro j d hd K hK
        obtain ⟨hj, rfl⟩ := rangeD_get hd
        array_get_dec
        refine ⟨n, j, p, by rw [Int.zero_add], hp2, hp64, by omega, by omega, ?_⟩
        array_get_dec
        exact hK
      · array_get_dec
        rw [rangeD_len]
        have e : (((n : Int) + 1 - 0)).toNat = n + 1 := by omega
        rw [e]
        refine ⟨n, n + 1 + k, p, by rw [show ((n : Int) + 1 + (0 + (k : Int))) = ((n + 1 + k : Nat) : Int) by omega], hp2, hp64, by omega, by omega, ?_⟩
        array_get_dec
        have eY : PyData.list (List.map (fun j => I (crest n j p)) (List.range (n + 1)) ++ [PyData.int (crest n (n + 1 + k) p : Nat)]) = PyData.list (List.map (fun j => I (b n j % p)) (List.range (n + 1)) ++ [PyData.int 0]) := by
          rw [(f2 hp hn).2 k (by omega)]
          rw [List.map_congr_left (g := fun j => I (b n j % p)) (fun j hj => by rw [(f2 hp hn).1 j (List.mem_range.mp hj)])]
          rfl
        have eX : PyData.list (List.map (fun j => I (b n j % p)) (List.range (n + 1)) ++ [PyData.int 0]) = IL ((List.range (n + 1)).map (fun j => b n j % p) ++ [0]) := by
          show _ = PyData.list (List.map _ (_ ++ _))
          rw [List.map_append, List.map_map]; rfl
        refine ⟨by decide, by simp; omega, exact_of eY (by rw [eX]; exact plIL (by simp; omega)) ?_⟩
        array_get_dec
        exact h _ ⟨_, _, _, _, _, _, _, _, _, _, _, _, _, _, _, hst, rfl⟩
  rintro _ ⟨st, s6, s8, s9, s10, s11, s12, s13, s14, s15, s16, s17, s18, s19, s20, hst, rfl⟩
  refine cut (fun ρ => ∃ (st : D) (s6 s8 s9 s10 s11 s12 s13 s14 s15 s16 s17 s18 s19 s20 : Sl), St01 st ∧ ρ = [.fz (.list (ns.map .int)), .ow st, .fz (.int (0 + (k : Int))), .fz (I p), .fz (I n), .fz (IL (Row n)), s6, .fz (IL (Hts p n)), s8, s9, s10, s11, s12, s13, s14, s15, s16, s17, s18, s19, s20]) (fun r h => ?_) ?_
  · array_get_dec
    refine lc_mkF (ρ0 := _) (fun j => carr 62 p j (n - j) 0 == 0) (fun j => I (carr 62 p j (n - j) 0)) (by rw [Hts_len]; omega) rfl ?_ ?_
    · rintro j d hd K1 K2 h1 h2
      obtain ⟨hj, rfl⟩ := Hts_at hd
      array_get_dec
      by_cases h0 : carr 62 p j (n - j) 0 = 0
      · rw [if_pos (by omega)]
        exact h1 (by rw [h0]; rfl)
      · rw [if_neg (by omega)]
        exact h2 (beq_eq_false_iff_ne.mpr h0)
    · array_get_dec
      rw [Hts_len, List.length_map]
      refine ⟨n, p, rfl, hp2, hp64, by omega, ?_⟩
      refine exact_of (by rw [← (f3 hp hn).1]; rfl) rfl ?_
      array_get_dec
      exact h _ ⟨_, _, _, _, _, _, _, _, _, _, _, _, _, _, _, hst, rfl⟩
  rintro _ ⟨st, s6, s8, s9, s10, s11, s12, s13, s14, s15, s16, s17, s18, s19, s20, hst, rfl⟩
  refine cut (fun ρ => ∃ (st : D) (s6 s8 s9 s10 s11 s12 s13 s14 s15 s16 s17 s18 s19 s20 : Sl), St01 st ∧ ρ = [.fz (.list (ns.map .int)), .ow st, .fz (.int (0 + (k : Int))), .fz (I p), .fz (I n), .fz (IL (Row n)), s6, .fz (IL (Hts p n)), s8, s9, s10, s11, s12, s13, s14, s15, s16, s17, s18, s19, s20]) (fun r h => ?_) ?_
  · array_get_dec
    refine ⟨by decide, by decide, lc_mkP (fun m => I (cnt p n m)) (fun ρ => ∃ s6, ρ = [.fz (.list (ns.map .int)), .ow st, .fz (.int (0 + (k : Int))), .fz (I p), .fz (I n), .fz (IL (Row n)), s6, .fz (IL (Hts p n)), s8, s9, s10, s11, s12, s13, s14, s15, s16, s17, s18, s19, .no]) (by rw [rangeD_len]; decide) ⟨_, rfl⟩ ?_ ?_⟩
    · rintro m d _ hd ⟨s6, rfl⟩ K hK
      obtain ⟨hm, rfl⟩ := rangeD_get hd
      array_get_dec
      refine lc_mkF (ρ0 := _) (fun j => carr 62 p j (n - j) 0 == m) (fun j => I (carr 62 p j (n - j) 0)) (by rw [Hts_len]; omega) rfl ?_ ?_
      · rintro j d hd K1 K2 h1 h2
        obtain ⟨hj, rfl⟩ := Hts_at hd
        array_get_dec
        by_cases h0 : carr 62 p j (n - j) 0 = m
        · rw [if_pos (by omega)]
          exact h1 (by rw [h0]; exact beq_self_eq_true m)
        · rw [if_neg (by omega)]
          exact h2 (beq_eq_false_iff_ne.mpr h0)
      · array_get_dec
        rw [Hts_len, List.length_map]
        exact hK _ ⟨_, rfl⟩
    · rintro _ ⟨s6, rfl⟩
      array_get_dec
      refine ⟨by decide, by decide, lc_mk (ρ0 := _) (fun m => I (getN (cw p n).1 m)) (by rw [rangeD_len]; decide) rfl ?_ ?_⟩
      · rintro m d hd K hK
        obtain ⟨hm, rfl⟩ := rangeD_get hd
        array_get_dec
        refine ⟨n, p, m, by rw [Int.zero_add], hp2, hp64, by omega, ?_⟩
        array_get_dec
        exact hK
      · array_get_dec
        rw [rangeD_len]
        have e8 : (((8 : Int) - 0)).toNat = 8 := rfl
        rw [e8]
        have eX : PyData.list ((List.range 8).map (fun m => I (cnt p n m))) = IL ((List.range 8).map (cnt p n)) := by
          show _ = PyData.list (List.map _ (List.map _ _))
          rw [List.map_map]; rfl
        refine exact_of ?_ (by rw [eX]; exact plIL (by rw [List.length_map, List.length_range]; decide)) ?_
        · congr 1
          apply List.map_congr_left
          intro m hm
          rw [← (f3 hp hn).2 m (List.mem_range.mp hm)]
        array_get_dec
        exact h _ ⟨_, _, _, _, _, _, _, _, _, _, _, _, _, _, _, hst, rfl⟩
  rintro _ ⟨st, s6, s8, s9, s10, s11, s12, s13, s14, s15, s16, s17, s18, s19, s20, hst, rfl⟩
  refine cut (fun ρ => ∃ t : Nat, t < n + 1 ∧ (fun ρ => ∃ (st : D) (s6 s9 s10 s11 s12 s13 s14 s15 s16 s17 s18 s19 s20 : Sl), St01 st ∧ ρ = [.fz (.list (ns.map .int)), .ow st, .fz (.int (0 + (k : Int))), .fz (I p), .fz (I n), .fz (IL (Row n)), s6, .fz (IL (Hts p n)), .fz (I t), s9, s10, s11, s12, s13, s14, s15, s16, s17, s18, s19, s20]) ρ) (fun r h => ?_) ?_
  · array_get_dec
    have hlog : ((n : Int) + 1).natAbs.log2 < 9000 := by
      have := Nat.log2_le_self ((n : Int) + 1).natAbs
      omega
    refine ⟨st, ns, (n : Int) + 1, rfl, hst, by omega, hlog, fun digit st' h0 h1 hst' => ?_⟩
    obtain ⟨t, rfl⟩ := Int.eq_ofNat_of_zero_le h0
    array_get_dec
    exact h _ ⟨t, by omega, ⟨_, _, _, _, _, _, _, _, _, _, _, _, _, _, hst', rfl⟩⟩
  rintro _ ⟨t, ht, st, s6, s9, s10, s11, s12, s13, s14, s15, s16, s17, s18, s19, s20, hst, rfl⟩
  refine cut (fun ρ => ∃ (st : D) (s6 s9 s10 s11 s12 s13 s14 s15 s16 s17 s18 s19 s20 : Sl), St01 st ∧ ρ = [.fz (.list (ns.map .int)), .ow st, .fz (.int (0 + (k : Int))), .fz (I p), .fz (I n), .fz (IL (Row n)), s6, .fz (IL (Hts p n)), .fz (I t), s9, s10, s11, s12, s13, s14, s15, s16, s17, s18, s19, s20]) (fun r h => ?_) ?_
  · array_get_dec
    have hRl : (Row n).length = n + 1 := by unfold Row; simp
    refine ⟨_, IL_at (by omega), ?_⟩
    array_get_dec
    refine ⟨by decide, n, t, rfl, by omega, ?_⟩
    array_get_dec
    refine ⟨n, -1, rfl, by omega, ?_⟩
    array_get_dec
    refine ⟨n, (n : Int) + 1, rfl, by omega, ?_⟩
    array_get_dec
    refine ⟨by decide, ?_⟩
    rw [if_neg (by omega), if_pos (by omega), Int.toNat_natCast, f5 hn ht]
    have eR : (Row n).getD t 0 = b n t := by
      apply getD_of
      unfold Row
      rw [List.getElem?_map, List.getElem?_range ht]; rfl
    rw [eR]
    rw [if_pos (by omega)]
    refine exact_of rfl rfl ?_
    array_get_dec
    exact h _ ⟨_, _, _, _, _, _, _, _, _, _, _, _, _, _, hst, rfl⟩
  rintro _ ⟨st, s6, s9, s10, s11, s12, s13, s14, s15, s16, s17, s18, s19, s20, hst, rfl⟩
  refine cut (fun ρ => ∃ (st : D) (s6 s9 s10 s11 s12 s13 s14 s15 s16 s17 s18 s19 s20 : Sl), St01 st ∧ ρ = [.fz (.list (ns.map .int)), .ow st, .fz (.int (0 + (k : Int))), .fz (I p), .fz (I n), .fz (IL (Row n)), s6, .fz (IL (Hts p n)), .fz (I t), s9, s10, s11, s12, s13, s14, s15, s16, s17, s18, s19, s20]) (fun r h => ?_) ?_
  · array_get_dec
    by_cases h2 : 2 ≤ n
    · rw [if_pos (by omega)]
      have hRl : (Row n).length = n + 1 := by unfold Row; simp
      have eR : ∀ t, t < n + 1 → (Row n).getD t 0 = b n t := fun t ht => by
        apply getD_of
        unfold Row
        rw [List.getElem?_map, List.getElem?_range ht]; rfl
      refine ⟨_, IL_at (i := 1) (by omega), ?_⟩
      rw [eR 1 (by omega)]
      array_get_dec
      have eC : PL.cutD ((Row n).map I) (some 1) (some (n : Int)) = ((List.range (n - 1)).map fun j => I (b n (j + 1))) := by
        rw [show (Row n).map I = (List.range (n + 1)).map (fun j => I (b n j)) by unfold Row; rw [List.map_map]; rfl]
        exact cut_row (fun j => I (b n j)) n h2
      rw [eC]
      refine for_mk (fun i ρ => ∃ s6 s10, ρ = [.fz (.list (ns.map .int)), .ow st, .fz (.int (0 + (k : Int))), .fz (I p), .fz (I n), .fz (IL (Row n)), s6, .fz (IL (Hts p n)), .fz (I t), .fz (I ((List.range i).foldl (fun c j => Nat.gcd (b n (j + 1)) c) (b n 1))), s10, s11, s12, s13, s14, s15, s16, s17, s18, s19, s20]) ⟨_, _, rfl⟩ ?_ ?_
      · rintro i d _ hd ⟨s6, s10, rfl⟩ r2 hr2
        rw [List.getElem?_map] at hd
        obtain ⟨j, hj, rfl⟩ := Option.map_eq_some_iff.mp hd
        obtain ⟨hj1, hj2⟩ := List.getElem?_eq_some_iff.mp hj
        rw [List.length_range] at hj1
        rw [List.getElem_range] at hj2
        subst hj2
        array_get_dec
        generalize hc : (List.range i).foldl (fun c j => Nat.gcd (b n (j + 1)) c) (b n 1) = c
        have hc2 : (List.range (i + 1)).foldl (fun c j => Nat.gcd (b n (j + 1)) c) (b n 1) = Nat.gcd (b n (i + 1)) c := by
          rw [List.range_succ, List.foldl_append, hc]; rfl
        refine wh_mk (fun m ρ => ∃ x s10, Nat.gcd m x = Nat.gcd (b n (i + 1)) c ∧ ρ = [.fz (.list (ns.map .int)), .ow st, .fz (.int (0 + (k : Int))), .fz (I p), .fz (I n), .fz (IL (Row n)), .fz (I m), .fz (IL (Hts p n)), .fz (I t), .fz (I x), s10, s11, s12, s13, s14, s15, s16, s17, s18, s19, s20]) (b n (i + 1)) ⟨c, _, rfl, rfl⟩ ?_
        rintro y _ ⟨x, s10, eg, rfl⟩ r3 hr3
        array_get_dec
        by_cases hy : y = 0
        · subst hy
          rw [if_neg (by decide)]
          rw [Nat.gcd_zero_left] at eg
          rw [eg, ← hc2]
          exact hr2 _ ⟨_, _, rfl⟩
        · rw [if_pos (by omega)]
          refine ⟨by omega, ?_⟩
          rw [pmodN (by omega)]
          have hlt : x % y < y := Nat.mod_lt _ (by omega)
          refine hr3 (x % y) _ hlt ⟨y, _, ?_, rfl⟩
          rw [← eg]
          exact (Nat.gcd_rec y x).symm
      · rintro _ ⟨s6, s10, rfl⟩
        array_get_dec
        rw [List.length_map, List.length_range, f6 hn h2]
        refine ⟨n, rfl, h2, by omega, ?_⟩
        refine exact_of rfl rfl ?_
        array_get_dec
        exact h _ ⟨_, _, _, _, _, _, _, _, _, _, _, _, _, _, hst, rfl⟩
    · rw [if_neg (by omega)]
      exact h _ ⟨_, _, _, _, _, _, _, _, _, _, _, _, _, _, hst, rfl⟩
  rintro _ ⟨st, s6, s9, s10, s11, s12, s13, s14, s15, s16, s17, s18, s19, s20, hst, rfl⟩
  refine cut (fun ρ => ∃ g : Nat, g < 1000000000 ∧ (fun ρ => ∃ (st : D) (s6 s9 s10 s12 s13 s14 s15 s16 s17 s18 s19 s20 : Sl), St01 st ∧ ρ = [.fz (.list (ns.map .int)), .ow st, .fz (.int (0 + (k : Int))), .fz (I p), .fz (I n), .fz (IL (Row n)), s6, .fz (IL (Hts p n)), .fz (I t), s9, s10, .fz (I g), s12, s13, s14, s15, s16, s17, s18, s19, s20]) ρ) (fun r h => ?_) ?_
  · array_get_dec
    refine ⟨⟨by decide, by decide, by decide⟩, st, ns, _, rfl, hst, by decide, by decide, fun digit st' h0 h1 hst' => ?_⟩
    obtain ⟨g, rfl⟩ := Int.eq_ofNat_of_zero_le h0
    have hg : (10 : Int) ^ Int.toNat 9 = 1000000000 := by decide
    rw [hg] at h1
    array_get_dec
    exact h _ ⟨g, by omega, ⟨_, _, _, _, _, _, _, _, _, _, _, _, _, hst', rfl⟩⟩
  rintro _ ⟨g, hg, st, s6, s9, s10, s12, s13, s14, s15, s16, s17, s18, s19, s20, hst, rfl⟩
  refine cut (fun ρ => ∃ (st : D) (s6 s9 s10 s13 s14 s15 s16 s17 s18 s19 s20 : Sl), St01 st ∧ ρ = [.fz (.list (ns.map .int)), .ow st, .fz (.int (0 + (k : Int))), .fz (I p), .fz (I n), .fz (IL (Row n)), s6, .fz (IL (Hts p n)), .fz (I t), s9, s10, .fz (I g), .fz (I 1), s13, s14, s15, s16, s17, s18, s19, s20]) (fun r h => ?_) ?_
  · array_get_dec
    exact h _ ⟨_, _, _, _, _, _, _, _, _, _, _, _, hst, rfl⟩
  rintro _ ⟨st, s6, s9, s10, s13, s14, s15, s16, s17, s18, s19, s20, hst, rfl⟩
  refine cut (fun ρ => ∃ (st : D) (s6 s9 s10 s13 s14 s15 s16 s17 s18 s19 s20 : Sl), St01 st ∧ ρ = [.fz (.list (ns.map .int)), .ow st, .fz (.int (0 + (k : Int))), .fz (I p), .fz (I n), .fz (IL (Row n)), s6, .fz (IL (Hts p n)), .fz (I t), s9, s10, .fz (I g), .fz (I (cnd p g)), s13, s14, s15, s16, s17, s18, s19, s20]) (fun r h => ?_) ?_
  · array_get_dec
    refine ⟨g, p, rfl, hp2, hp64, by omega, ?_⟩
    array_get_dec
    refine for_mk (fun i ρ => ∃ s13, ρ = [.fz (.list (ns.map .int)), .ow st, .fz (.int (0 + (k : Int))), .fz (I p), .fz (I n), .fz (IL (Row n)), s6, .fz (IL (Hts p n)), .fz (I t), s9, s10, .fz (I g), .fz (I (((dg 60 p g).take i).foldl (fun t d => t * (d + 1)) 1)), s13, s14, s15, s16, s17, s18, s19, s20]) ⟨_, rfl⟩ ?_ ?_
    · rintro i d _ hd ⟨s13, rfl⟩ r2 hr2
      rw [List.getElem?_map] at hd
      obtain ⟨x, hx, rfl⟩ := Option.map_eq_some_iff.mp hd
      have hxp := dg_mem 60 p g x (by omega) (List.mem_of_getElem? hx)
      array_get_dec
      refine ⟨mulR ⟨by omega, by omega⟩, hr2 _ ⟨.fz (I x), ?_⟩⟩
      rw [fold_take hx]
      rfl
    · rintro _ ⟨s13, rfl⟩
      array_get_dec
      rw [List.length_map, List.take_length]
      exact h _ ⟨_, _, _, _, _, _, _, _, _, _, _, _, hst, rfl⟩
  rintro _ ⟨st, s6, s9, s10, s13, s14, s15, s16, s17, s18, s19, s20, hst, rfl⟩
  refine cut (fun ρ => ∃ (st : D) (s6 s9 s10 s13 s14 s15 s16 s17 s18 s19 s20 : Sl), St01 st ∧ ρ = [.fz (.list (ns.map .int)), .ow st, .fz (.int (0 + (k : Int))), .fz (I p), .fz (I n), .fz (IL (Row n)), s6, .fz (IL (Hts p n)), .fz (I t), s9, s10, .fz (I g), .fz (I (cnd p g)), s13, s14, s15, s16, s17, s18, s19, s20]) (fun r h => ?_) ?_
  · array_get_dec
    refine ⟨g, p, rfl, hp2, hp64, by omega, ?_⟩
    array_get_dec
    refine exact_of rfl rfl ?_
    array_get_dec
    refine ⟨by decide, by decide, lc_mk (ρ0 := _) (fun m => I (getN (cw p g).1 m)) (by rw [rangeD_len]; decide) rfl ?_ ?_⟩
    · rintro m d hd K hK
      obtain ⟨hm, rfl⟩ := rangeD_get hd
      array_get_dec
      refine ⟨g, p, m, by rw [Int.zero_add], hp2, hp64, by omega, ?_⟩
      array_get_dec
      exact hK
    · array_get_dec
      rw [rangeD_len]
      refine ⟨(List.range 40).map (fun m => ((getN (cw p g).1 m : Nat) : Int)), by rw [List.map_map]; rfl, ?_⟩
      have es : ((List.range 40).map (fun m => ((getN (cw p g).1 m : Nat) : Int))).sum = (g : Int) + 1 := by
        have := sum_cw (p := p) (n := g) hp2 (by omega)
        rw [sum_cast, this]; rfl
      rw [es]
      array_get_dec
      exact h _ ⟨_, _, _, _, _, _, _, _, _, _, _, _, hst, rfl⟩
  rintro _ ⟨st, s6, s9, s10, s13, s14, s15, s16, s17, s18, s19, s20, hst, rfl⟩
  refine cut (fun ρ => ∃ x y : Nat, x < 1000000 ∧ y < 1000000 ∧ (fun ρ => ∃ (st : D) (s6 s9 s10 s13 s16 s17 s18 s19 s20 : Sl), St01 st ∧ ρ = [.fz (.list (ns.map .int)), .ow st, .fz (.int (0 + (k : Int))), .fz (I p), .fz (I n), .fz (IL (Row n)), s6, .fz (IL (Hts p n)), .fz (I t), s9, s10, .fz (I g), .fz (I (cnd p g)), s13, .fz (I x), .fz (I y), s16, s17, s18, s19, s20]) ρ) (fun r h => ?_) ?_
  · have h6 : (10 : Int) ^ Int.toNat 6 = 1000000 := by decide
    array_get_dec
    refine ⟨⟨by decide, by decide, by decide⟩, st, ns, _, rfl, hst, by decide, by decide, fun digit st' h0 h1 hst' => ?_⟩
    obtain ⟨x, rfl⟩ := Int.eq_ofNat_of_zero_le h0
    rw [h6] at h1
    array_get_dec
    refine ⟨⟨by decide, by decide, by decide⟩, st', ns, _, rfl, hst', by decide, by decide, fun digit st'' h2 h3 hst'' => ?_⟩
    obtain ⟨y, rfl⟩ := Int.eq_ofNat_of_zero_le h2
    rw [h6] at h3
    array_get_dec
    exact ⟨by decide, h _ ⟨x, y, by omega, by omega, ⟨_, _, _, _, _, _, _, _, _, _, hst'', rfl⟩⟩⟩
  rintro _ ⟨x, y, hx, hy, st, s6, s9, s10, s13, s16, s17, s18, s19, s20, hst, rfl⟩
  refine cut (fun ρ => ∃ (st : D) (s9 s10 s13 s19 s20 : Sl), St01 st ∧ ρ = [.fz (.list (ns.map .int)), .ow st, .fz (.int (0 + (k : Int))), .fz (I p), .fz (I n), .fz (IL (Row n)), .fz (I x), .fz (IL (Hts p n)), .fz (I t), s9, s10, .fz (I g), .fz (I (cnd p g)), s13, .fz (I x), .fz (I y), .fz (I 0), .fz (I 0), .fz (I y), s19, s20]) (fun r h => ?_) ?_
  · array_get_dec
    exact ⟨by decide, h _ ⟨_, _, _, _, _, _, hst, rfl⟩⟩
  rintro _ ⟨st, s9, s10, s13, s19, s20, hst, rfl⟩
  refine cut (fun ρ => ∃ (st : D) (s6 s9 s10 s13 s16 s18 s19 s20 : Sl), St01 st ∧ ρ = [.fz (.list (ns.map .int)), .ow st, .fz (.int (0 + (k : Int))), .fz (I p), .fz (I n), .fz (IL (Row n)), s6, .fz (IL (Hts p n)), .fz (I t), s9, s10, .fz (I g), .fz (I (cnd p g)), s13, .fz (I x), .fz (I y), s16, .fz (I (carr 62 p x y 0)), s18, s19, s20]) (fun r h => ?_) ?_
  · refine wh_mk (fun m ρ => ∃ u v c z : Nat, c ≤ 1 ∧ z + carr m p u v c = carr 62 p x y 0 ∧ ((1 ≤ m ∧ u < p ^ (m - 1) ∧ v < p ^ (m - 1)) ∨ (u = 0 ∧ v = 0 ∧ c = 0)) ∧ ρ = [.fz (.list (ns.map .int)), .ow st, .fz (.int (0 + (k : Int))), .fz (I p), .fz (I n), .fz (IL (Row n)), .fz (I u), .fz (IL (Hts p n)), .fz (I t), s9, s10, .fz (I g), .fz (I (cnd p g)), s13, .fz (I x), .fz (I y), .fz (I c), .fz (I z), .fz (I v), s19, s20]) 62 ⟨x, y, 0, 0, by omega, by rw [Nat.zero_add], .inl ⟨by omega, ?_, ?_⟩, rfl⟩ ?_
    · exact Nat.lt_of_lt_of_le (Nat.lt_trans hx (by decide)) (Nat.pow_le_pow_left hp2 61)
    · exact Nat.lt_of_lt_of_le (Nat.lt_trans hy (by decide)) (Nat.pow_le_pow_left hp2 61)
    rintro m _ ⟨u, v, c, z, hc, e, hm, rfl⟩ r2 hr2
    array_get_dec
    by_cases h0 : u + v + c = 0
    · rw [if_neg (by omega)]
      have hu : u = 0 := by omega
      have hv : v = 0 := by omega
      subst hu hv
      rw [carr_end m p 0 0 c rfl rfl hc hp2, Nat.add_zero] at e
      rw [e]
      exact h _ ⟨_, _, _, _, _, _, _, _, _, hst, rfl⟩
    · rw [if_pos (by omega)]
      refine ⟨by omega, by omega, ?_⟩
      array_get_dec
      rw [pmodN (by omega), pmodN (by omega), pdivN (by omega), pdivN (by omega)]
      have ec : (if (p : Int) ≤ ((u % p : Nat) : Int) + ((v % p : Nat) : Int) + (c : Int) then (1 : Int) else 0) = ((cy p u v c : Nat) : Int) := by
        unfold cy
        split
        · rw [if_pos (by omega)]; rfl
        · rw [if_neg (by omega)]; rfl
      rw [ec]
      rcases hm with ⟨h1, h2, h3⟩ | ⟨h1, h2, h3⟩
      · cases m with
        | zero => omega
        | succ m =>
          rw [Nat.add_sub_cancel] at h2 h3
          rw [carr_step hp2] at e
          refine ⟨divOk (by omega) (by omega), divOk (by omega) (by omega), by decide, hr2 m _ (by omega) ⟨u / p, v / p, cy p u v c, z + cy p u v c, cy_le _ _ _ _, by rw [Nat.add_assoc]; exact e, ?_, rfl⟩⟩
          cases m with
          | zero =>
            rw [Nat.pow_zero] at h2 h3
            have hu : u = 0 := by omega
            have hv : v = 0 := by omega
            subst hu hv
            refine .inr ⟨Nat.zero_div _, Nat.zero_div _, ?_⟩
            unfold cy
            rw [if_neg (by rw [Nat.zero_mod]; omega)]
          | succ m =>
            rw [Nat.pow_succ] at h2 h3
            exact .inl ⟨by omega, (Nat.div_lt_iff_lt_mul (by omega)).mpr h2, (Nat.div_lt_iff_lt_mul (by omega)).mpr h3⟩
      · omega
  rintro _ ⟨st, s6, s9, s10, s13, s16, s18, s19, s20, hst, rfl⟩
  array_get_dec
  refine ⟨by decide, x, y, p, rfl, hp2, hp64, by omega, by omega, ?_⟩
  array_get_dec
  refine ⟨x + y, x, p, by rw [Int.natCast_add], by omega, hp2, hp64, by omega, ?_⟩
  rw [Nat.add_sub_cancel_left]
  array_get_dec
  refine ⟨by decide, ?_⟩
  refine exact_of rfl rfl ?_
  array_get_dec
  exact hr _ ⟨_, _, _, _, _, _, _, _, _, _, _, _, _, _, _, _, _, _, _, _, hst, rfl⟩
abbrev st_figures : Stmt := topS 1
theorem sc_figures : FnScope ["number", "p", "told"] ["number", "p"] (defScope st_figures) := ⟨rfl, rfl, rfl, by decide +kernel, rfl, by decide +kernel, by decide +kernel⟩
theorem d_figures {P : Program} {w : World} {K : PySem.W.Frag} {mg : Str → Option Value} {base : Heap} {k : Nat} (bi : Bi mg) {fs : FS} {f : Addr} {fd : FuncData} (F : Fun K "figures" "figures" st_figures f fd) (hb : Binds K fd ["number", "p"] []) (hm : mg "figures" = some (.ref f))
    (h : ∀ ds Q, fs ds Q → p_figures (endsF ms_figures Q) (initS 3 ms_figures ds)) : Fn P w K mg base (k + 1) "figures" ms_figures false fs := by
  refine Fn.mk2 (ts := ([2] ++ (([] ++ [0]) ++ []))) F sc_figures hb hm rfl ?chk fun cdv A outer s H E hr => ⟨_, ?der, h⟩
  case der =>
    have nd := (sc_figures).nd
    exact (ss_cons (st_so 2 nd (f_lst sa_nil))
    (ss_cons (st_while PassesOwn.never (t_cmp opd_gt (s_var 0) s_int) (ss_cons (st_expr (s_mt 2 mo_append PySem.F.slot_list_append PySem.F.type_list_append (sa_cons (s_bin opd_mod (s_var 0) (s_var 1)) sa_nil)))
    (ss_one (st_sf 0 nd (s_bin opd_div (s_var 0) (s_var 1))))))
    (ss_one (st_ret (s_var 2)))))
  case chk => rfl
abbrev st_figure_at : Stmt := topS 2
theorem sc_figure_at : FnScope ["row", "at"] ["row", "at"] (defScope st_figure_at) := ⟨rfl, rfl, rfl, by decide +kernel, rfl, by decide +kernel, by decide +kernel⟩
theorem d_figure_at {P : Program} {w : World} {K : PySem.W.Frag} {mg : Str → Option Value} {base : Heap} {k : Nat} (bi : Bi mg) {fs : FS} {f : Addr} {fd : FuncData} (F : Fun K "figure_at" "figure_at" st_figure_at f fd) (hb : Binds K fd ["row", "at"] []) (hm : mg "figure_at" = some (.ref f))
    (h : ∀ ds Q, fs ds Q → p_figure_at (endsF ms_figure_at Q) (initS 2 ms_figure_at ds)) : Fn P w K mg base (k + 1) "figure_at" ms_figure_at false fs := by
  refine Fn.mk2 (ts := []) F sc_figure_at hb hm rfl ?chk fun cdv A outer s H E hr => ⟨_, ?der, h⟩
  case der =>
    have nd := (sc_figure_at).nd
    exact (ss_one (st_ret (s_if (t_cmp opd_lt (s_var 1) (s_cb (cd_len) (by rfl) bi.len (by decide +kernel) (sa_cons (s_var 0) sa_nil))) (s_ix (s_var 0) (s_var 1)) s_int)))
  case chk => rfl
abbrev st_carries_in : Stmt := topS 3
theorem sc_carries_in : FnScope ["one", "other", "p", "first", "second", "told", "carry", "at"] ["one", "other", "p"] (defScope st_carries_in) := ⟨rfl, rfl, rfl, by decide +kernel, rfl, by decide +kernel, by decide +kernel⟩
theorem d_carries_in {P : Program} {w : World} {K : PySem.W.Frag} {mg : Str → Option Value} {base : Heap} {k : Nat} (bi : Bi mg) (h_figure_at : Fn P w K mg base k "figure_at" ms_figure_at false fs_figure_at) (h_figures : Fn P w K mg base k "figures" ms_figures false fs_figures) {fs : FS} {f : Addr} {fd : FuncData} (F : Fun K "carries_in" "carries_in" st_carries_in f fd) (hb : Binds K fd ["one", "other", "p"] []) (hm : mg "carries_in" = some (.ref f))
    (h : ∀ ds Q, fs ds Q → p_carries_in (endsF ms_carries_in Q) (initS 8 ms_carries_in ds)) : Fn P w K mg base (k + 1) "carries_in" ms_carries_in false fs := by
  refine Fn.mk2 (ts := ([3, 4] ++ ([5] ++ ([6] ++ (([7] ++ ([6] ++ [5])) ++ []))))) F sc_carries_in hb hm rfl ?chk fun cdv A outer s H E hr => ⟨_, ?der, h⟩
  case der =>
    have nd := (sc_carries_in).nd
    exact (ss_cons (st_par2 3 4 rfl nd (sb_e (s_call (h_figures) hr (by rfl) (sa_cons (s_var 0) (sa_cons (s_var 2) sa_nil))) (sb_e (s_call (h_figures) hr (by rfl) (sa_cons (s_var 1) (sa_cons (s_var 2) sa_nil))) sb_nil)))
    (ss_cons (st_sf 5 nd s_int)
    (ss_cons (st_sf 6 nd s_int)
    (ss_cons (st_for PassesOwn.never rfl (i_range1 (by rfl) bi.range (sa_cons (s_bin opd_add (s_cb (cd_max rfl) (by rfl) bi.max (by decide +kernel) (sa_cons (s_cb (cd_len) (by rfl) bi.len (by decide +kernel) (sa_cons (s_var 3) sa_nil)) (sa_cons (s_cb (cd_len) (by rfl) bi.len (by decide +kernel) (sa_cons (s_var 4) sa_nil)) sa_nil))) s_int) sa_nil)) (g_name 7 nd) (ss_cons (st_sf 6 nd (s_ct (cd_int) (by rfl) bi.int (by decide +kernel) (sa_cons (s_cmp opd_ge (s_bin opd_add (s_bin opd_add (s_call (h_figure_at) hr (by rfl) (sa_cons (s_var 3) (sa_cons (s_var 7) sa_nil))) (s_call (h_figure_at) hr (by rfl) (sa_cons (s_var 4) (sa_cons (s_var 7) sa_nil)))) (s_var 6)) (s_var 2)) sa_nil)))
    (ss_one (st_sf 5 nd (s_bin opd_add (s_var 5) (s_var 6))))))
    (ss_one (st_ret (s_var 5)))))))
  case chk => rfl
abbrev st_choice_height : Stmt := topS 4
theorem sc_choice_height : FnScope ["n", "k", "p"] ["n", "k", "p"] (defScope st_choice_height) := ⟨rfl, rfl, rfl, by decide +kernel, rfl, by decide +kernel, by decide +kernel⟩
theorem d_choice_height {P : Program} {w : World} {K : PySem.W.Frag} {mg : Str → Option Value} {base : Heap} {k : Nat} (bi : Bi mg) (h_carries_in : Fn P w K mg base k "carries_in" ms_carries_in false fs_carries_in) {fs : FS} {f : Addr} {fd : FuncData} (F : Fun K "choice_height" "choice_height" st_choice_height f fd) (hb : Binds K fd ["n", "k", "p"] []) (hm : mg "choice_height" = some (.ref f))
    (h : ∀ ds Q, fs ds Q → p_choice_height (endsF ms_choice_height Q) (initS 3 ms_choice_height ds)) : Fn P w K mg base (k + 1) "choice_height" ms_choice_height false fs := by
  refine Fn.mk2 (ts := []) F sc_choice_height hb hm rfl ?chk fun cdv A outer s H E hr => ⟨_, ?der, h⟩
  case der =>
    have nd := (sc_choice_height).nd
    exact (ss_one (st_ret (s_call (h_carries_in) hr (by rfl) (sa_cons (s_var 1) (sa_cons (s_bin opd_sub (s_var 0) (s_var 1)) (sa_cons (s_var 2) sa_nil))))))
  case chk => rfl
abbrev st_small_choose : Stmt := topS 5
theorem sc_small_choose : FnScope ["n", "k", "told", "at"] ["n", "k"] (defScope st_small_choose) := ⟨rfl, rfl, rfl, by decide +kernel, rfl, by decide +kernel, by decide +kernel⟩
theorem d_small_choose {P : Program} {w : World} {K : PySem.W.Frag} {mg : Str → Option Value} {base : Heap} {k : Nat} (bi : Bi mg) {fs : FS} {f : Addr} {fd : FuncData} (F : Fun K "small_choose" "small_choose" st_small_choose f fd) (hb : Binds K fd ["n", "k"] []) (hm : mg "small_choose" = some (.ref f))
    (h : ∀ ds Q, fs ds Q → p_small_choose (endsF ms_small_choose Q) (initS 4 ms_small_choose ds)) : Fn P w K mg base (k + 1) "small_choose" ms_small_choose false fs := by
  refine Fn.mk2 (ts := (([] ++ []) ++ ([2] ++ (([3] ++ [2]) ++ [])))) F sc_small_choose hb hm rfl ?chk fun cdv A outer s H E hr => ⟨_, ?der, h⟩
  case der =>
    have nd := (sc_small_choose).nd
    exact (ss_cons (st_if ((w_or (t_cmp opd_lt (s_var 1) s_int) (w_or1 (t_cmp opd_gt (s_var 1) (s_var 0))))).t (ss_one (st_ret s_int)) ss_nil)
    (ss_cons (st_sf 2 nd s_int)
    (ss_cons (st_for PassesOwn.never rfl (i_range1 (by rfl) bi.range (sa_cons (s_var 1) sa_nil)) (g_name 3 nd) (ss_one (st_sf 2 nd (s_bin opd_div (s_bin opd_mul (s_var 2) (s_bin opd_sub (s_var 0) (s_var 3))) (s_bin opd_add (s_var 3) s_int)))))
    (ss_one (st_ret (s_var 2))))))
  case chk => rfl
abbrev st_choice_rest : Stmt := topS 6
theorem sc_choice_rest : FnScope ["n", "k", "p", "first", "second", "told", "at"] ["n", "k", "p"] (defScope st_choice_rest) := ⟨rfl, rfl, rfl, by decide +kernel, rfl, by decide +kernel, by decide +kernel⟩
theorem d_choice_rest {P : Program} {w : World} {K : PySem.W.Frag} {mg : Str → Option Value} {base : Heap} {k : Nat} (bi : Bi mg) (h_figure_at : Fn P w K mg base k "figure_at" ms_figure_at false fs_figure_at) (h_small_choose : Fn P w K mg base k "small_choose" ms_small_choose false fs_small_choose) (h_figures : Fn P w K mg base k "figures" ms_figures false fs_figures) {fs : FS} {f : Addr} {fd : FuncData} (F : Fun K "choice_rest" "choice_rest" st_choice_rest f fd) (hb : Binds K fd ["n", "k", "p"] []) (hm : mg "choice_rest" = some (.ref f))
    (h : ∀ ds Q, fs ds Q → p_choice_rest (endsF ms_choice_rest Q) (initS 7 ms_choice_rest ds)) : Fn P w K mg base (k + 1) "choice_rest" ms_choice_rest false fs := by
  refine Fn.mk2 (ts := ([3, 4] ++ (([] ++ []) ++ ([5] ++ (([6] ++ [5]) ++ []))))) F sc_choice_rest hb hm rfl ?chk fun cdv A outer s H E hr => ⟨_, ?der, h⟩
  case der =>
    have nd := (sc_choice_rest).nd
    exact (ss_cons (st_par2 3 4 rfl nd (sb_e (s_call (h_figures) hr (by rfl) (sa_cons (s_var 0) (sa_cons (s_var 2) sa_nil))) (sb_e (s_call (h_figures) hr (by rfl) (sa_cons (s_var 1) (sa_cons (s_var 2) sa_nil))) sb_nil)))
    (ss_cons (st_if (t_cmp opd_gt (s_cb (cd_len) (by rfl) bi.len (by decide +kernel) (sa_cons (s_var 4) sa_nil)) (s_cb (cd_len) (by rfl) bi.len (by decide +kernel) (sa_cons (s_var 3) sa_nil))) (ss_one (st_ret s_int)) ss_nil)
    (ss_cons (st_sf 5 nd s_int)
    (ss_cons (st_for PassesOwn.never rfl (i_range1 (by rfl) bi.range (sa_cons (s_cb (cd_len) (by rfl) bi.len (by decide +kernel) (sa_cons (s_var 3) sa_nil)) sa_nil)) (g_name 6 nd) (ss_one (st_sf 5 nd (s_bin opd_mod (s_bin opd_mul (s_var 5) (s_call (h_small_choose) hr (by rfl) (sa_cons (s_ix (s_var 3) (s_var 6)) (sa_cons (s_call (h_figure_at) hr (by rfl) (sa_cons (s_var 4) (sa_cons (s_var 6) sa_nil))) sa_nil)))) (s_var 2)))))
    (ss_one (st_ret (s_var 5)))))))
  case chk => rfl
abbrev st_count_not_divided : Stmt := topS 7
theorem sc_count_not_divided : FnScope ["n", "p", "told", "digit"] ["n", "p"] (defScope st_count_not_divided) := ⟨rfl, rfl, rfl, by decide +kernel, rfl, by decide +kernel, by decide +kernel⟩
theorem d_count_not_divided {P : Program} {w : World} {K : PySem.W.Frag} {mg : Str → Option Value} {base : Heap} {k : Nat} (bi : Bi mg) (h_figures : Fn P w K mg base k "figures" ms_figures false fs_figures) {fs : FS} {f : Addr} {fd : FuncData} (F : Fun K "count_not_divided" "count_not_divided" st_count_not_divided f fd) (hb : Binds K fd ["n", "p"] []) (hm : mg "count_not_divided" = some (.ref f))
    (h : ∀ ds Q, fs ds Q → p_count_not_divided (endsF ms_count_not_divided Q) (initS 4 ms_count_not_divided ds)) : Fn P w K mg base (k + 1) "count_not_divided" ms_count_not_divided false fs := by
  refine Fn.mk2 (ts := ([2] ++ (([3] ++ [2]) ++ []))) F sc_count_not_divided hb hm rfl ?chk fun cdv A outer s H E hr => ⟨_, ?der, h⟩
  case der =>
    have nd := (sc_count_not_divided).nd
    exact (ss_cons (st_sf 2 nd s_int)
    (ss_cons (st_for PassesOwn.never rfl (i_seq (s_call (h_figures) hr (by rfl) (sa_cons (s_var 0) (sa_cons (s_var 1) sa_nil)))) (g_name 3 nd) (ss_one (st_sf 2 nd (s_bin opd_mul (s_var 2) (s_bin opd_add (s_var 3) s_int)))))
    (ss_one (st_ret (s_var 2)))))
  case chk => rfl
abbrev st_count_with_height : Stmt := topS 8
theorem sc_count_with_height : FnScope ["n", "p", "many", "free", "held", "digit", "more_free", "more_held", "cost"] ["n", "p", "many"] (defScope st_count_with_height) := ⟨rfl, rfl, rfl, by decide +kernel, rfl, by decide +kernel, by decide +kernel⟩
theorem d_count_with_height {P : Program} {w : World} {K : PySem.W.Frag} {mg : Str → Option Value} {base : Heap} {k : Nat} (bi : Bi mg) (h_figures : Fn P w K mg base k "figures" ms_figures false fs_figures) (h_put : Fn P w K mg base k "put" ms_put false fs_put) {fs : FS} {f : Addr} {fd : FuncData} (F : Fun K "count_with_height" "count_with_height" st_count_with_height f fd) (hb : Binds K fd ["n", "p", "many"] []) (hm : mg "count_with_height" = some (.ref f))
    (h : ∀ ds Q, fs ds Q → p_count_with_height (endsF ms_count_with_height Q) (initS 9 ms_count_with_height ds)) : Fn P w K mg base (k + 1) "count_with_height" ms_count_with_height false fs := by
  refine Fn.mk2 (ts := ([3, 4] ++ (([5] ++ ([6, 7] ++ (([8] ++ ([] ++ [])) ++ (([8] ++ ([] ++ [])) ++ [3, 4])))) ++ []))) F sc_count_with_height hb hm rfl ?chk fun cdv A outer s H E hr => ⟨_, ?der, h⟩
  case der =>
    have nd := (sc_count_with_height).nd
    exact (ss_cons (st_par2 3 4 rfl nd (sb_f (f_d1 s_int) (sb_f f_dK sb_nil)))
    (ss_cons (st_for PassesOwn.never rfl (i_seq (s_call (h_figures) hr (by rfl) (sa_cons (s_var 0) (sa_cons (s_var 1) sa_nil)))) (g_name 5 nd) (ss_cons (st_par2 6 7 rfl nd (sb_f f_dK (sb_f f_dK sb_nil)))
    (ss_cons (st_lock 3 (st_for PassesOwn.never rfl (i_keysL 3) (g_name 8 nd) (ss_cons (st_expr (s_call (h_put) hr (by rfl) (sa_cons (s_var 6) (sa_cons (s_var 8) (sa_cons (s_bin opd_mul (s_dget hr (s_var 3) (s_var 8)) (s_bin opd_add (s_var 5) s_int)) sa_nil)))))
    (ss_one (st_expr (s_call (h_put) hr (by rfl) (sa_cons (s_var 7) (sa_cons (s_bin opd_add (s_var 8) s_int) (sa_cons (s_bin opd_mul (s_dget hr (s_var 3) (s_var 8)) (s_bin opd_sub (s_bin opd_sub (s_var 1) s_int) (s_var 5))) sa_nil)))))))) (by decide))
    (ss_cons (st_lock 4 (st_for PassesOwn.never rfl (i_keysL 4) (g_name 8 nd) (ss_cons (st_expr (s_call (h_put) hr (by rfl) (sa_cons (s_var 6) (sa_cons (s_var 8) (sa_cons (s_bin opd_mul (s_dget hr (s_var 4) (s_var 8)) (s_var 5)) sa_nil)))))
    (ss_one (st_expr (s_call (h_put) hr (by rfl) (sa_cons (s_var 7) (sa_cons (s_bin opd_add (s_var 8) s_int) (sa_cons (s_bin opd_mul (s_dget hr (s_var 4) (s_var 8)) (s_bin opd_sub (s_var 1) (s_var 5))) sa_nil)))))))) (by decide))
    (ss_one (st_par2 3 4 rfl nd (sb_mv 6 (sb_mv 7 sb_nil))))))))
    (ss_one (st_ret (s_get2 hr (s_var 3) (s_var 2) s_int)))))
  case chk => rfl
abbrev st_put : Stmt := topS 9
theorem sc_put : FnScope ["table", "key", "number"] ["table", "key", "number"] (defScope st_put) := ⟨rfl, rfl, rfl, by decide +kernel, rfl, by decide +kernel, by decide +kernel⟩
theorem d_put {P : Program} {w : World} {K : PySem.W.Frag} {mg : Str → Option Value} {base : Heap} {k : Nat} (bi : Bi mg) {fs : FS} {f : Addr} {fd : FuncData} (F : Fun K "put" "put" st_put f fd) (hb : Binds K fd ["table", "key", "number"] []) (hm : mg "put" = some (.ref f))
    (h : ∀ ds Q, fs ds Q → p_put (endsF ms_put Q) (initS 3 ms_put ds)) : Fn P w K mg base (k + 1) "put" ms_put false fs := by
  refine Fn.mk2 (ts := ([] ++ [])) F sc_put hb hm rfl ?chk fun cdv A outer s H E hr => ⟨_, ?der, h⟩
  case der =>
    have nd := (sc_put).nd
    exact (ss_one (st_if (t_cmp opd_gt (s_var 2) s_int) (ss_one (st_sub2 hr 0 (s_bin opd_add (s_get2 hr (s_var 0) (s_var 1) s_int) (s_var 2)) (s_var 1))) ss_nil))
  case chk => rfl
abbrev st_row_divisor : Stmt := topS 10
theorem sc_row_divisor : FnScope ["n", "prime"] ["n"] (defScope st_row_divisor) := ⟨rfl, rfl, rfl, by decide +kernel, rfl, by decide +kernel, by decide +kernel⟩
theorem d_row_divisor {P : Program} {w : World} {K : PySem.W.Frag} {mg : Str → Option Value} {base : Heap} {k : Nat} (bi : Bi mg) {fs : FS} {f : Addr} {fd : FuncData} (F : Fun K "row_divisor" "row_divisor" st_row_divisor f fd) (hb : Binds K fd ["n"] []) (hm : mg "row_divisor" = some (.ref f))
    (h : ∀ ds Q, fs ds Q → p_row_divisor (endsF ms_row_divisor Q) (initS 2 ms_row_divisor ds)) : Fn P w K mg base (k + 1) "row_divisor" ms_row_divisor false fs := by
  refine Fn.mk2 (ts := ([1] ++ ([1] ++ ([0] ++ [])))) F sc_row_divisor hb hm rfl ?chk fun cdv A outer s H E hr => ⟨_, ?der, h⟩
  case der =>
    have nd := (sc_row_divisor).nd
    exact (ss_cons (st_sf 1 nd s_int)
    (ss_cons (st_while PassesOwn.never (t_cmp (opd_ne hr) (s_bin opd_mod (s_var 0) (s_var 1)) s_int) (ss_one (st_sf 1 nd (s_bin opd_add (s_var 1) s_int))))
    (ss_cons (st_while PassesOwn.never (t_cmp (opd_eq hr) (s_bin opd_mod (s_var 0) (s_var 1)) s_int) (ss_one (st_sf 0 nd (s_bin opd_div (s_var 0) (s_var 1)))))
    (ss_one (st_ret (s_if (t_cmp (opd_eq hr) (s_var 0) s_int) (s_var 1) s_int))))))
  case chk => rfl
abbrev st__law_refill : Stmt := topS 12
theorem sc__law_refill : FnScope ["script", "k", "cell"] ["script", "k"] (defScope st__law_refill) := ⟨rfl, rfl, rfl, by decide +kernel, rfl, by decide +kernel, by decide +kernel⟩
theorem d__law_refill {P : Program} {w : World} {K : PySem.W.Frag} {mg : Str → Option Value} {base : Heap} {k : Nat} (bi : Bi mg) {fs : FS} {f : Addr} {fd : FuncData} (F : Fun K "_law_refill" "_law_refill" st__law_refill f fd) (hb : Binds K fd ["script", "k"] []) (hm : mg "_law_refill" = some (.ref f))
    (h : ∀ ds Q, fs ds Q → p__law_refill (endsF ms__law_refill Q) (initS 3 ms__law_refill ds)) : Fn P w K mg base (k + 1) "_law_refill" ms__law_refill false fs := by
  refine Fn.mk2 (ts := ([2] ++ (([2] ++ []) ++ (([2] ++ []) ++ (([] ++ []) ++ []))))) F sc__law_refill hb hm rfl ?chk fun cdv A outer s H E hr => ⟨_, ?der, h⟩
  case der =>
    have nd := (sc__law_refill).nd
    exact (ss_cons (st_sf 2 nd s_int)
    (ss_cons (st_if (t_tru (s_var 0)) (ss_one (st_sf 2 nd (s_ix (s_var 0) (s_bin opd_mod (s_var 1) (s_cb (cd_len) (by rfl) bi.len (by decide +kernel) (sa_cons (s_var 0) sa_nil)))))) ss_nil)
    (ss_cons (st_if (t_cmp opd_lt (s_var 2) s_int) (ss_one (st_sf 2 nd (s_bin opd_sub s_int (s_bin opd_mul s_int (s_var 2))))) ss_nil)
    (ss_cons (st_if ((w_and (t_cmp opd_ge (s_var 2) (s_bin opd_pow s_int s_int)) (w_and1 (t_cmp opd_lt (s_var 1) (s_cb (cd_len) (by rfl) bi.len (by decide +kernel) (sa_cons (s_var 0) sa_nil)))))).t (ss_one (st_ret (s_var 2))) ss_nil)
    (ss_one (st_ret (s_bin opd_mod (s_ct (cd_int) (by rfl) bi.int (by decide +kernel) (sa_cons (s_bin opd_add (s_bin opd_mul (s_ct (cd_int) (by rfl) bi.int (by decide +kernel) (sa_cons (s_bin opd_add (s_bin opd_add (s_bin opd_mul (s_var 2) s_int) (s_bin opd_mul (s_var 1) s_int)) s_int) sa_nil)) s_int) s_int) sa_nil)) s_int)))))))
  case chk => rfl
abbrev st__law_draw : Stmt := topS 13
theorem sc__law_draw : FnScope ["state", "script", "size", "digit"] ["state", "script", "size"] (defScope st__law_draw) := ⟨rfl, rfl, rfl, by decide +kernel, rfl, by decide +kernel, by decide +kernel⟩
theorem d__law_draw {P : Program} {w : World} {K : PySem.W.Frag} {mg : Str → Option Value} {base : Heap} {k : Nat} (bi : Bi mg) (h__law_refill : Fn P w K mg base k "_law_refill" ms__law_refill false fs__law_refill) {fs : FS} {f : Addr} {fd : FuncData} (F : Fun K "_law_draw" "_law_draw" st__law_draw f fd) (hb : Binds K fd ["state", "script", "size"] []) (hm : mg "_law_draw" = some (.ref f))
    (h : ∀ ds Q, fs ds Q → p__law_draw (endsF ms__law_draw Q) (initS 4 ms__law_draw ds)) : Fn P w K mg base (k + 1) "_law_draw" ms__law_draw false fs := by
  refine Fn.mk2 (ts := ((([] ++ []) ++ []) ++ ([3] ++ ([] ++ [])))) F sc__law_draw hb hm rfl ?chk fun cdv A outer s H E hr => ⟨_, ?der, h⟩
  case der =>
    have nd := (sc__law_draw).nd
    exact (ss_cons (st_if (t_cmp (opd_eq hr) (s_ix (s_var 0) s_int) s_int) (ss_cons (st_sub 0 (s_call (h__law_refill) hr (by rfl) (sa_cons (s_var 1) (sa_cons (s_ix (s_var 0) s_int) sa_nil))) s_int)
    (ss_one (st_sub 0 (s_bin opd_add (s_ix (s_var 0) s_int) s_int) s_int))) ss_nil)
    (ss_cons (st_sf 3 nd (s_bin opd_mod (s_ct (cd_int) (by rfl) bi.int (by decide +kernel) (sa_cons (s_ix (s_var 0) s_int) sa_nil)) (s_var 2)))
    (ss_cons (st_sub 0 (s_bin opd_div (s_ix (s_var 0) s_int) (s_var 2)) s_int)
    (ss_one (st_ret (s_var 3))))))
  case chk => rfl
abbrev st__law_exact : Stmt := topS 14
theorem sc__law_exact : FnScope ["first", "second", "alike", "k"] ["first", "second"] (defScope st__law_exact) := ⟨rfl, rfl, rfl, by decide +kernel, rfl, by decide +kernel, by decide +kernel⟩
theorem d__law_exact {P : Program} {w : World} {K : PySem.W.Frag} {mg : Str → Option Value} {base : Heap} {k : Nat} (bi : Bi mg) {rec__law_exact : FS} (h__law_exact : Fn P w K mg base k "_law_exact" ms__law_exact false rec__law_exact) {fs : FS} {f : Addr} {fd : FuncData} (F : Fun K "_law_exact" "_law_exact" st__law_exact f fd) (hb : Binds K fd ["first", "second"] []) (hm : mg "_law_exact" = some (.ref f))
    (h : ∀ ds Q, fs ds Q → p__law_exact rec__law_exact (endsF ms__law_exact Q) (initS 4 ms__law_exact ds)) : Fn P w K mg base (k + 1) "_law_exact" ms__law_exact false fs := by
  refine Fn.mk2 (ts := (((([] ++ []) ++ []) ++ []) ++ (([] ++ []) ++ ([2] ++ [])))) F sc__law_exact hb hm rfl ?chk fun cdv A outer s H E hr => ⟨_, ?der, h⟩
  case der =>
    have nd := (sc__law_exact).nd
    exact (ss_cons (st_if (t_tru (s_isi2 (kit_list _) (kit_tuple _) (by rfl) bi.isinstance (by rfl) bi.list (by decide +kernel) (by rfl) bi.tuple (by decide +kernel) (s_var 0))) (ss_cons (st_if ((w_or (t_cmp (opd_ne hr) (s_isi (kit_list _) (by rfl) bi.isinstance (by rfl) bi.list (by decide +kernel) (s_var 0)) (s_isi (kit_list _) (by rfl) bi.isinstance (by rfl) bi.list (by decide +kernel) (s_var 1))) (w_or1 (t_cmp (opd_ne hr) (s_isi (kit_tuple _) (by rfl) bi.isinstance (by rfl) bi.tuple (by decide +kernel) (s_var 0)) (s_isi (kit_tuple _) (by rfl) bi.isinstance (by rfl) bi.tuple (by decide +kernel) (s_var 1)))))).t (ss_one (st_ret s_bl)) ss_nil)
    (ss_one (st_ret (s_and (s_cmp (opd_eq hr) (s_cb (cd_len) (by rfl) bi.len (by decide +kernel) (sa_cons (s_var 0) sa_nil)) (s_cb (cd_len) (by rfl) bi.len (by decide +kernel) (sa_cons (s_var 1) sa_nil))) (s_one (s_cb (cd_all rfl) (by rfl) bi.all (by decide +kernel) (sa_cons ((f_lc [("k", 3)] rfl nd (i_range1 (by rfl) bi.range (sa_cons (s_cb (cd_len) (by rfl) bi.len (by decide +kernel) (sa_cons (s_var 0) sa_nil)) sa_nil)) (fun _ _ _ _ _ => (g_name 3 nd)) (fun _ _ _ _ _ => sts_nil) (fun _ _ _ _ _ => (s_call (h__law_exact) hr (by rfl) (sa_cons (s_ix (s_var 0) (s_var 3)) (sa_cons (s_ix (s_var 1) (s_var 3)) sa_nil)))) (ok := blkOk_by (N := ["first", "second", "alike", "k"]) (sc := defScope st__law_exact) (by decide +kernel)))).se sa_nil))))))) ss_nil)
    (ss_cons (st_if ((w_or (t_cmp opd_is (s_var 0) s_non) (w_or1 (t_cmp opd_is (s_var 1) s_non)))).t (ss_one (st_ret (s_and (s_cmp opd_is (s_var 0) s_non) (s_one (s_cmp opd_is (s_var 1) s_non))))) ss_nil)
    (ss_cons (st_sf 2 nd (s_and (s_cmp (opd_eq hr) (s_isi (kit_str _) (by rfl) bi.isinstance (by rfl) bi.str (by decide +kernel) (s_var 0)) (s_isi (kit_str _) (by rfl) bi.isinstance (by rfl) bi.str (by decide +kernel) (s_var 1))) (s_one (s_cmp (opd_eq hr) (s_isi (kit_bool _) (by rfl) bi.isinstance (by rfl) bi.bool (by decide +kernel) (s_var 0)) (s_isi (kit_bool _) (by rfl) bi.isinstance (by rfl) bi.bool (by decide +kernel) (s_var 1))))))
    (ss_one (st_ret (s_and (s_var 2) (s_and (s_cmp (opd_eq hr) (s_isi (kit_int _) (by rfl) bi.isinstance (by rfl) bi.int (by decide +kernel) (s_var 0)) (s_isi (kit_int _) (by rfl) bi.isinstance (by rfl) bi.int (by decide +kernel) (s_var 1))) (s_one (s_cmp (opd_eq hr) (s_var 0) (s_var 1))))))))))
  case chk => rfl
abbrev st__law_prime : Stmt := topS 15
theorem sc__law_prime : FnScope ["state", "script", "many"] ["state", "script", "many"] (defScope st__law_prime) := ⟨rfl, rfl, rfl, by decide +kernel, rfl, by decide +kernel, by decide +kernel⟩
theorem d__law_prime {P : Program} {w : World} {K : PySem.W.Frag} {mg : Str → Option Value} {base : Heap} {k : Nat} (bi : Bi mg) (h__law_draw : Fn P w K mg base k "_law_draw" ms__law_draw false fs__law_draw) {fs : FS} {f : Addr} {fd : FuncData} (F : Fun K "_law_prime" "_law_prime" st__law_prime f fd) (hb : Binds K fd ["state", "script", "many"] []) (hm : mg "_law_prime" = some (.ref f))
    (h : ∀ ds Q, fs ds Q → p__law_prime (endsF ms__law_prime Q) (initS 3 ms__law_prime ds)) : Fn P w K mg base (k + 1) "_law_prime" ms__law_prime false fs := by
  refine Fn.mk2 (ts := []) F sc__law_prime hb hm rfl ?chk fun cdv A outer s H E hr => ⟨_, ?der, h⟩
  case der =>
    have nd := (sc__law_prime).nd
    exact (ss_one (st_ret (s_ix ((f_lst (sa_cons s_int (sa_cons s_int (sa_cons s_int (sa_cons s_int (sa_cons s_int (sa_cons s_int (sa_cons s_int (sa_cons s_int (sa_cons s_int (sa_cons s_int sa_nil)))))))))))).se (s_call (h__law_draw) hr (by rfl) (sa_cons (s_var 0) (sa_cons (s_var 1) (sa_cons (s_var 2) sa_nil)))))))
  case chk => rfl
abbrev st__law_height : Stmt := topS 16
theorem sc__law_height : FnScope ["number", "p", "out"] ["number", "p"] (defScope st__law_height) := ⟨rfl, rfl, rfl, by decide +kernel, rfl, by decide +kernel, by decide +kernel⟩
theorem d__law_height {P : Program} {w : World} {K : PySem.W.Frag} {mg : Str → Option Value} {base : Heap} {k : Nat} (bi : Bi mg) {fs : FS} {f : Addr} {fd : FuncData} (F : Fun K "_law_height" "_law_height" st__law_height f fd) (hb : Binds K fd ["number", "p"] []) (hm : mg "_law_height" = some (.ref f))
    (h : ∀ ds Q, fs ds Q → p__law_height (endsF ms__law_height Q) (initS 3 ms__law_height ds)) : Fn P w K mg base (k + 1) "_law_height" ms__law_height false fs := by
  refine Fn.mk2 (ts := ([2] ++ (([0] ++ [2]) ++ []))) F sc__law_height hb hm rfl ?chk fun cdv A outer s H E hr => ⟨_, ?der, h⟩
  case der =>
    have nd := (sc__law_height).nd
    exact (ss_cons (st_sf 2 nd s_int)
    (ss_cons (st_while PassesOwn.never (t_cmp (opd_eq hr) (s_bin opd_mul (s_bin opd_div (s_var 0) (s_var 1)) (s_var 1)) (s_var 0)) (ss_cons (st_sf 0 nd (s_bin opd_div (s_var 0) (s_var 1)))
    (ss_one (st_sf 2 nd (s_bin opd_add (s_var 2) s_int)))))
    (ss_one (st_ret (s_var 2)))))
  case chk => rfl
abbrev st__law_choices : Stmt := topS 17
theorem sc__law_choices : FnScope ["n", "row", "k", "j"] ["n"] (defScope st__law_choices) := ⟨rfl, rfl, rfl, by decide +kernel, rfl, by decide +kernel, by decide +kernel⟩
theorem d__law_choices {P : Program} {w : World} {K : PySem.W.Frag} {mg : Str → Option Value} {base : Heap} {k : Nat} (bi : Bi mg) {fs : FS} {f : Addr} {fd : FuncData} (F : Fun K "_law_choices" "_law_choices" st__law_choices f fd) (hb : Binds K fd ["n"] []) (hm : mg "_law_choices" = some (.ref f))
    (h : ∀ ds Q, fs ds Q → p__law_choices (endsF ms__law_choices Q) (initS 4 ms__law_choices ds)) : Fn P w K mg base (k + 1) "_law_choices" ms__law_choices false fs := by
  refine Fn.mk2 (ts := ([1] ++ (([2] ++ [1]) ++ []))) F sc__law_choices hb hm rfl ?chk fun cdv A outer s H E hr => ⟨_, ?der, h⟩
  case der =>
    have nd := (sc__law_choices).nd
    exact (ss_cons (st_so 1 nd (f_lst (sa_cons s_int sa_nil)))
    (ss_cons (st_for PassesOwn.never rfl (i_range1 (by rfl) bi.range (sa_cons (s_var 0) sa_nil)) (g_name 2 nd) (ss_one (st_so 1 nd (s_binF opf_catL ((s_binF opf_catL ((f_lst (sa_cons s_int sa_nil))).se ((f_lc [("j", 3)] rfl nd (i_range1 (by rfl) bi.range (sa_cons (s_bin opd_sub (s_cb (cd_len) (by rfl) bi.len (by decide +kernel) (sa_cons (s_var 1) sa_nil)) s_int) sa_nil)) (fun _ _ _ _ _ => (g_name 3 nd)) (fun _ _ _ _ _ => sts_nil) (fun _ _ _ _ _ => (s_bin opd_add (s_ix (s_var 1) (s_var 3)) (s_ix (s_var 1) (s_bin opd_add (s_var 3) s_int)))) (ok := blkOk_by (N := ["n", "row", "k", "j"]) (sc := defScope st__law_choices) (by decide +kernel)))).se)).se ((f_lst (sa_cons s_int sa_nil))).se))))
    (ss_one (st_ret (s_var 1)))))
  case chk => rfl
abbrev st_law : Stmt := topS 18
theorem sc_law : FnScope ["script", "state", "k", "p", "n", "row", "one", "heights", "at", "common", "rest", "great", "product", "digit", "a", "b", "carry", "carries", "other", "j", "m"] ["script"] (defScope st_law) := ⟨rfl, rfl, rfl, by decide +kernel, rfl, by decide +kernel, by decide +kernel⟩
theorem d_law {P : Program} {w : World} {K : PySem.W.Frag} {mg : Str → Option Value} {base : Heap} {k : Nat} (bi : Bi mg) (h_choice_height : Fn P w K mg base k "choice_height" ms_choice_height false fs_choice_height) (h_carries_in : Fn P w K mg base k "carries_in" ms_carries_in false fs_carries_in) (h__law_exact : Fn P w K mg base k "_law_exact" ms__law_exact false fs__law_exact) (h__law_draw : Fn P w K mg base k "_law_draw" ms__law_draw false fs__law_draw) (h_count_not_divided : Fn P w K mg base k "count_not_divided" ms_count_not_divided false fs_count_not_divided) (h_count_with_height : Fn P w K mg base k "count_with_height" ms_count_with_height false fs_count_with_height) (h_figures : Fn P w K mg base k "figures" ms_figures false fs_figures) (h_row_divisor : Fn P w K mg base k "row_divisor" ms_row_divisor false fs_row_divisor) (h_small_choose : Fn P w K mg base k "small_choose" ms_small_choose false fs_small_choose) (h_choice_rest : Fn P w K mg base k "choice_rest" ms_choice_rest false fs_choice_rest) (h__law_height : Fn P w K mg base k "_law_height" ms__law_height false fs__law_height) (h__law_choices : Fn P w K mg base k "_law_choices" ms__law_choices false fs__law_choices) (h__law_prime : Fn P w K mg base k "_law_prime" ms__law_prime false fs__law_prime) {f : Addr} {fd : FuncData} (F : Fun K "law" "law" st_law f fd)
    (h : ∀ ds Q, fsLaw ds Q → p_law (endsF ms_law Q) (initS 21 ms_law ds)) : FnOk P w K mg base CX0 (k + 1) f fd ["script"] (spOf K ms_law false fsLaw) := by
  refine ok_mk2 (ts := ([1] ++ (([2] ++ ([3] ++ ([4] ++ ([5] ++ ([7] ++ (([] ++ []) ++ (([] ++ []) ++ (([] ++ []) ++ (([] ++ []) ++ ([8] ++ (([] ++ []) ++ ((([9] ++ (([6] ++ ([10] ++ ([9] ++ [6]))) ++ ([] ++ []))) ++ []) ++ ([11] ++ ([12] ++ (([13] ++ [12]) ++ (([] ++ []) ++ ([14, 15] ++ ([16, 17, 6, 18] ++ (([16] ++ [17, 6, 18]) ++ ([] ++ [])))))))))))))))))))) ++ []))) F sc_law rfl ?chk fun cdv A outer s H E hr => ⟨_, ?der, h⟩
  case der =>
    have nd := (sc_law).nd
    exact (ss_cons (st_so 1 nd (f_lst (sa_cons s_int (sa_cons s_int sa_nil))))
    (ss_cons (st_for PassesOwn.never rfl (i_range1 (by rfl) bi.range (sa_cons s_int sa_nil)) (g_name 2 nd) (ss_cons (st_sf 3 nd (s_call (h__law_prime) hr (by rfl) (sa_cons (s_var 1) (sa_cons (s_var 0) (sa_cons s_int sa_nil)))))
    (ss_cons (st_sf 4 nd (s_call (h__law_draw) hr (by rfl) (sa_cons (s_var 1) (sa_cons (s_var 0) (sa_cons s_int sa_nil)))))
    (ss_cons (st_sf 5 nd (s_call (h__law_choices) hr (by rfl) (sa_cons (s_var 4) sa_nil)))
    (ss_cons (st_so 7 nd (f_lc [("one", 6)] rfl nd (i_seq (s_var 5)) (fun _ _ _ _ _ => (g_name 6 nd)) (fun _ _ _ _ _ => sts_nil) (fun _ _ _ _ _ => (s_call (h__law_height) hr (by rfl) (sa_cons (s_var 6) (sa_cons (s_var 3) sa_nil)))) (ok := blkOk_by (N := ["script", "state", "k", "p", "n", "row", "one", "heights", "at", "common", "rest", "great", "product", "digit", "a", "b", "carry", "carries", "other", "j", "m"]) (sc := defScope st_law) (by decide +kernel))))
    (ss_cons (st_if (t_not (t_tru (s_call (h__law_exact) hr (by rfl) (sa_cons (s_var 7) (sa_cons ((f_lc [("j", 19)] rfl nd (i_range1 (by rfl) bi.range (sa_cons (s_bin opd_add (s_var 4) s_int) sa_nil)) (fun _ _ _ _ _ => (g_name 19 nd)) (fun _ _ _ _ _ => sts_nil) (fun _ _ _ _ _ => (s_call (h_choice_height) hr (by rfl) (sa_cons (s_var 4) (sa_cons (s_var 19) (sa_cons (s_var 3) sa_nil))))) (ok := blkOk_by (N := ["script", "state", "k", "p", "n", "row", "one", "heights", "at", "common", "rest", "great", "product", "digit", "a", "b", "carry", "carries", "other", "j", "m"]) (sc := defScope st_law) (by decide +kernel)))).se sa_nil))))) (ss_one (st_ret s_bl)) ss_nil)
    (ss_cons (st_if (t_not (t_tru (s_call (h__law_exact) hr (by rfl) (sa_cons ((s_binF opf_catL ((f_lc [("one", 6)] rfl nd (i_seq (s_var 5)) (fun _ _ _ _ _ => (g_name 6 nd)) (fun _ _ _ _ _ => sts_nil) (fun _ _ _ _ _ => (s_bin opd_mod (s_ct (cd_int) (by rfl) bi.int (by decide +kernel) (sa_cons (s_var 6) sa_nil)) (s_var 3))) (ok := blkOk_by (N := ["script", "state", "k", "p", "n", "row", "one", "heights", "at", "common", "rest", "great", "product", "digit", "a", "b", "carry", "carries", "other", "j", "m"]) (sc := defScope st_law) (by decide +kernel)))).se ((f_lst (sa_cons s_int sa_nil))).se)).se (sa_cons ((s_binF opf_catL ((f_lc [("j", 19)] rfl nd (i_range1 (by rfl) bi.range (sa_cons (s_bin opd_add (s_var 4) s_int) sa_nil)) (fun _ _ _ _ _ => (g_name 19 nd)) (fun _ _ _ _ _ => sts_nil) (fun _ _ _ _ _ => (s_call (h_choice_rest) hr (by rfl) (sa_cons (s_var 4) (sa_cons (s_var 19) (sa_cons (s_var 3) sa_nil))))) (ok := blkOk_by (N := ["script", "state", "k", "p", "n", "row", "one", "heights", "at", "common", "rest", "great", "product", "digit", "a", "b", "carry", "carries", "other", "j", "m"]) (sc := defScope st_law) (by decide +kernel)))).se ((f_lst (sa_cons (s_call (h_choice_rest) hr (by rfl) (sa_cons (s_var 4) (sa_cons (s_bin opd_add (s_bin opd_add (s_var 4) s_int) (s_var 2)) (sa_cons (s_var 3) sa_nil)))) sa_nil))).se)).se sa_nil))))) (ss_one (st_ret s_bl)) ss_nil)
    (ss_cons (st_if (t_not (t_tru (s_call (h__law_exact) hr (by rfl) (sa_cons (s_cb (cd_len) (by rfl) bi.len (by decide +kernel) (sa_cons ((f_lc [("one", 6)] rfl nd (i_seq (s_var 7)) (fun _ _ _ _ _ => (g_name 6 nd)) (fun _ _ _ _ _ => (sts_one (t_cmp (opd_eq hr) (s_var 6) s_int))) (fun _ _ _ _ _ => (s_var 6)) (ok := blkOk_by (N := ["script", "state", "k", "p", "n", "row", "one", "heights", "at", "common", "rest", "great", "product", "digit", "a", "b", "carry", "carries", "other", "j", "m"]) (sc := defScope st_law) (by decide +kernel)))).se sa_nil)) (sa_cons (s_call (h_count_not_divided) hr (by rfl) (sa_cons (s_var 4) (sa_cons (s_var 3) sa_nil))) sa_nil))))) (ss_one (st_ret s_bl)) ss_nil)
    (ss_cons (st_if (t_not (t_tru (s_call (h__law_exact) hr (by rfl) (sa_cons ((f_lc [("m", 20)] rfl nd (i_range1 (by rfl) bi.range (sa_cons s_int sa_nil)) (fun _ _ _ _ _ => (g_name 20 nd)) (fun _ _ _ _ _ => sts_nil) (fun _ _ _ _ _ => (s_cb (cd_len) (by rfl) bi.len (by decide +kernel) (sa_cons ((f_lc [("one", 6)] rfl nd (i_seq (s_var 7)) (fun _ _ _ _ _ => (g_name 6 nd)) (fun _ _ _ _ _ => (sts_one (t_cmp (opd_eq hr) (s_var 6) (s_var 20)))) (fun _ _ _ _ _ => (s_var 6)) (ok := blkOk_by (N := ["script", "state", "k", "p", "n", "row", "one", "heights", "at", "common", "rest", "great", "product", "digit", "a", "b", "carry", "carries", "other", "j", "m"]) (by kernel_rfl)))).se sa_nil))) (ok := blkOk_by (N := ["script", "state", "k", "p", "n", "row", "one", "heights", "at", "common", "rest", "great", "product", "digit", "a", "b", "carry", "carries", "other", "j", "m"]) (sc := defScope st_law) (by decide +kernel)))).se (sa_cons ((f_lc [("m", 20)] rfl nd (i_range1 (by rfl) bi.range (sa_cons s_int sa_nil)) (fun _ _ _ _ _ => (g_name 20 nd)) (fun _ _ _ _ _ => sts_nil) (fun _ _ _ _ _ => (s_call (h_count_with_height) hr (by rfl) (sa_cons (s_var 4) (sa_cons (s_var 3) (sa_cons (s_var 20) sa_nil))))) (ok := blkOk_by (N := ["script", "state", "k", "p", "n", "row", "one", "heights", "at", "common", "rest", "great", "product", "digit", "a", "b", "carry", "carries", "other", "j", "m"]) (sc := defScope st_law) (by decide +kernel)))).se sa_nil))))) (ss_one (st_ret s_bl)) ss_nil)
    (ss_cons (st_sf 8 nd (s_call (h__law_draw) hr (by rfl) (sa_cons (s_var 1) (sa_cons (s_var 0) (sa_cons (s_bin opd_add (s_var 4) s_int) sa_nil)))))
    (ss_cons (st_if (t_not (t_tru (s_call (h__law_exact) hr (by rfl) (sa_cons ((f_lst (sa_cons (s_ix (s_var 5) (s_var 8)) (sa_cons s_int (sa_cons s_int sa_nil))))).se (sa_cons ((f_lst (sa_cons (s_call (h_small_choose) hr (by rfl) (sa_cons (s_var 4) (sa_cons (s_var 8) sa_nil))) (sa_cons (s_call (h_small_choose) hr (by rfl) (sa_cons (s_var 4) (sa_cons (s_neg s_int) sa_nil))) (sa_cons (s_call (h_small_choose) hr (by rfl) (sa_cons (s_var 4) (sa_cons (s_bin opd_add (s_var 4) s_int) sa_nil))) sa_nil))))).se sa_nil))))) (ss_one (st_ret s_bl)) ss_nil)
    (ss_cons (st_if (t_cmp opd_gt (s_var 4) s_int) (ss_cons (st_sf 9 nd (s_ix (s_var 5) s_int))
    (ss_cons (st_for PassesOwn.never rfl (i_seq ((f_sl (s_var 5) (so_e s_int) (so_e (s_var 4)))).se) (g_name 6 nd) (ss_one (st_while PassesOwn.never (t_cmp opd_gt (s_var 6) s_int) (ss_cons (st_sf 10 nd (s_bin opd_mod (s_ct (cd_int) (by rfl) bi.int (by decide +kernel) (sa_cons (s_var 9) sa_nil)) (s_var 6)))
    (ss_cons (st_sf 9 nd (s_var 6))
    (ss_one (st_sf 6 nd (s_var 10))))))))
    (ss_one (st_if (t_not (t_tru (s_call (h__law_exact) hr (by rfl) (sa_cons (s_var 9) (sa_cons (s_call (h_row_divisor) hr (by rfl) (sa_cons (s_var 4) sa_nil)) sa_nil))))) (ss_one (st_ret s_bl)) ss_nil)))) ss_nil)
    (ss_cons (st_sf 11 nd (s_call (h__law_draw) hr (by rfl) (sa_cons (s_var 1) (sa_cons (s_var 0) (sa_cons (s_bin opd_pow s_int s_int) sa_nil)))))
    (ss_cons (st_sf 12 nd s_int)
    (ss_cons (st_for PassesOwn.never rfl (i_seq (s_call (h_figures) hr (by rfl) (sa_cons (s_var 11) (sa_cons (s_var 3) sa_nil)))) (g_name 13 nd) (ss_one (st_sf 12 nd (s_bin opd_mul (s_var 12) (s_bin opd_add (s_var 13) s_int)))))
    (ss_cons (st_if ((w_or (t_not (t_tru (s_call (h__law_exact) hr (by rfl) (sa_cons (s_var 12) (sa_cons (s_call (h_count_not_divided) hr (by rfl) (sa_cons (s_var 11) (sa_cons (s_var 3) sa_nil))) sa_nil))))) (w_or1 (t_cmp (opd_ne hr) (s_cb (cd_sum rfl) (by rfl) bi.sum (by decide +kernel) (sa_cons ((f_lc [("m", 20)] rfl nd (i_range1 (by rfl) bi.range (sa_cons s_int sa_nil)) (fun _ _ _ _ _ => (g_name 20 nd)) (fun _ _ _ _ _ => sts_nil) (fun _ _ _ _ _ => (s_call (h_count_with_height) hr (by rfl) (sa_cons (s_var 11) (sa_cons (s_var 3) (sa_cons (s_var 20) sa_nil))))) (ok := blkOk_by (N := ["script", "state", "k", "p", "n", "row", "one", "heights", "at", "common", "rest", "great", "product", "digit", "a", "b", "carry", "carries", "other", "j", "m"]) (sc := defScope st_law) (by decide +kernel)))).se sa_nil)) (s_bin opd_add (s_var 11) s_int))))).t (ss_one (st_ret s_bl)) ss_nil)
    (ss_cons (st_par2 14 15 rfl nd (sb_e (s_call (h__law_draw) hr (by rfl) (sa_cons (s_var 1) (sa_cons (s_var 0) (sa_cons (s_bin opd_pow s_int s_int) sa_nil)))) (sb_e (s_call (h__law_draw) hr (by rfl) (sa_cons (s_var 1) (sa_cons (s_var 0) (sa_cons (s_bin opd_pow s_int s_int) sa_nil)))) sb_nil)))
    (ss_cons (st_parT rfl (sb_e s_int (sb_e s_int (sb_e (s_var 14) (sb_e (s_var 15) sb_nil)))) (sn_cons 16 nd (sn_cons 17 nd (sn_cons 6 nd (sn_cons 18 nd sn_nil)))))
    (ss_cons (st_while PassesOwn.never (t_cmp opd_gt (s_bin opd_add (s_bin opd_add (s_var 6) (s_var 18)) (s_var 16)) s_int) (ss_cons (st_sf 16 nd (s_ct (cd_int) (by rfl) bi.int (by decide +kernel) (sa_cons (s_cmp opd_ge (s_bin opd_add (s_bin opd_add (s_bin opd_mod (s_ct (cd_int) (by rfl) bi.int (by decide +kernel) (sa_cons (s_var 6) sa_nil)) (s_var 3)) (s_bin opd_mod (s_ct (cd_int) (by rfl) bi.int (by decide +kernel) (sa_cons (s_var 18) sa_nil)) (s_var 3))) (s_var 16)) (s_var 3)) sa_nil)))
    (ss_one (st_par3 17 6 18 rfl nd (sb_e (s_bin opd_add (s_var 17) (s_var 16)) (sb_e (s_bin opd_div (s_var 6) (s_var 3)) (sb_e (s_bin opd_div (s_var 18) (s_var 3)) sb_nil)))))))
    (ss_one (st_if (t_not (t_tru (s_call (h__law_exact) hr (by rfl) (sa_cons ((f_lst (sa_cons (s_var 17) (sa_cons (s_var 17) sa_nil)))).se (sa_cons ((f_lst (sa_cons (s_call (h_carries_in) hr (by rfl) (sa_cons (s_var 14) (sa_cons (s_var 15) (sa_cons (s_var 3) sa_nil)))) (sa_cons (s_call (h_choice_height) hr (by rfl) (sa_cons (s_bin opd_add (s_var 14) (s_var 15)) (sa_cons (s_var 14) (sa_cons (s_var 3) sa_nil)))) sa_nil)))).se sa_nil))))) (ss_one (st_ret s_bl)) ss_nil)))))))))))))))))))))
    (ss_one (st_ret s_bl))))
  case chk => rfl
theorem r__law_exact {P : Program} {w : World} {K : PySem.W.Frag} {mg : Str → Option Value} {base : Heap} (bi : Bi mg) {f : Addr} {fd : FuncData} (F : Fun K "_law_exact" "_law_exact" st__law_exact f fd) (hb : Binds K fd ["first", "second"] []) (hm : mg "_law_exact" = some (.ref f)) : Fn P w K mg base 6 "_law_exact" ms__law_exact false fs__law_exact :=
  have h0 : Fn P w K mg base 0 "_law_exact" ms__law_exact false (fsx 0) := (Fn.none 0 F.kp hb hm).imp fun ds Q h => fsx_zero ds Q h
  have h1 := d__law_exact (fs := fsx 1) bi h0 F hb hm (c__law_exact 0)
  have h2 := d__law_exact (fs := fsx 2) bi h1 F hb hm (c__law_exact 1)
  have h3 := d__law_exact (fs := fsx 3) bi h2 F hb hm (c__law_exact 2)
  have h4 := d__law_exact (fs := fsx 4) bi h3 F hb hm (c__law_exact 3)
  have h5 := d__law_exact (fs := fsx 5) bi h4 F hb hm (c__law_exact 4)
  d__law_exact (fs := fsx 6) bi h5 F hb hm (c__law_exact 5)
theorem all_fns {P : Program} {w : World} {K : PySem.W.Frag} {mg : Str → Option Value} {base : Heap} (bi : Bi mg)
    {f0 : Addr} {fd0 : FuncData} (F0 : Fun K "figures" "figures" st_figures f0 fd0) (b0 : Binds K fd0 ["number", "p"] []) (m0 : mg "figures" = some (.ref f0))
    {f1 : Addr} {fd1 : FuncData} (F1 : Fun K "figure_at" "figure_at" st_figure_at f1 fd1) (b1 : Binds K fd1 ["row", "at"] []) (m1 : mg "figure_at" = some (.ref f1))
    {f2 : Addr} {fd2 : FuncData} (F2 : Fun K "carries_in" "carries_in" st_carries_in f2 fd2) (b2 : Binds K fd2 ["one", "other", "p"] []) (m2 : mg "carries_in" = some (.ref f2))
    {f3 : Addr} {fd3 : FuncData} (F3 : Fun K "choice_height" "choice_height" st_choice_height f3 fd3) (b3 : Binds K fd3 ["n", "k", "p"] []) (m3 : mg "choice_height" = some (.ref f3))
    {f4 : Addr} {fd4 : FuncData} (F4 : Fun K "small_choose" "small_choose" st_small_choose f4 fd4) (b4 : Binds K fd4 ["n", "k"] []) (m4 : mg "small_choose" = some (.ref f4))
    {f5 : Addr} {fd5 : FuncData} (F5 : Fun K "choice_rest" "choice_rest" st_choice_rest f5 fd5) (b5 : Binds K fd5 ["n", "k", "p"] []) (m5 : mg "choice_rest" = some (.ref f5))
    {f6 : Addr} {fd6 : FuncData} (F6 : Fun K "count_not_divided" "count_not_divided" st_count_not_divided f6 fd6) (b6 : Binds K fd6 ["n", "p"] []) (m6 : mg "count_not_divided" = some (.ref f6))
    {f7 : Addr} {fd7 : FuncData} (F7 : Fun K "count_with_height" "count_with_height" st_count_with_height f7 fd7) (b7 : Binds K fd7 ["n", "p", "many"] []) (m7 : mg "count_with_height" = some (.ref f7))
    {f8 : Addr} {fd8 : FuncData} (F8 : Fun K "put" "put" st_put f8 fd8) (b8 : Binds K fd8 ["table", "key", "number"] []) (m8 : mg "put" = some (.ref f8))
    {f9 : Addr} {fd9 : FuncData} (F9 : Fun K "row_divisor" "row_divisor" st_row_divisor f9 fd9) (b9 : Binds K fd9 ["n"] []) (m9 : mg "row_divisor" = some (.ref f9))
    {f10 : Addr} {fd10 : FuncData} (F10 : Fun K "_law_refill" "_law_refill" st__law_refill f10 fd10) (b10 : Binds K fd10 ["script", "k"] []) (m10 : mg "_law_refill" = some (.ref f10))
    {f11 : Addr} {fd11 : FuncData} (F11 : Fun K "_law_draw" "_law_draw" st__law_draw f11 fd11) (b11 : Binds K fd11 ["state", "script", "size"] []) (m11 : mg "_law_draw" = some (.ref f11))
    {f12 : Addr} {fd12 : FuncData} (F12 : Fun K "_law_exact" "_law_exact" st__law_exact f12 fd12) (b12 : Binds K fd12 ["first", "second"] []) (m12 : mg "_law_exact" = some (.ref f12))
    {f13 : Addr} {fd13 : FuncData} (F13 : Fun K "_law_prime" "_law_prime" st__law_prime f13 fd13) (b13 : Binds K fd13 ["state", "script", "many"] []) (m13 : mg "_law_prime" = some (.ref f13))
    {f14 : Addr} {fd14 : FuncData} (F14 : Fun K "_law_height" "_law_height" st__law_height f14 fd14) (b14 : Binds K fd14 ["number", "p"] []) (m14 : mg "_law_height" = some (.ref f14))
    {f15 : Addr} {fd15 : FuncData} (F15 : Fun K "_law_choices" "_law_choices" st__law_choices f15 fd15) (b15 : Binds K fd15 ["n"] []) (m15 : mg "_law_choices" = some (.ref f15))
    {f16 : Addr} {fd16 : FuncData} (F16 : Fun K "law" "law" st_law f16 fd16) (b16 : Binds K fd16 ["script"] []) : FnOk P w K mg base CX0 7 f16 fd16 ["script"] (spOf K ms_law false fsLaw) := by
  have h_figure_at := d_figure_at (P := P) (w := w) (base := base) (k := 0) bi  F1 b1 m1 c_figure_at
  have h_figures := d_figures (P := P) (w := w) (base := base) (k := 0) bi  F0 b0 m0 c_figures
  have h_carries_in := d_carries_in (P := P) (w := w) (base := base) (k := 1) bi (h_figure_at.mono (by decide)) (h_figures.mono (by decide)) F2 b2 m2 c_carries_in
  have h_choice_height := d_choice_height (P := P) (w := w) (base := base) (k := 2) bi (h_carries_in.mono (by decide)) F3 b3 m3 c_choice_height
  have h__law_exact := r__law_exact (P := P) (w := w) (base := base) bi F12 b12 m12
  have h__law_refill := d__law_refill (P := P) (w := w) (base := base) (k := 0) bi  F10 b10 m10 c__law_refill
  have h__law_draw := d__law_draw (P := P) (w := w) (base := base) (k := 1) bi (h__law_refill.mono (by decide)) F11 b11 m11 c__law_draw
  have h_count_not_divided := d_count_not_divided (P := P) (w := w) (base := base) (k := 1) bi (h_figures.mono (by decide)) F6 b6 m6 c_count_not_divided
  have h_put := d_put (P := P) (w := w) (base := base) (k := 0) bi  F8 b8 m8 c_put
  have h_count_with_height := d_count_with_height (P := P) (w := w) (base := base) (k := 1) bi (h_figures.mono (by decide)) (h_put.mono (by decide)) F7 b7 m7 c_count_with_height
  have h_row_divisor := d_row_divisor (P := P) (w := w) (base := base) (k := 0) bi  F9 b9 m9 c_row_divisor
  have h_small_choose := d_small_choose (P := P) (w := w) (base := base) (k := 0) bi  F4 b4 m4 c_small_choose
  have h_choice_rest := d_choice_rest (P := P) (w := w) (base := base) (k := 1) bi (h_figure_at.mono (by decide)) (h_small_choose.mono (by decide)) (h_figures.mono (by decide)) F5 b5 m5 c_choice_rest
  have h__law_height := d__law_height (P := P) (w := w) (base := base) (k := 0) bi  F14 b14 m14 c__law_height
  have h__law_choices := d__law_choices (P := P) (w := w) (base := base) (k := 0) bi  F15 b15 m15 c__law_choices
  have h__law_prime := d__law_prime (P := P) (w := w) (base := base) (k := 2) bi (h__law_draw.mono (by decide)) F13 b13 m13 c__law_prime
  exact d_law (k := 6) bi (h_choice_height.mono (by decide)) (h_carries_in.mono (by decide)) (h__law_exact.mono (by decide)) (h__law_draw.mono (by decide)) (h_count_not_divided.mono (by decide)) (h_count_with_height.mono (by decide)) (h_figures.mono (by decide)) (h_row_divisor.mono (by decide)) (h_small_choose.mono (by decide)) (h_choice_rest.mono (by decide)) (h__law_height.mono (by decide)) (h__law_choices.mono (by decide)) (h__law_prime.mono (by decide)) F16 c_law
theorem all_mk {l : PySem.W.OpenLaw} {w : World} {K : PySem.W.Frag} {h : Heap} {mg : Str → Option Value} {fa : Addr} (X : K.In h) (G : h.Ns mainGlobals mg) (hfa : mg "law" = some (.ref fa))
    {f0 : Addr} {od0 an0 : Option Addr} {sl0 : Array (Option Value)} {oc0 kV0 dc0 pm0 cd0 ct0 : Value} {f1 : Addr} {od1 an1 : Option Addr} {sl1 : Array (Option Value)} {oc1 kV1 dc1 pm1 cd1 ct1 : Value} {f2 : Addr} {od2 an2 : Option Addr} {sl2 : Array (Option Value)} {oc2 kV2 dc2 pm2 cd2 ct2 : Value} {f3 : Addr} {od3 an3 : Option Addr} {sl3 : Array (Option Value)} {oc3 kV3 dc3 pm3 cd3 ct3 : Value} {f4 : Addr} {od4 an4 : Option Addr} {sl4 : Array (Option Value)} {oc4 kV4 dc4 pm4 cd4 ct4 : Value} {f5 : Addr} {od5 an5 : Option Addr} {sl5 : Array (Option Value)} {oc5 kV5 dc5 pm5 cd5 ct5 : Value} {f6 : Addr} {od6 an6 : Option Addr} {sl6 : Array (Option Value)} {oc6 kV6 dc6 pm6 cd6 ct6 : Value} {f7 : Addr} {od7 an7 : Option Addr} {sl7 : Array (Option Value)} {oc7 kV7 dc7 pm7 cd7 ct7 : Value} {f8 : Addr} {od8 an8 : Option Addr} {sl8 : Array (Option Value)} {oc8 kV8 dc8 pm8 cd8 ct8 : Value} {f9 : Addr} {od9 an9 : Option Addr} {sl9 : Array (Option Value)} {oc9 kV9 dc9 pm9 cd9 ct9 : Value} {f10 : Addr} {od10 an10 : Option Addr} {sl10 : Array (Option Value)} {oc10 kV10 dc10 pm10 cd10 ct10 : Value} {f11 : Addr} {od11 an11 : Option Addr} {sl11 : Array (Option Value)} {oc11 kV11 dc11 pm11 cd11 ct11 : Value} {f12 : Addr} {od12 an12 : Option Addr} {sl12 : Array (Option Value)} {oc12 kV12 dc12 pm12 cd12 ct12 : Value} {f13 : Addr} {od13 an13 : Option Addr} {sl13 : Array (Option Value)} {oc13 kV13 dc13 pm13 cd13 ct13 : Value} {f14 : Addr} {od14 an14 : Option Addr} {sl14 : Array (Option Value)} {oc14 kV14 dc14 pm14 cd14 ct14 : Value} {f15 : Addr} {od15 an15 : Option Addr} {sl15 : Array (Option Value)} {oc15 kV15 dc15 pm15 cd15 ct15 : Value} {f16 : Addr} {od16 an16 : Option Addr} {sl16 : Array (Option Value)} {oc16 kV16 dc16 pm16 cd16 ct16 : Value}
    (a0 : PySem.W.nsIn K mainGlobals "figures" = some (some (.ref f0))) (l0 : K.lookup f0 = some ⟨oc0, od0, .func (PySem.W.fnOf "figures" "figures" (defArgs st_figures) (defBody st_figures) (defScope st_figures) .none kV0 dc0 pm0 an0 cd0 ct0), sl0⟩) (c0 : PySem.W.codeIn K cd0 "figures" = true) (k0 : PySem.W.keepIn K (.ref f0) = true)
    (a1 : PySem.W.nsIn K mainGlobals "figure_at" = some (some (.ref f1))) (l1 : K.lookup f1 = some ⟨oc1, od1, .func (PySem.W.fnOf "figure_at" "figure_at" (defArgs st_figure_at) (defBody st_figure_at) (defScope st_figure_at) .none kV1 dc1 pm1 an1 cd1 ct1), sl1⟩) (c1 : PySem.W.codeIn K cd1 "figure_at" = true) (k1 : PySem.W.keepIn K (.ref f1) = true)
    (a2 : PySem.W.nsIn K mainGlobals "carries_in" = some (some (.ref f2))) (l2 : K.lookup f2 = some ⟨oc2, od2, .func (PySem.W.fnOf "carries_in" "carries_in" (defArgs st_carries_in) (defBody st_carries_in) (defScope st_carries_in) .none kV2 dc2 pm2 an2 cd2 ct2), sl2⟩) (c2 : PySem.W.codeIn K cd2 "carries_in" = true) (k2 : PySem.W.keepIn K (.ref f2) = true)
    (a3 : PySem.W.nsIn K mainGlobals "choice_height" = some (some (.ref f3))) (l3 : K.lookup f3 = some ⟨oc3, od3, .func (PySem.W.fnOf "choice_height" "choice_height" (defArgs st_choice_height) (defBody st_choice_height) (defScope st_choice_height) .none kV3 dc3 pm3 an3 cd3 ct3), sl3⟩) (c3 : PySem.W.codeIn K cd3 "choice_height" = true) (k3 : PySem.W.keepIn K (.ref f3) = true)
    (a4 : PySem.W.nsIn K mainGlobals "small_choose" = some (some (.ref f4))) (l4 : K.lookup f4 = some ⟨oc4, od4, .func (PySem.W.fnOf "small_choose" "small_choose" (defArgs st_small_choose) (defBody st_small_choose) (defScope st_small_choose) .none kV4 dc4 pm4 an4 cd4 ct4), sl4⟩) (c4 : PySem.W.codeIn K cd4 "small_choose" = true) (k4 : PySem.W.keepIn K (.ref f4) = true)
    (a5 : PySem.W.nsIn K mainGlobals "choice_rest" = some (some (.ref f5))) (l5 : K.lookup f5 = some ⟨oc5, od5, .func (PySem.W.fnOf "choice_rest" "choice_rest" (defArgs st_choice_rest) (defBody st_choice_rest) (defScope st_choice_rest) .none kV5 dc5 pm5 an5 cd5 ct5), sl5⟩) (c5 : PySem.W.codeIn K cd5 "choice_rest" = true) (k5 : PySem.W.keepIn K (.ref f5) = true)
    (a6 : PySem.W.nsIn K mainGlobals "count_not_divided" = some (some (.ref f6))) (l6 : K.lookup f6 = some ⟨oc6, od6, .func (PySem.W.fnOf "count_not_divided" "count_not_divided" (defArgs st_count_not_divided) (defBody st_count_not_divided) (defScope st_count_not_divided) .none kV6 dc6 pm6 an6 cd6 ct6), sl6⟩) (c6 : PySem.W.codeIn K cd6 "count_not_divided" = true) (k6 : PySem.W.keepIn K (.ref f6) = true)
    (a7 : PySem.W.nsIn K mainGlobals "count_with_height" = some (some (.ref f7))) (l7 : K.lookup f7 = some ⟨oc7, od7, .func (PySem.W.fnOf "count_with_height" "count_with_height" (defArgs st_count_with_height) (defBody st_count_with_height) (defScope st_count_with_height) .none kV7 dc7 pm7 an7 cd7 ct7), sl7⟩) (c7 : PySem.W.codeIn K cd7 "count_with_height" = true) (k7 : PySem.W.keepIn K (.ref f7) = true)
    (a8 : PySem.W.nsIn K mainGlobals "put" = some (some (.ref f8))) (l8 : K.lookup f8 = some ⟨oc8, od8, .func (PySem.W.fnOf "put" "put" (defArgs st_put) (defBody st_put) (defScope st_put) .none kV8 dc8 pm8 an8 cd8 ct8), sl8⟩) (c8 : PySem.W.codeIn K cd8 "put" = true) (k8 : PySem.W.keepIn K (.ref f8) = true)
    (a9 : PySem.W.nsIn K mainGlobals "row_divisor" = some (some (.ref f9))) (l9 : K.lookup f9 = some ⟨oc9, od9, .func (PySem.W.fnOf "row_divisor" "row_divisor" (defArgs st_row_divisor) (defBody st_row_divisor) (defScope st_row_divisor) .none kV9 dc9 pm9 an9 cd9 ct9), sl9⟩) (c9 : PySem.W.codeIn K cd9 "row_divisor" = true) (k9 : PySem.W.keepIn K (.ref f9) = true)
    (a10 : PySem.W.nsIn K mainGlobals "_law_refill" = some (some (.ref f10))) (l10 : K.lookup f10 = some ⟨oc10, od10, .func (PySem.W.fnOf "_law_refill" "_law_refill" (defArgs st__law_refill) (defBody st__law_refill) (defScope st__law_refill) .none kV10 dc10 pm10 an10 cd10 ct10), sl10⟩) (c10 : PySem.W.codeIn K cd10 "_law_refill" = true) (k10 : PySem.W.keepIn K (.ref f10) = true)
    (a11 : PySem.W.nsIn K mainGlobals "_law_draw" = some (some (.ref f11))) (l11 : K.lookup f11 = some ⟨oc11, od11, .func (PySem.W.fnOf "_law_draw" "_law_draw" (defArgs st__law_draw) (defBody st__law_draw) (defScope st__law_draw) .none kV11 dc11 pm11 an11 cd11 ct11), sl11⟩) (c11 : PySem.W.codeIn K cd11 "_law_draw" = true) (k11 : PySem.W.keepIn K (.ref f11) = true)
    (a12 : PySem.W.nsIn K mainGlobals "_law_exact" = some (some (.ref f12))) (l12 : K.lookup f12 = some ⟨oc12, od12, .func (PySem.W.fnOf "_law_exact" "_law_exact" (defArgs st__law_exact) (defBody st__law_exact) (defScope st__law_exact) .none kV12 dc12 pm12 an12 cd12 ct12), sl12⟩) (c12 : PySem.W.codeIn K cd12 "_law_exact" = true) (k12 : PySem.W.keepIn K (.ref f12) = true)
    (a13 : PySem.W.nsIn K mainGlobals "_law_prime" = some (some (.ref f13))) (l13 : K.lookup f13 = some ⟨oc13, od13, .func (PySem.W.fnOf "_law_prime" "_law_prime" (defArgs st__law_prime) (defBody st__law_prime) (defScope st__law_prime) .none kV13 dc13 pm13 an13 cd13 ct13), sl13⟩) (c13 : PySem.W.codeIn K cd13 "_law_prime" = true) (k13 : PySem.W.keepIn K (.ref f13) = true)
    (a14 : PySem.W.nsIn K mainGlobals "_law_height" = some (some (.ref f14))) (l14 : K.lookup f14 = some ⟨oc14, od14, .func (PySem.W.fnOf "_law_height" "_law_height" (defArgs st__law_height) (defBody st__law_height) (defScope st__law_height) .none kV14 dc14 pm14 an14 cd14 ct14), sl14⟩) (c14 : PySem.W.codeIn K cd14 "_law_height" = true) (k14 : PySem.W.keepIn K (.ref f14) = true)
    (a15 : PySem.W.nsIn K mainGlobals "_law_choices" = some (some (.ref f15))) (l15 : K.lookup f15 = some ⟨oc15, od15, .func (PySem.W.fnOf "_law_choices" "_law_choices" (defArgs st__law_choices) (defBody st__law_choices) (defScope st__law_choices) .none kV15 dc15 pm15 an15 cd15 ct15), sl15⟩) (c15 : PySem.W.codeIn K cd15 "_law_choices" = true) (k15 : PySem.W.keepIn K (.ref f15) = true)
    (a16 : PySem.W.nsIn K mainGlobals "law" = some (some (.ref f16))) (l16 : K.lookup f16 = some ⟨oc16, od16, .func (PySem.W.fnOf "law" "law" (defArgs st_law) (defBody st_law) (defScope st_law) .none kV16 dc16 pm16 an16 cd16 ct16), sl16⟩) (c16 : PySem.W.codeIn K cd16 "law" = true) (k16 : PySem.W.keepIn K (.ref f16) = true)
    (z0 : PySem.W.nsIn K mainGlobals "len" = some none) (z1 : PySem.W.nsIn K mainGlobals "range" = some none) (z2 : PySem.W.nsIn K mainGlobals "sum" = some none) (z3 : PySem.W.nsIn K mainGlobals "max" = some none) (z4 : PySem.W.nsIn K mainGlobals "min" = some none) (z5 : PySem.W.nsIn K mainGlobals "abs" = some none) (z6 : PySem.W.nsIn K mainGlobals "int" = some none) (z7 : PySem.W.nsIn K mainGlobals "str" = some none) (z8 : PySem.W.nsIn K mainGlobals "bool" = some none) (z9 : PySem.W.nsIn K mainGlobals "list" = some none) (z10 : PySem.W.nsIn K mainGlobals "tuple" = some none) (z11 : PySem.W.nsIn K mainGlobals "set" = some none) (z12 : PySem.W.nsIn K mainGlobals "sorted" = some none) (z13 : PySem.W.nsIn K mainGlobals "all" = some none) (z14 : PySem.W.nsIn K mainGlobals "any" = some none) (z15 : PySem.W.nsIn K mainGlobals "zip" = some none) (z16 : PySem.W.nsIn K mainGlobals "enumerate" = some none) (z17 : PySem.W.nsIn K mainGlobals "reversed" = some none) (z18 : PySem.W.nsIn K mainGlobals "isinstance" = some none) :
    ∃ fd : FuncData, (∀ (s : Shared) (v : Value), BindsTo s fd ⟨[v], []⟩ [("script", v)]) ∧ ∀ base : Heap, K.In base → base.Ns mainGlobals mg → FnOk l.prog w K mg base CX0 7 fa fd ["script"] (spOf K ms_law false fsLaw) := by
  have e := hfa.symm.trans (PySem.W.mg_of X G a16)
  cases e
  have F0 := fun_mk (st := st_figures) l0 c0 k0
  have b0 := F0.binds (ps := ["number", "p"]) fun _ _ _ _ _ _ us hl => match us, hl with | [_, _], _ => rfl
  have F1 := fun_mk (st := st_figure_at) l1 c1 k1
  have b1 := F1.binds (ps := ["row", "at"]) fun _ _ _ _ _ _ us hl => match us, hl with | [_, _], _ => rfl
  have F2 := fun_mk (st := st_carries_in) l2 c2 k2
  have b2 := F2.binds (ps := ["one", "other", "p"]) fun _ _ _ _ _ _ us hl => match us, hl with | [_, _, _], _ => rfl
  have F3 := fun_mk (st := st_choice_height) l3 c3 k3
  have b3 := F3.binds (ps := ["n", "k", "p"]) fun _ _ _ _ _ _ us hl => match us, hl with | [_, _, _], _ => rfl
  have F4 := fun_mk (st := st_small_choose) l4 c4 k4
  have b4 := F4.binds (ps := ["n", "k"]) fun _ _ _ _ _ _ us hl => match us, hl with | [_, _], _ => rfl
  have F5 := fun_mk (st := st_choice_rest) l5 c5 k5
  have b5 := F5.binds (ps := ["n", "k", "p"]) fun _ _ _ _ _ _ us hl => match us, hl with | [_, _, _], _ => rfl
  have F6 := fun_mk (st := st_count_not_divided) l6 c6 k6
  have b6 := F6.binds (ps := ["n", "p"]) fun _ _ _ _ _ _ us hl => match us, hl with | [_, _], _ => rfl
  have F7 := fun_mk (st := st_count_with_height) l7 c7 k7
  have b7 := F7.binds (ps := ["n", "p", "many"]) fun _ _ _ _ _ _ us hl => match us, hl with | [_, _, _], _ => rfl
  have F8 := fun_mk (st := st_put) l8 c8 k8
  have b8 := F8.binds (ps := ["table", "key", "number"]) fun _ _ _ _ _ _ us hl => match us, hl with | [_, _, _], _ => rfl
  have F9 := fun_mk (st := st_row_divisor) l9 c9 k9
  have b9 := F9.binds (ps := ["n"]) fun _ _ _ _ _ _ us hl => match us, hl with | [_], _ => rfl
  have F10 := fun_mk (st := st__law_refill) l10 c10 k10
  have b10 := F10.binds (ps := ["script", "k"]) fun _ _ _ _ _ _ us hl => match us, hl with | [_, _], _ => rfl
  have F11 := fun_mk (st := st__law_draw) l11 c11 k11
  have b11 := F11.binds (ps := ["state", "script", "size"]) fun _ _ _ _ _ _ us hl => match us, hl with | [_, _, _], _ => rfl
  have F12 := fun_mk (st := st__law_exact) l12 c12 k12
  have b12 := F12.binds (ps := ["first", "second"]) fun _ _ _ _ _ _ us hl => match us, hl with | [_, _], _ => rfl
  have F13 := fun_mk (st := st__law_prime) l13 c13 k13
  have b13 := F13.binds (ps := ["state", "script", "many"]) fun _ _ _ _ _ _ us hl => match us, hl with | [_, _, _], _ => rfl
  have F14 := fun_mk (st := st__law_height) l14 c14 k14
  have b14 := F14.binds (ps := ["number", "p"]) fun _ _ _ _ _ _ us hl => match us, hl with | [_, _], _ => rfl
  have F15 := fun_mk (st := st__law_choices) l15 c15 k15
  have b15 := F15.binds (ps := ["n"]) fun _ _ _ _ _ _ us hl => match us, hl with | [_], _ => rfl
  have F16 := fun_mk (st := st_law) l16 c16 k16
  have b16 := F16.binds (ps := ["script"]) fun _ _ _ _ _ _ us hl => match us, hl with | [_], _ => rfl
  have bi : Bi mg := ⟨PySem.W.mg_none_of X G z0, PySem.W.mg_none_of X G z1, PySem.W.mg_none_of X G z2, PySem.W.mg_none_of X G z3, PySem.W.mg_none_of X G z4, PySem.W.mg_none_of X G z5, PySem.W.mg_none_of X G z6, PySem.W.mg_none_of X G z7, PySem.W.mg_none_of X G z8, PySem.W.mg_none_of X G z9, PySem.W.mg_none_of X G z10, PySem.W.mg_none_of X G z11, PySem.W.mg_none_of X G z12, PySem.W.mg_none_of X G z13, PySem.W.mg_none_of X G z14, PySem.W.mg_none_of X G z15, PySem.W.mg_none_of X G z16, PySem.W.mg_none_of X G z17, PySem.W.mg_none_of X G z18⟩
  exact ⟨_, fun s v => .of_eq rfl, fun base _ _ => all_fns bi F0 b0 (PySem.W.mg_of X G a0) F1 b1 (PySem.W.mg_of X G a1) F2 b2 (PySem.W.mg_of X G a2) F3 b3 (PySem.W.mg_of X G a3) F4 b4 (PySem.W.mg_of X G a4) F5 b5 (PySem.W.mg_of X G a5) F6 b6 (PySem.W.mg_of X G a6) F7 b7 (PySem.W.mg_of X G a7) F8 b8 (PySem.W.mg_of X G a8) F9 b9 (PySem.W.mg_of X G a9) F10 b10 (PySem.W.mg_of X G a10) F11 b11 (PySem.W.mg_of X G a11) F12 b12 (PySem.W.mg_of X G a12) F13 b13 (PySem.W.mg_of X G a13) F14 b14 (PySem.W.mg_of X G a14) F15 b15 (PySem.W.mg_of X G a15) F16 b16⟩
end K74
open PySem PySem.W PyProof.Rows
set_option maxHeartbeats 0 in
theorem PySem.Challenge.cw_deepdigits_k74_whole_heights_of_choices_holds : PySem.Challenge.rw_deepdigits_k74_whole_heights_of_choices.Holds := by
  w_on; o_law; k_head; (case hw => w_witness2)
  k_fill
  refine L2.walk_of (l := PySem.Challenge.rw_deepdigits_k74_whole_heights_of_choices) (n := 63) (k := 7) (x := "script") (CX := fun _ => L2.CX0) (sp := fun w => PL.spOf _ [.fz] false PL.fsLaw) rfl (by decide) rfl ⟨rfl, by decide, by decide⟩ (fun w h Y => PySem.W.kIn_of Y) ?F (fun w H a ns hl _ hS => PL.sp_law (by rfl) hl hS) (fun _ _ _ _ _ h => h)
  case F =>
    intro w mg fa h KX G hmg
    refine' K74.all_mk KX G hmg ?a0 ?l0 ?c0 ?k0 ?a1 ?l1 ?c1 ?k1 ?a2 ?l2 ?c2 ?k2 ?a3 ?l3 ?c3 ?k3 ?a4 ?l4 ?c4 ?k4 ?a5 ?l5 ?c5 ?k5 ?a6 ?l6 ?c6 ?k6 ?a7 ?l7 ?c7 ?k7 ?a8 ?l8 ?c8 ?k8 ?a9 ?l9 ?c9 ?k9 ?a10 ?l10 ?c10 ?k10 ?a11 ?l11 ?c11 ?k11 ?a12 ?l12 ?c12 ?k12 ?a13 ?l13 ?c13 ?k13 ?a14 ?l14 ?c14 ?k14 ?a15 ?l15 ?c15 ?k15 ?a16 ?l16 ?c16 ?k16 ?z0 ?z1 ?z2 ?z3 ?z4 ?z5 ?z6 ?z7 ?z8 ?z9 ?z10 ?z11 ?z12 ?z13 ?z14 ?z15 ?z16 ?z17 ?z18
    (case a0 => k_is); (case l0 => k_is); (case c0 => k_is); (case k0 => k_is); (case a1 => k_is); (case l1 => k_is); (case c1 => k_is); (case k1 => k_is); (case a2 => k_is); (case l2 => k_is); (case c2 => k_is); (case k2 => k_is); (case a3 => k_is); (case l3 => k_is); (case c3 => k_is); (case k3 => k_is); (case a4 => k_is); (case l4 => k_is); (case c4 => k_is); (case k4 => k_is); (case a5 => k_is); (case l5 => k_is); (case c5 => k_is); (case k5 => k_is); (case a6 => k_is); (case l6 => k_is); (case c6 => k_is); (case k6 => k_is); (case a7 => k_is); (case l7 => k_is); (case c7 => k_is); (case k7 => k_is); (case a8 => k_is); (case l8 => k_is); (case c8 => k_is); (case k8 => k_is); (case a9 => k_is); (case l9 => k_is); (case c9 => k_is); (case k9 => k_is); (case a10 => k_is); (case l10 => k_is); (case c10 => k_is); (case k10 => k_is); (case a11 => k_is); (case l11 => k_is); (case c11 => k_is); (case k11 => k_is); (case a12 => k_is); (case l12 => k_is); (case c12 => k_is); (case k12 => k_is); (case a13 => k_is); (case l13 => k_is); (case c13 => k_is); (case k13 => k_is); (case a14 => k_is); (case l14 => k_is); (case c14 => k_is); (case k14 => k_is); (case a15 => k_is); (case l15 => k_is); (case c15 => k_is); (case k15 => k_is); (case a16 => k_is); (case l16 => k_is); (case c16 => k_is); (case k16 => k_is); (case z0 => k_is); (case z1 => k_is); (case z2 => k_is); (case z3 => k_is); (case z4 => k_is); (case z5 => k_is); (case z6 => k_is); (case z7 => k_is); (case z8 => k_is); (case z9 => k_is); (case z10 => k_is); (case z11 => k_is); (case z12 => k_is); (case z13 => k_is); (case z14 => k_is); (case z15 => k_is); (case z16 => k_is); (case z17 => k_is); (case z18 => k_is)
